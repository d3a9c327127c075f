-- Written by a program of this session over the translation (a variant of the printer, see wip/gen); Lean checks it.
import Derived.Test.YtogoelnijahihaaDoorPx0
import Derived.Test.YtogoelnijahihaaDoorPx1
import Derived.Test.YtogoelnijahihaaDoorPx3
namespace Go.Proofs.YtogoelnijahihaaDoor.P
open Go.RowKit Go.Proofs.YtogoelnijahihaaDoorW.PrintWords Go.Proofs.YtogoelnijahihaaDoorW.PrintLast Go.Proofs.YtogoelnijahihaaDoorW.PrintMore
attribute [local go_sem] Go.Proofs.YtogoelnijahihaaDoor.V.isSome_setCell max2_int min2_int max_two min_two max_three min_three max_four min_four   -- for this text's walks alone
set_option linter.unusedVariables false
set_option linter.unusedSimpArgs false

/-! ### strconv_Itoa_16: function 16 -/
def strconv_Itoa_16.f (a0 : Int) : Option (ByteArray) := (strconv_FormatInt.f a0 10).bind fun t140 => (some t140)
set_option maxHeartbeats 8000000 in
set_option maxRecDepth 100000 in
theorem strconv_Itoa_16.calls (a0 : Int) (r : ByteArray) (w : World) (h : strconv_Itoa_16.f a0 = some r) :
  Calls Tryd.prog 16 #[.int .i64 a0] w fun e w' => e = .returned (.string r) ∧ Drawn0 w w' := by
 have H : ((strconv_FormatInt.f a0 10).bind fun t140 => (some t140)) = some r := h
 clear h
 replace H := Option.bind_eq_some_iff.mp H
 obtain ⟨t140, A20, H⟩ := H
 replace H : (some t140) = some r := H
 have A2 := Aside0.mk A20
 clear A20
 obtain rfl := Option.some.inj H
 go_enter Tryd.func16, Tryd.ntmps16
 go_wp2_with (first | ((with_reducible refine gate_callee (f := 17) rfl ?_); refine goesL_ (some 4) rfl rfl Tryd.func17 (by kernel_rfl) rfl #[.int .i64 a0, .int .i64 10] rfl gmp ?_; (with_reducible refine (strconv_FormatInt.calls a0 10 t140 _ A2.out).mono ?_); rintro e w' ⟨rfl, ⟨nd, rfl⟩⟩; refine ⟨_, rfl, ?_⟩))
 go_ret
 exact ⟨by first | rfl | (simp; done) | (simp [*]; done), by repeat (first | exact Drawn0.refl _ | apply Drawn0.step)⟩

/-! ### strconv_Itoa_15: function 15 -/
def strconv_Itoa_15.f (a0 : Int) : Option (ByteArray) := (strconv_Itoa_16.f a0).bind fun t141 => (some t141)
set_option maxHeartbeats 8000000 in
set_option maxRecDepth 100000 in
theorem strconv_Itoa_15.calls (a0 : Int) (r : ByteArray) (w : World) (h : strconv_Itoa_15.f a0 = some r) :
  Calls Tryd.prog 15 #[.int .i64 a0] w fun e w' => e = .returned (.string r) ∧ Drawn0 w w' := by
 have H : ((strconv_Itoa_16.f a0).bind fun t141 => (some t141)) = some r := h
 clear h
 replace H := Option.bind_eq_some_iff.mp H
 obtain ⟨t141, A20, H⟩ := H
 replace H : (some t141) = some r := H
 have A2 := Aside0.mk A20
 clear A20
 obtain rfl := Option.some.inj H
 go_enter Tryd.func15, Tryd.ntmps15
 go_wp2_with (first | ((with_reducible refine gate_callee (f := 16) rfl ?_); refine goesL_ (some 4) rfl rfl Tryd.func16 (by kernel_rfl) rfl #[.int .i64 a0] rfl gmp ?_; (with_reducible refine (strconv_Itoa_16.calls a0 t141 _ A2.out).mono ?_); rintro e w' ⟨rfl, ⟨nd, rfl⟩⟩; refine ⟨_, rfl, ?_⟩))
 go_ret
 exact ⟨by first | rfl | (simp; done) | (simp [*]; done), by repeat (first | exact Drawn0.refl _ | apply Drawn0.step)⟩

/-! ### impl_decimal: function 13 -/
def impl_decimal.f (a0 : Int) : Option (ByteArray) := (strconv_Itoa_15.f a0).bind fun t142 => (some t142)
set_option maxHeartbeats 8000000 in
set_option maxRecDepth 100000 in
theorem impl_decimal.calls (a0 : Int) (r : ByteArray) (w : World) (h : impl_decimal.f a0 = some r) :
  Calls Tryd.prog 13 #[.int .i64 a0] w fun e w' => e = .returned (.string r) ∧ Drawn0 w w' := by
 have H : ((strconv_Itoa_15.f a0).bind fun t142 => (some t142)) = some r := h
 clear h
 replace H := Option.bind_eq_some_iff.mp H
 obtain ⟨t142, A20, H⟩ := H
 replace H : (some t142) = some r := H
 have A2 := Aside0.mk A20
 clear A20
 obtain rfl := Option.some.inj H
 go_enter Tryd.func13, Tryd.ntmps13
 go_wp2_with (first | ((with_reducible refine gate_callee (f := 15) rfl ?_); refine goesL_ (some 4) rfl rfl Tryd.func15 (by kernel_rfl) rfl #[.int .i64 a0] rfl gmp ?_; (with_reducible refine (strconv_Itoa_15.calls a0 t142 _ A2.out).mono ?_); rintro e w' ⟨rfl, ⟨nd, rfl⟩⟩; refine ⟨_, rfl, ?_⟩))
 go_ret
 exact ⟨by first | rfl | (simp; done) | (simp [*]; done), by repeat (first | exact Drawn0.refl _ | apply Drawn0.step)⟩

/-! ### impl_yardReasons: function 14 -/
def impl_yardReasons.f  : Option (List ByteArray) := some (([(⟨#[]⟩ : ByteArray), (⟨#[32, 105, 115, 32, 104, 101, 97, 118, 105, 101, 114, 32, 116, 104, 97, 110, 32, 116, 104, 101, 32, 111, 110, 101, 32, 98, 101, 108, 111, 119, 46]⟩ : ByteArray), (⟨#[32, 104, 97, 115, 32, 97, 110, 111, 116, 104, 101, 114, 32, 115, 105, 122, 101, 32, 116, 104, 97, 110, 32, 116, 104, 101, 32, 111, 110, 101, 32, 98, 101, 108, 111, 119, 46]⟩ : ByteArray), (⟨#[32, 109, 117, 115, 116, 32, 115, 116, 97, 110, 100, 32, 111, 110, 32, 116, 104, 101, 32, 103, 114, 111, 117, 110, 100, 46]⟩ : ByteArray), (⟨#[32, 110, 101, 101, 100, 115, 32, 112, 111, 119, 101, 114, 46]⟩ : ByteArray)] : List ByteArray))
set_option maxHeartbeats 8000000 in
set_option maxRecDepth 100000 in
theorem impl_yardReasons.calls  (r : List ByteArray) (w : World) (h : impl_yardReasons.f  = some r) :
  Calls Tryd.prog 14 #[] w fun e w' => ∃ v0_ : Value, e = .returned (v0_) ∧ Kd.R Kd.string 9 w' w.heap.size (fun _ => True) v0_ r ∧ Below w.heap.size w w' := by
 have HB := Aside0.mk (Below.refl w.heap.size w)
 have H : (some (([(⟨#[]⟩ : ByteArray), (⟨#[32, 105, 115, 32, 104, 101, 97, 118, 105, 101, 114, 32, 116, 104, 97, 110, 32, 116, 104, 101, 32, 111, 110, 101, 32, 98, 101, 108, 111, 119, 46]⟩ : ByteArray), (⟨#[32, 104, 97, 115, 32, 97, 110, 111, 116, 104, 101, 114, 32, 115, 105, 122, 101, 32, 116, 104, 97, 110, 32, 116, 104, 101, 32, 111, 110, 101, 32, 98, 101, 108, 111, 119, 46]⟩ : ByteArray), (⟨#[32, 109, 117, 115, 116, 32, 115, 116, 97, 110, 100, 32, 111, 110, 32, 116, 104, 101, 32, 103, 114, 111, 117, 110, 100, 46]⟩ : ByteArray), (⟨#[32, 110, 101, 101, 100, 115, 32, 112, 111, 119, 101, 114, 46]⟩ : ByteArray)] : List ByteArray))) = some r := h
 clear h
 obtain ⟨y143, hy143⟩ : ∃ y_ : List ByteArray, y_ = (([(⟨#[]⟩ : ByteArray), (⟨#[32, 105, 115, 32, 104, 101, 97, 118, 105, 101, 114, 32, 116, 104, 97, 110, 32, 116, 104, 101, 32, 111, 110, 101, 32, 98, 101, 108, 111, 119, 46]⟩ : ByteArray), (⟨#[32, 104, 97, 115, 32, 97, 110, 111, 116, 104, 101, 114, 32, 115, 105, 122, 101, 32, 116, 104, 97, 110, 32, 116, 104, 101, 32, 111, 110, 101, 32, 98, 101, 108, 111, 119, 46]⟩ : ByteArray), (⟨#[32, 109, 117, 115, 116, 32, 115, 116, 97, 110, 100, 32, 111, 110, 32, 116, 104, 101, 32, 103, 114, 111, 117, 110, 100, 46]⟩ : ByteArray), (⟨#[32, 110, 101, 101, 100, 115, 32, 112, 111, 119, 101, 114, 46]⟩ : ByteArray)] : List ByteArray)) := ⟨_, rfl⟩
 replace H : (some y143) = some r := by first | (rw [hy143]; with_reducible exact H) | (have H2_ := (Option.bind_some _ _).symm.trans H; rw [hy143]; with_reducible exact H2_) | (have H2_ := (Option.bind_some _ _).symm.trans H; with_reducible exact H2_) | with_reducible exact H | (rw [hy143]; exact H) | exact H
 have Ny143 := Aside0.mk hy143
 clear hy143
 obtain rfl := Option.some.inj H
 go_enter Tryd.func14, Tryd.ntmps14
 go_wp2_with (first | ((with_reducible refine gate_dst (N := 1) rfl ?_); refine Kd.R_lit Kd.string _ 9 ?hg (N := 1) ?hd (xs := ([(⟨#[]⟩ : ByteArray), (⟨#[32, 105, 115, 32, 104, 101, 97, 118, 105, 101, 114, 32, 116, 104, 97, 110, 32, 116, 104, 101, 32, 111, 110, 101, 32, 98, 101, 108, 111, 119, 46]⟩ : ByteArray), (⟨#[32, 104, 97, 115, 32, 97, 110, 111, 116, 104, 101, 114, 32, 115, 105, 122, 101, 32, 116, 104, 97, 110, 32, 116, 104, 101, 32, 111, 110, 101, 32, 98, 101, 108, 111, 119, 46]⟩ : ByteArray), (⟨#[32, 109, 117, 115, 116, 32, 115, 116, 97, 110, 100, 32, 111, 110, 32, 116, 104, 101, 32, 103, 114, 111, 117, 110, 100, 46]⟩ : ByteArray), (⟨#[32, 110, 101, 101, 100, 115, 32, 112, 111, 119, 101, 114, 46]⟩ : ByteArray)] : List ByteArray)) (inner := [.string (⟨#[]⟩ : ByteArray), .string (⟨#[32, 105, 115, 32, 104, 101, 97, 118, 105, 101, 114, 32, 116, 104, 97, 110, 32, 116, 104, 101, 32, 111, 110, 101, 32, 98, 101, 108, 111, 119, 46]⟩ : ByteArray), .string (⟨#[32, 104, 97, 115, 32, 97, 110, 111, 116, 104, 101, 114, 32, 115, 105, 122, 101, 32, 116, 104, 97, 110, 32, 116, 104, 101, 32, 111, 110, 101, 32, 98, 101, 108, 111, 119, 46]⟩ : ByteArray), .string (⟨#[32, 109, 117, 115, 116, 32, 115, 116, 97, 110, 100, 32, 111, 110, 32, 116, 104, 101, 32, 103, 114, 111, 117, 110, 100, 46]⟩ : ByteArray), .string (⟨#[32, 110, 101, 101, 100, 115, 32, 112, 111, 119, 101, 114, 46]⟩ : ByteArray)]) (ok := fun _ => True) (okp := fun _ => True) ?hr ?hp (fun _ hk => hk) trivial (Below.refl _ _) (Nat.le_refl _) (by simp) ?_; (case hd => rfl); (case hg => rfl); (case hr => first | (go_simp; done) | (go_simp; rfl)); (case hp => exact (Reps.one (show Kd.M Kd.string _ _ _ (⟨#[]⟩ : ByteArray) [.string (⟨#[]⟩ : ByteArray)] from rfl) (Reps.one (show Kd.M Kd.string _ _ _ (⟨#[32, 105, 115, 32, 104, 101, 97, 118, 105, 101, 114, 32, 116, 104, 97, 110, 32, 116, 104, 101, 32, 111, 110, 101, 32, 98, 101, 108, 111, 119, 46]⟩ : ByteArray) [.string (⟨#[32, 105, 115, 32, 104, 101, 97, 118, 105, 101, 114, 32, 116, 104, 97, 110, 32, 116, 104, 101, 32, 111, 110, 101, 32, 98, 101, 108, 111, 119, 46]⟩ : ByteArray)] from rfl) (Reps.one (show Kd.M Kd.string _ _ _ (⟨#[32, 104, 97, 115, 32, 97, 110, 111, 116, 104, 101, 114, 32, 115, 105, 122, 101, 32, 116, 104, 97, 110, 32, 116, 104, 101, 32, 111, 110, 101, 32, 98, 101, 108, 111, 119, 46]⟩ : ByteArray) [.string (⟨#[32, 104, 97, 115, 32, 97, 110, 111, 116, 104, 101, 114, 32, 115, 105, 122, 101, 32, 116, 104, 97, 110, 32, 116, 104, 101, 32, 111, 110, 101, 32, 98, 101, 108, 111, 119, 46]⟩ : ByteArray)] from rfl) (Reps.one (show Kd.M Kd.string _ _ _ (⟨#[32, 109, 117, 115, 116, 32, 115, 116, 97, 110, 100, 32, 111, 110, 32, 116, 104, 101, 32, 103, 114, 111, 117, 110, 100, 46]⟩ : ByteArray) [.string (⟨#[32, 109, 117, 115, 116, 32, 115, 116, 97, 110, 100, 32, 111, 110, 32, 116, 104, 101, 32, 103, 114, 111, 117, 110, 100, 46]⟩ : ByteArray)] from rfl) (Reps.one (show Kd.M Kd.string _ _ _ (⟨#[32, 110, 101, 101, 100, 115, 32, 112, 111, 119, 101, 114, 46]⟩ : ByteArray) [.string (⟨#[32, 110, 101, 101, 100, 115, 32, 112, 111, 119, 101, 114, 46]⟩ : ByteArray)] from rfl) (Reps.none _ _))))))); intro v144 w1 ho2 hb hg_ hnew_; clear hg_ hnew_; (first | rw [← Ny143.out] at ho2 | (simp only [Int.reduceToNat] at ho2; rw [← Ny143.out] at ho2)); have n0_ := Aside0.mk (Kd.R_lower ho2 (below_size (bel HB))); have n1_ := Aside0.mk (below_step (bel HB) hb); clear HB; have HO145 := n0_; have HB := n1_; clear n0_ n1_; clear hb ho2))
 go_ret
 exact ⟨_, by first | rfl | (simp [errW_none, errW_some] <;> rfl) | (simp [*, errW_none, errW_some] <;> rfl), rdl HO145, bel HB⟩

/-! ### impl_yardFindingText: function 10 -/
def impl_yardFindingText.f (a0_0 : Int) (a0_1 : Int) (a0_2 : Int) : Option (ByteArray) := (impl_decimal.f a0_1).bind fun t147 => (if 23 + t147.size ≤ 9223372036854775807 then (if ((⟨#[84, 104, 101, 32, 99, 111, 110, 116, 97, 105, 110, 101, 114, 32, 105, 110, 32, 115, 116, 97, 99, 107, 32]⟩ : ByteArray) ++ t147).size + 7 ≤ 9223372036854775807 then ((impl_decimal.f a0_2).bind fun t148 => (if (((⟨#[84, 104, 101, 32, 99, 111, 110, 116, 97, 105, 110, 101, 114, 32, 105, 110, 32, 115, 116, 97, 99, 107, 32]⟩ : ByteArray) ++ t147) ++ (⟨#[44, 32, 116, 105, 101, 114, 32]⟩ : ByteArray)).size + t148.size ≤ 9223372036854775807 then ((impl_yardReasons.f).bind fun t149 => (if 0 ≤ a0_0 then (if a0_0 < (t149.length : Int) then (if ((((⟨#[84, 104, 101, 32, 99, 111, 110, 116, 97, 105, 110, 101, 114, 32, 105, 110, 32, 115, 116, 97, 99, 107, 32]⟩ : ByteArray) ++ t147) ++ (⟨#[44, 32, 116, 105, 101, 114, 32]⟩ : ByteArray)) ++ t148).size + (rdOf ByteArray.empty t149 a0_0).size ≤ 9223372036854775807 then (some (((((⟨#[84, 104, 101, 32, 99, 111, 110, 116, 97, 105, 110, 101, 114, 32, 105, 110, 32, 115, 116, 97, 99, 107, 32]⟩ : ByteArray) ++ t147) ++ (⟨#[44, 32, 116, 105, 101, 114, 32]⟩ : ByteArray)) ++ t148) ++ (rdOf ByteArray.empty t149 a0_0))) else (none)) else (none)) else (none))) else (none))) else (none)) else (none))
def impl_yardFindingText.T1 : Bool × List (List Nat × List Nat) := (true, [([], []), ([0], [0]), ([1], [1]), ([2], [2]), ([3], [3]), ([], []), ([5], [5]), ([6, 2], [6]), ([4, 7], [4, 7]), ([7], []), ([], []), ([10], [10]), ([9, 11], [9, 11]), ([12], [12]), ([8, 13], [8, 13]), ([14, 9, 0, 1, 2, 3, 4, 5, 6, 7, 8, 9, 10, 11, 12, 13, 14], [14])])
def impl_yardFindingText.B1 : List Nat := [0, 1, 3, 7, 15, 0, 32, 103, 255, 231, 0, 1024, 3815, 7911, 16383, 32767]
theorem impl_yardFindingText.tab1 : rtab .any (opsOf Tryd.f10 1) = impl_yardFindingText.T1 := by kernel_rfl
theorem impl_yardFindingText.bits1 : waitsOk impl_yardFindingText.T1.2 impl_yardFindingText.B1 = true := by kernel_rfl
set_option maxHeartbeats 8000000 in
set_option maxRecDepth 100000 in
theorem impl_yardFindingText.calls (a0_0 : Int) (a0_1 : Int) (a0_2 : Int) (r : ByteArray) (w : World) (h : impl_yardFindingText.f a0_0 a0_1 a0_2 = some r) :
  Calls Tryd.prog 10 #[.agg #[.int .i64 a0_0, .int .i64 a0_1, .int .i64 a0_2]] w fun e w' => e = .returned (.string r) ∧ Below w.heap.size w w' := by
 have hu26 := Tryd.underlying26
 have HB := Aside0.mk (Below.refl w.heap.size w)
 have H : ((impl_decimal.f a0_1).bind fun t147 => (if 23 + t147.size ≤ 9223372036854775807 then (if ((⟨#[84, 104, 101, 32, 99, 111, 110, 116, 97, 105, 110, 101, 114, 32, 105, 110, 32, 115, 116, 97, 99, 107, 32]⟩ : ByteArray) ++ t147).size + 7 ≤ 9223372036854775807 then ((impl_decimal.f a0_2).bind fun t148 => (if (((⟨#[84, 104, 101, 32, 99, 111, 110, 116, 97, 105, 110, 101, 114, 32, 105, 110, 32, 115, 116, 97, 99, 107, 32]⟩ : ByteArray) ++ t147) ++ (⟨#[44, 32, 116, 105, 101, 114, 32]⟩ : ByteArray)).size + t148.size ≤ 9223372036854775807 then ((impl_yardReasons.f).bind fun t149 => (if 0 ≤ a0_0 then (if a0_0 < (t149.length : Int) then (if ((((⟨#[84, 104, 101, 32, 99, 111, 110, 116, 97, 105, 110, 101, 114, 32, 105, 110, 32, 115, 116, 97, 99, 107, 32]⟩ : ByteArray) ++ t147) ++ (⟨#[44, 32, 116, 105, 101, 114, 32]⟩ : ByteArray)) ++ t148).size + (rdOf ByteArray.empty t149 a0_0).size ≤ 9223372036854775807 then (some (((((⟨#[84, 104, 101, 32, 99, 111, 110, 116, 97, 105, 110, 101, 114, 32, 105, 110, 32, 115, 116, 97, 99, 107, 32]⟩ : ByteArray) ++ t147) ++ (⟨#[44, 32, 116, 105, 101, 114, 32]⟩ : ByteArray)) ++ t148) ++ (rdOf ByteArray.empty t149 a0_0))) else (none)) else (none)) else (none))) else (none))) else (none)) else (none))) = some r := h
 clear h
 replace H := Option.bind_eq_some_iff.mp H
 obtain ⟨t147, A20, H⟩ := H
 replace H : (if 23 + t147.size ≤ 9223372036854775807 then (if ((⟨#[84, 104, 101, 32, 99, 111, 110, 116, 97, 105, 110, 101, 114, 32, 105, 110, 32, 115, 116, 97, 99, 107, 32]⟩ : ByteArray) ++ t147).size + 7 ≤ 9223372036854775807 then ((impl_decimal.f a0_2).bind fun t148 => (if (((⟨#[84, 104, 101, 32, 99, 111, 110, 116, 97, 105, 110, 101, 114, 32, 105, 110, 32, 115, 116, 97, 99, 107, 32]⟩ : ByteArray) ++ t147) ++ (⟨#[44, 32, 116, 105, 101, 114, 32]⟩ : ByteArray)).size + t148.size ≤ 9223372036854775807 then ((impl_yardReasons.f).bind fun t149 => (if 0 ≤ a0_0 then (if a0_0 < (t149.length : Int) then (if ((((⟨#[84, 104, 101, 32, 99, 111, 110, 116, 97, 105, 110, 101, 114, 32, 105, 110, 32, 115, 116, 97, 99, 107, 32]⟩ : ByteArray) ++ t147) ++ (⟨#[44, 32, 116, 105, 101, 114, 32]⟩ : ByteArray)) ++ t148).size + (rdOf ByteArray.empty t149 a0_0).size ≤ 9223372036854775807 then (some (((((⟨#[84, 104, 101, 32, 99, 111, 110, 116, 97, 105, 110, 101, 114, 32, 105, 110, 32, 115, 116, 97, 99, 107, 32]⟩ : ByteArray) ++ t147) ++ (⟨#[44, 32, 116, 105, 101, 114, 32]⟩ : ByteArray)) ++ t148) ++ (rdOf ByteArray.empty t149 a0_0))) else (none)) else (none)) else (none))) else (none))) else (none)) else (none)) = some r := H
 have A2 := Aside0.mk A20
 clear A20
 by_cases c3 : 23 + t147.size ≤ 9223372036854775807
 ·rw [if_pos c3] at H
  have c3b0 := eq_true c3
  have c3b1 : decide (23 + t147.size ≤ 9223372036854775807) = true := decide_eq_true c3
  try have c3b2 : (9223372036854775807 < 23 + t147.size) = False := eq_false (Nat.not_lt.2 c3)
  by_cases c4 : ((⟨#[84, 104, 101, 32, 99, 111, 110, 116, 97, 105, 110, 101, 114, 32, 105, 110, 32, 115, 116, 97, 99, 107, 32]⟩ : ByteArray) ++ t147).size + 7 ≤ 9223372036854775807
  ·rw [if_pos c4] at H
   have c4b0 := eq_true c4
   have c4b1 : decide (((⟨#[84, 104, 101, 32, 99, 111, 110, 116, 97, 105, 110, 101, 114, 32, 105, 110, 32, 115, 116, 97, 99, 107, 32]⟩ : ByteArray) ++ t147).size + 7 ≤ 9223372036854775807) = true := decide_eq_true c4
   try have c4b2 : (9223372036854775807 < ((⟨#[84, 104, 101, 32, 99, 111, 110, 116, 97, 105, 110, 101, 114, 32, 105, 110, 32, 115, 116, 97, 99, 107, 32]⟩ : ByteArray) ++ t147).size + 7) = False := eq_false (Nat.not_lt.2 c4)
   try have c4b3 : (9223372036854775807 < 23 + t147.size + 7) = False := eq_false (Nat.not_lt.2 (by have h_ := c4; simp only [ByteArray.size_append, ByteArray.size_extract] at h_; first | exact h_ | (simp at h_; omega) | (simp [ByteArray.size] at h_ ⊢; omega)))
   replace H := Option.bind_eq_some_iff.mp H
   obtain ⟨t148, A50, H⟩ := H
   replace H : (if (((⟨#[84, 104, 101, 32, 99, 111, 110, 116, 97, 105, 110, 101, 114, 32, 105, 110, 32, 115, 116, 97, 99, 107, 32]⟩ : ByteArray) ++ t147) ++ (⟨#[44, 32, 116, 105, 101, 114, 32]⟩ : ByteArray)).size + t148.size ≤ 9223372036854775807 then ((impl_yardReasons.f).bind fun t149 => (if 0 ≤ a0_0 then (if a0_0 < (t149.length : Int) then (if ((((⟨#[84, 104, 101, 32, 99, 111, 110, 116, 97, 105, 110, 101, 114, 32, 105, 110, 32, 115, 116, 97, 99, 107, 32]⟩ : ByteArray) ++ t147) ++ (⟨#[44, 32, 116, 105, 101, 114, 32]⟩ : ByteArray)) ++ t148).size + (rdOf ByteArray.empty t149 a0_0).size ≤ 9223372036854775807 then (some (((((⟨#[84, 104, 101, 32, 99, 111, 110, 116, 97, 105, 110, 101, 114, 32, 105, 110, 32, 115, 116, 97, 99, 107, 32]⟩ : ByteArray) ++ t147) ++ (⟨#[44, 32, 116, 105, 101, 114, 32]⟩ : ByteArray)) ++ t148) ++ (rdOf ByteArray.empty t149 a0_0))) else (none)) else (none)) else (none))) else (none)) = some r := H
   have A5 := Aside0.mk A50
   clear A50
   by_cases c6 : (((⟨#[84, 104, 101, 32, 99, 111, 110, 116, 97, 105, 110, 101, 114, 32, 105, 110, 32, 115, 116, 97, 99, 107, 32]⟩ : ByteArray) ++ t147) ++ (⟨#[44, 32, 116, 105, 101, 114, 32]⟩ : ByteArray)).size + t148.size ≤ 9223372036854775807
   ·rw [if_pos c6] at H
    have c6b0 := eq_true c6
    have c6b1 : decide ((((⟨#[84, 104, 101, 32, 99, 111, 110, 116, 97, 105, 110, 101, 114, 32, 105, 110, 32, 115, 116, 97, 99, 107, 32]⟩ : ByteArray) ++ t147) ++ (⟨#[44, 32, 116, 105, 101, 114, 32]⟩ : ByteArray)).size + t148.size ≤ 9223372036854775807) = true := decide_eq_true c6
    try have c6b2 : (9223372036854775807 < (((⟨#[84, 104, 101, 32, 99, 111, 110, 116, 97, 105, 110, 101, 114, 32, 105, 110, 32, 115, 116, 97, 99, 107, 32]⟩ : ByteArray) ++ t147) ++ (⟨#[44, 32, 116, 105, 101, 114, 32]⟩ : ByteArray)).size + t148.size) = False := eq_false (Nat.not_lt.2 c6)
    try have c6b3 : (9223372036854775807 < 23 + t147.size + 7 + t148.size) = False := eq_false (Nat.not_lt.2 (by have h_ := c6; simp only [ByteArray.size_append, ByteArray.size_extract] at h_; first | exact h_ | (simp at h_; omega) | (simp [ByteArray.size] at h_ ⊢; omega)))
    replace H := Option.bind_eq_some_iff.mp H
    obtain ⟨t149, A70, H⟩ := H
    replace H : (if 0 ≤ a0_0 then (if a0_0 < (t149.length : Int) then (if ((((⟨#[84, 104, 101, 32, 99, 111, 110, 116, 97, 105, 110, 101, 114, 32, 105, 110, 32, 115, 116, 97, 99, 107, 32]⟩ : ByteArray) ++ t147) ++ (⟨#[44, 32, 116, 105, 101, 114, 32]⟩ : ByteArray)) ++ t148).size + (rdOf ByteArray.empty t149 a0_0).size ≤ 9223372036854775807 then (some (((((⟨#[84, 104, 101, 32, 99, 111, 110, 116, 97, 105, 110, 101, 114, 32, 105, 110, 32, 115, 116, 97, 99, 107, 32]⟩ : ByteArray) ++ t147) ++ (⟨#[44, 32, 116, 105, 101, 114, 32]⟩ : ByteArray)) ++ t148) ++ (rdOf ByteArray.empty t149 a0_0))) else (none)) else (none)) else (none)) = some r := H
    have A7 := Aside0.mk A70
    clear A70
    by_cases c8 : 0 ≤ a0_0
    ·rw [if_pos c8] at H
     have c8b0 : decide (0 ≤ a0_0) = true := decide_eq_true c8
     clear c8
     by_cases c9 : a0_0 < (t149.length : Int)
     ·rw [if_pos c9] at H
      have c9b0 : decide (a0_0 < (t149.length : Int)) = true := decide_eq_true c9
      clear c9
      by_cases c10 : ((((⟨#[84, 104, 101, 32, 99, 111, 110, 116, 97, 105, 110, 101, 114, 32, 105, 110, 32, 115, 116, 97, 99, 107, 32]⟩ : ByteArray) ++ t147) ++ (⟨#[44, 32, 116, 105, 101, 114, 32]⟩ : ByteArray)) ++ t148).size + (rdOf ByteArray.empty t149 a0_0).size ≤ 9223372036854775807
      ·rw [if_pos c10] at H
       have c10b0 := eq_true c10
       have c10b1 : decide (((((⟨#[84, 104, 101, 32, 99, 111, 110, 116, 97, 105, 110, 101, 114, 32, 105, 110, 32, 115, 116, 97, 99, 107, 32]⟩ : ByteArray) ++ t147) ++ (⟨#[44, 32, 116, 105, 101, 114, 32]⟩ : ByteArray)) ++ t148).size + (rdOf ByteArray.empty t149 a0_0).size ≤ 9223372036854775807) = true := decide_eq_true c10
       try have c10b2 : (9223372036854775807 < ((((⟨#[84, 104, 101, 32, 99, 111, 110, 116, 97, 105, 110, 101, 114, 32, 105, 110, 32, 115, 116, 97, 99, 107, 32]⟩ : ByteArray) ++ t147) ++ (⟨#[44, 32, 116, 105, 101, 114, 32]⟩ : ByteArray)) ++ t148).size + (rdOf ByteArray.empty t149 a0_0).size) = False := eq_false (Nat.not_lt.2 c10)
       try have c10b3 : (9223372036854775807 < 23 + t147.size + 7 + t148.size + (rdOf ByteArray.empty t149 a0_0).size) = False := eq_false (Nat.not_lt.2 (by have h_ := c10; simp only [ByteArray.size_append, ByteArray.size_extract] at h_; first | exact h_ | (simp at h_; omega) | (simp [ByteArray.size] at h_ ⊢; omega)))
       obtain rfl := Option.some.inj H
       go_enter Tryd.func10, Tryd.ntmps10
       try go_wp2_with (first | ((with_reducible refine gate_dst (N := 1) rfl ?_); refine box_event ?hg (N := 1) ?hd (cs := #[.int .i64 a0_0, .int .i64 a0_1, .int .i64 a0_2]) (t := 26) ?hr ?_; (case hd => rfl); (case hg => rfl); (case hr => first | (go_simp; done) | (go_simp; rfl)); intro gb146 hg w11 hbox hb; have n0_ := Aside0.mk (below_step (bel HB) hb); have n1_ := Aside0.mk (hbox); have n2_ := Aside0.mk ((by rw [hg]; exact (below_size (bel HB)) : w.heap.size ≤ gb146)); have n3_ := Aside0.mk ((by rw [hg]; exact (below_size (bel HB)) : w.heap.size ≤ gb146)); clear HB; have HB := n0_; have BK146 := n1_; have GW146 := n2_; have GE146 := n3_; clear n0_ n1_ n2_ n3_; clear hb hbox hg))
       have n0_ := Aside0.mk (blk_drew BK146.out)
       have n1_ := Aside0.mk (below_drew1 HB.out)
       clear BK146
       clear HB
       have BK146 := n0_
       have HB := n1_
       clear n0_ n1_
       refine start_ (n := 16) (S := fun w' => w'.cell? ⟨gb146, 0, none⟩ = some (.int .i64 a0_0) ∧ w'.cell? ⟨gb146, 1, none⟩ = some (.int .i64 a0_1) ∧ w'.cell? ⟨gb146, 2, none⟩ = some (.int .i64 a0_2)) (ds := []) #[false, false, false, false, false, false, false, false, false, false, false, false, false, false, false, false] (by kernel_rfl) rfl rfl ⟨(blk_cell BK146.out 0).trans rfl, (blk_cell BK146.out 1).trans rfl, (blk_cell BK146.out 2).trans rfl⟩ (fun hHeld => ?_); refine with_tabW impl_yardFindingText.tab1 impl_yardFindingText.bits1 (fun HT_ HW_ => ?_)
       generalize w11.drew = w12 at BK146 HB hHeld ⊢
       refine pure_ (i := 0) (N := some 3) (v := ?_) (a' := ?_) #[true, false, false, false, false, false, false, false, false, false, false, false, false, false, false, false] rfl rfl (any_of HT_.out (by kernel_rfl)) (fun _ _ _ h => h) (Or.inl ⟨by rfl, ?_⟩) ?_ ?_
       rotate_left
       ·intro w'
        go_simp
        with_reducible rfl
       rotate_left
       ·simp only [Act.put, List.setIfInBounds_toArray, List.set_cons_zero, List.set_cons_succ, i64_w, i32_w]
        rfl
       refine pure_ (i := 5) (N := some 8) (v := ?_) (a' := ?_) #[true, false, false, false, false, true, false, false, false, false, false, false, false, false, false, false] rfl rfl (any_of HT_.out (by kernel_rfl)) (fun _ _ _ h => h) (Or.inl ⟨by rfl, ?_⟩) ?_ ?_
       rotate_left
       ·intro w'
        go_simp
        with_reducible rfl
       rotate_left
       ·simp only [Act.put, List.setIfInBounds_toArray, List.set_cons_zero, List.set_cons_succ, i64_w, i32_w]
        rfl
       refine pure_ (i := 10) (N := some 13) (v := ?_) (a' := ?_) #[true, false, false, false, false, true, false, false, false, false, true, false, false, false, false, false] rfl rfl (any_of HT_.out (by kernel_rfl)) (fun _ _ _ h => h) (Or.inl ⟨by rfl, ?_⟩) ?_ ?_
       rotate_left
       ·intro w'
        go_simp
        with_reducible rfl
       rotate_left
       ·simp only [Act.put, List.setIfInBounds_toArray, List.set_cons_zero, List.set_cons_succ, i64_w, i32_w]
        rfl
       refine take_ (i := 1) (N := some 4) (v := ?_) (a' := ?_) #[true, true, false, false, false, true, false, false, false, false, true, false, false, false, false, false] rfl rfl (take_ofW HT_.out HW_.out (by kernel_rfl)) (fun _ _ _ h => h) (Or.inl ⟨by rfl, ?_⟩) hHeld ?_ ?_
       rotate_left
       ·rintro w' ⟨s0, s1, s2⟩
        go_simp
        with_reducible rfl
       rotate_left
       ·simp only [Act.put, List.setIfInBounds_toArray, List.set_cons_zero, List.set_cons_succ, i64_w, i32_w]
        rfl
       refine take_ (i := 6) (N := some 9) (v := ?_) (a' := ?_) #[true, true, false, false, false, true, true, false, false, false, true, false, false, false, false, false] rfl rfl (take_ofW HT_.out HW_.out (by kernel_rfl)) (fun _ _ _ h => h) (Or.inl ⟨by rfl, ?_⟩) hHeld ?_ ?_
       rotate_left
       ·rintro w' ⟨s0, s1, s2⟩
        go_simp
        with_reducible rfl
       rotate_left
       ·simp only [Act.put, List.setIfInBounds_toArray, List.set_cons_zero, List.set_cons_succ, i64_w, i32_w]
        rfl
       refine take_ (i := 11) (N := some 14) (v := ?_) (a' := ?_) #[true, true, false, false, false, true, true, false, false, false, true, true, false, false, false, false] rfl rfl (take_ofW HT_.out HW_.out (by kernel_rfl)) (fun _ _ _ h => h) (Or.inl ⟨by rfl, ?_⟩) hHeld ?_ ?_
       rotate_left
       ·rintro w' ⟨s0, s1, s2⟩
        go_simp
        with_reducible rfl
       rotate_left
       ·simp only [Act.put, List.setIfInBounds_toArray, List.set_cons_zero, List.set_cons_succ, i64_w, i32_w]
        rfl
       refine one_ (i := 2) (N := some 5) #[true, true, true, false, false, true, true, false, false, false, true, true, false, false, false, false] rfl rfl (one_of HT_.out (by kernel_rfl)) (by decide) (fun K hK => ?_)
       refine goes_ Tryd.func13 (by kernel_rfl) rfl #[.int .i64 a0_1] (by rfl) rfl rfl gmp ?_
       with_reducible refine (impl_decimal.calls a0_1 t147 _ A2.out).mono ?_
       rintro e w' ⟨rfl, ⟨nd, rfl⟩⟩
       refine ⟨_, rfl, ?_⟩
       refine hK.out _ _ ⟨(blk_cell BK146.out 0).trans rfl, (blk_cell BK146.out 1).trans rfl, (blk_cell BK146.out 2).trans rfl⟩ (fun hHeld => ?_)
       clear hK K
       refine norm_ (a' := ?_) ?_ ?_
       rotate_left
       ·show Act.put _ (some 5) _ = _
        simp only [Act.put, List.setIfInBounds_toArray, List.set_cons_zero, List.set_cons_succ, i64_w, i32_w]
        rfl
       refine pure_ (i := 3) (N := some 6) (v := ?_) (a' := ?_) #[true, true, true, true, false, true, true, false, false, false, true, true, false, false, false, false] rfl rfl (any_of HT_.out (by kernel_rfl)) (fun _ _ _ h => h) (Or.inl ⟨by rfl, ?_⟩) ?_ ?_
       rotate_left
       ·intro w'
        go_simp
        with_reducible rfl
       rotate_left
       ·simp only [Act.put, List.setIfInBounds_toArray, List.set_cons_zero, List.set_cons_succ, i64_w, i32_w]
        rfl
       refine pure_ (i := 4) (N := some 7) (v := ?_) (a' := ?_) #[true, true, true, true, true, true, true, false, false, false, true, true, false, false, false, false] rfl rfl (any_of HT_.out (by kernel_rfl)) (fun _ _ _ h => h) (Or.inl ⟨by rfl, ?_⟩) ?_ ?_
       rotate_left
       ·intro w'
        go_simp
        with_reducible rfl
       rotate_left
       ·simp only [Act.put, List.setIfInBounds_toArray, List.set_cons_zero, List.set_cons_succ, i64_w, i32_w]
        rfl
       refine one_ (i := 7) (N := some 10) #[true, true, true, true, true, true, true, true, false, false, true, true, false, false, false, false] rfl rfl (one_of HT_.out (by kernel_rfl)) (by decide) (fun K hK => ?_)
       refine goes_ Tryd.func13 (by kernel_rfl) rfl #[.int .i64 a0_2] (by rfl) rfl rfl gmp ?_
       with_reducible refine (impl_decimal.calls a0_2 t148 _ A5.out).mono ?_
       rintro e w' ⟨rfl, ⟨nd, rfl⟩⟩
       refine ⟨_, rfl, ?_⟩
       refine hK.out _ _ ⟨(blk_cell BK146.out 0).trans rfl, (blk_cell BK146.out 1).trans rfl, (blk_cell BK146.out 2).trans rfl⟩ (fun hHeld => ?_)
       clear hK K
       refine norm_ (a' := ?_) ?_ ?_
       rotate_left
       ·show Act.put _ (some 10) _ = _
        simp only [Act.put, List.setIfInBounds_toArray, List.set_cons_zero, List.set_cons_succ, i64_w, i32_w]
        rfl
       refine pure_ (i := 8) (N := some 11) (v := ?_) (a' := ?_) #[true, true, true, true, true, true, true, true, true, false, true, true, false, false, false, false] rfl rfl (any_of HT_.out (by kernel_rfl)) (fun _ _ _ h => h) (Or.inl ⟨by rfl, ?_⟩) ?_ ?_
       rotate_left
       ·intro w'
        go_simp
        with_reducible rfl
       rotate_left
       ·simp only [Act.put, List.setIfInBounds_toArray, List.set_cons_zero, List.set_cons_succ, i64_w, i32_w]
        rfl
       refine one_ (i := 9) (N := some 12) #[true, true, true, true, true, true, true, true, true, true, true, true, false, false, false, false] rfl rfl (one_of HT_.out (by kernel_rfl)) (by decide) (fun K hK => ?_)
       refine goes_ Tryd.func14 (by kernel_rfl) rfl #[] (by rfl) rfl rfl gmp ?_
       with_reducible refine (impl_yardReasons.calls  t149 _ A7.out).mono ?_
       rintro e w13 ⟨v150, rfl, ho0, hb⟩
       refine ⟨_, rfl, ?_⟩
       have n0_ := Aside0.mk (Kd.R_lower ho0 (below_size (bel1 HB GE146)))
       have n1_ := Aside0.mk (blk_below (g := gb146) (o := .cells #[.int .i64 a0_0, .int .i64 a0_1, .int .i64 a0_2] 26 (0, 0)) (bkl BK146) hb)
       have n2_ := Aside0.mk (below_step (bel1 HB GE146) hb)
       clear BK146
       clear HB
       have HO151 := n0_
       have BK146 := n1_
       have HB := n2_
       clear n0_ n1_ n2_
       (try clear hb)
       (try clear hb2)
       (try clear hk)
       (try clear hi)
       (try clear ho0)
       obtain ⟨Ao14, co14, eo14⟩ := Kd.R_slice HO151.out
       (first | subst eo14 | (injection eo14 with f1_ f2_ f3_; have f4_ := f1_.symm; have f5_ := f3_.symm; clear f1_ f2_ f3_; subst f4_; subst f5_))
       have p152 : 0 ≤ (a0_0 : Int) := oda
       have q152 : a0_0 < (t149.length : Int) := oda
       obtain ⟨ad152, e152, hx152_0⟩ := Kd.at_string (Kd.R_reads' HO151.out).2.2 a0_0 p152 q152
       cases e152
       replace p152 := eq_true p152
       replace q152 := eq_true q152
       refine hK.out _ _ ⟨(blk_cell BK146.out 0).trans rfl, (blk_cell BK146.out 1).trans rfl, (blk_cell BK146.out 2).trans rfl⟩ (fun hHeld => ?_)
       clear hK K
       refine norm_ (a' := ?_) ?_ ?_
       rotate_left
       ·show Act.put _ (some 12) _ = _
        simp only [Act.put, List.setIfInBounds_toArray, List.set_cons_zero, List.set_cons_succ, i64_w, i32_w]
        rfl
       refine pure_ (i := 12) (N := some 15) (v := ?_) (a' := ?_) #[true, true, true, true, true, true, true, true, true, true, true, true, true, false, false, false] rfl rfl (any_of HT_.out (by kernel_rfl)) (fun _ _ _ h => h) (Or.inl ⟨by rfl, ?_⟩) ?_ ?_
       rotate_left
       ·intro w'
        go_simp
        with_reducible rfl
       rotate_left
       ·simp only [Act.put, List.setIfInBounds_toArray, List.set_cons_zero, List.set_cons_succ, i64_w, i32_w]
        rfl
       refine one_ (i := 13) (N := some 16) #[true, true, true, true, true, true, true, true, true, true, true, true, true, true, false, false] rfl rfl (one_of HT_.out (by kernel_rfl)) (by decide) (fun K hK => ?_)
       refine value_ (w1 := ?_) (v := ?_) (by rfl) rfl ?_ ?_
       rotate_left 2
       ·go_simp
        constructor
        ·rfl
        ·rfl
       refine hK.out _ _ ⟨(blk_cell BK146.out 0).trans rfl, (blk_cell BK146.out 1).trans rfl, (blk_cell BK146.out 2).trans rfl⟩ (fun hHeld => ?_)
       clear hK K
       refine norm_ (a' := ?_) ?_ ?_
       rotate_left
       ·show Act.put _ (some 16) _ = _
        simp only [Act.put, List.setIfInBounds_toArray, List.set_cons_zero, List.set_cons_succ, i64_w, i32_w]
        rfl
       refine pure_ (i := 14) (N := some 17) (v := ?_) (a' := ?_) #[true, true, true, true, true, true, true, true, true, true, true, true, true, true, true, false] rfl rfl (any_of HT_.out (by kernel_rfl)) (fun _ _ _ h => h) (Or.inl ⟨by rfl, ?_⟩) ?_ ?_
       rotate_left
       ·intro w'
        go_simp
        with_reducible rfl
       rotate_left
       ·simp only [Act.put, List.setIfInBounds_toArray, List.set_cons_zero, List.set_cons_succ, i64_w, i32_w]
        rfl
       refine pure_ (i := 15) (N := some 2) (v := ?_) (a' := ?_) #[true, true, true, true, true, true, true, true, true, true, true, true, true, true, true, true] rfl rfl (any_of HT_.out (by kernel_rfl)) (fun _ _ _ h => h) (Or.inl ⟨by rfl, ?_⟩) ?_ ?_
       rotate_left
       ·intro w'
        go_simp
        with_reducible rfl
       rotate_left
       ·simp only [Act.put, List.setIfInBounds_toArray, List.set_cons_zero, List.set_cons_succ, i64_w, i32_w]
        rfl
       refine done_ (done_of HT_.out (by kernel_rfl)) ?_
       try go_wp2
       go_ret
       exact ⟨by first | rfl | (simp [errW_none, errW_some] <;> rfl) | (simp [*, errW_none, errW_some] <;> rfl), bel1 HB GE146⟩
      ·rw [if_neg c10] at H
       exact absurd H (by simp)
     ·rw [if_neg c9] at H
      exact absurd H (by simp)
    ·rw [if_neg c8] at H
     exact absurd H (by simp)
   ·rw [if_neg c6] at H
    exact absurd H (by simp)
  ·rw [if_neg c4] at H
   exact absurd H (by simp)
 ·rw [if_neg c3] at H
  exact absurd H (by simp)

/-! ### impl_YardFindingText: function 6 -/
def impl_YardFindingText.f (a0_0 : Int) (a0_1 : Int) (a0_2 : Int) : Option (ByteArray × Bool) := (impl_isFinding.f a0_0 a0_1 a0_2).bind fun t154 => (if t154 = true then ((impl_yardFindingText.f a0_0 a0_1 a0_2).bind fun t155 => (some (t155, true))) else (some ((⟨#[]⟩ : ByteArray), false)))
set_option maxHeartbeats 8000000 in
set_option maxRecDepth 100000 in
theorem impl_YardFindingText.calls (a0_0 : Int) (a0_1 : Int) (a0_2 : Int) (r1 : ByteArray) (r2 : Bool) (w : World) (h : impl_YardFindingText.f a0_0 a0_1 a0_2 = some (r1, r2)) :
  Calls Tryd.prog 6 #[.agg #[.int .i64 a0_0, .int .i64 a0_1, .int .i64 a0_2]] w fun e w' => e = .returned (.tuple #[.string r1, .bool r2]) ∧ Below w.heap.size w w' := by
 have hu26 := Tryd.underlying26
 have HB := Aside0.mk (Below.refl w.heap.size w)
 have H : ((impl_isFinding.f a0_0 a0_1 a0_2).bind fun t154 => (if t154 = true then ((impl_yardFindingText.f a0_0 a0_1 a0_2).bind fun t155 => (some (t155, true))) else (some ((⟨#[]⟩ : ByteArray), false)))) = some (r1, r2) := h
 clear h
 replace H := Option.bind_eq_some_iff.mp H
 obtain ⟨t154, A20, H⟩ := H
 replace H : (if t154 = true then ((impl_yardFindingText.f a0_0 a0_1 a0_2).bind fun t155 => (some (t155, true))) else (some ((⟨#[]⟩ : ByteArray), false))) = some (r1, r2) := H
 have A2 := Aside0.mk A20
 clear A20
 by_cases c3 : t154 = true
 ·subst c3
  have H1 : ((impl_yardFindingText.f a0_0 a0_1 a0_2).bind fun t155 => (some (t155, true))) = some (r1, r2) := by rw [if_pos rfl] at H; exact H
  clear H
  have H := H1
  clear H1
  replace H := Option.bind_eq_some_iff.mp H
  obtain ⟨t155, A40, H⟩ := H
  replace H : (some (t155, true)) = some (r1, r2) := H
  have A4 := Aside0.mk A40
  clear A40
  simp only [Option.some.injEq, Prod.mk.injEq] at H
  obtain ⟨rfl, rfl⟩ := H
  go_enter Tryd.func6, Tryd.ntmps6
  go_wp2_with (first | ((with_reducible refine gate_dst (N := 1) rfl ?_); refine box_event ?hg (N := 1) ?hd (cs := #[.int .i64 a0_0, .int .i64 a0_1, .int .i64 a0_2]) (t := 26) ?hr ?_; (case hd => rfl); (case hg => rfl); (case hr => first | (go_simp; done) | (go_simp; rfl)); intro gb153 hg w5 hbox hb; have n0_ := Aside0.mk (below_step (bel HB) hb); have n1_ := Aside0.mk (hbox); have n2_ := Aside0.mk ((by rw [hg]; exact (below_size (bel HB)) : w.heap.size ≤ gb153)); have n3_ := Aside0.mk ((by rw [hg]; exact (below_size (bel HB)) : w.heap.size ≤ gb153)); clear HB; have HB := n0_; have BK153 := n1_; have GW153 := n2_; have GE153 := n3_; clear n0_ n1_ n2_ n3_; clear hb hbox hg; have hcz6_0 : w5.cell? ⟨gb153, 0, none⟩ = some (.int .i64 a0_0) := (blk_cell BK153.out 0).trans rfl; have hcz6_1 : w5.cell? ⟨gb153, 1, none⟩ = some (.int .i64 a0_1) := (blk_cell BK153.out 1).trans rfl; have hcz6_2 : w5.cell? ⟨gb153, 2, none⟩ = some (.int .i64 a0_2) := (blk_cell BK153.out 2).trans rfl; have hfz6_0 := blk_frozen BK153.out 0; have hfz6_1 := blk_frozen BK153.out 1; have hfz6_2 := blk_frozen BK153.out 2) | ((with_reducible refine gate_callee (f := 9) rfl ?_); refine goesL_ (some 5) rfl rfl Tryd.func9 (by kernel_rfl) rfl #[.agg #[.int .i64 a0_0, .int .i64 a0_1, .int .i64 a0_2]] rfl gmp ?_; (with_reducible refine (impl_isFinding.calls a0_0 a0_1 a0_2 true _ A2.out).mono ?_); rintro e w7 ⟨rfl, hb⟩; refine ⟨_, rfl, ?_⟩; have n0_ := Aside0.mk (blk_below (g := gb153) (o := .cells #[.int .i64 a0_0, .int .i64 a0_1, .int .i64 a0_2] 26 (0, 0)) (bkl BK153) hb); have n1_ := Aside0.mk (below_step (bel1 HB GE153) hb); clear BK153; clear HB; have BK153 := n0_; have HB := n1_; clear n0_ n1_; (try clear hb); (try clear hb2); (try clear hk); (try clear hi); have hcz8_0 : w7.cell? ⟨gb153, 0, none⟩ = some (.int .i64 a0_0) := (blk_cell BK153.out 0).trans rfl; have hcz8_1 : w7.cell? ⟨gb153, 1, none⟩ = some (.int .i64 a0_1) := (blk_cell BK153.out 1).trans rfl; have hcz8_2 : w7.cell? ⟨gb153, 2, none⟩ = some (.int .i64 a0_2) := (blk_cell BK153.out 2).trans rfl; have hfz8_0 := blk_frozen BK153.out 0; have hfz8_1 := blk_frozen BK153.out 1; have hfz8_2 := blk_frozen BK153.out 2) | ((with_reducible refine gate_callee (f := 10) rfl ?_); refine goesL_ (some 8) rfl rfl Tryd.func10 (by kernel_rfl) rfl #[.agg #[.int .i64 a0_0, .int .i64 a0_1, .int .i64 a0_2]] rfl gmp ?_; (with_reducible refine (impl_yardFindingText.calls a0_0 a0_1 a0_2 t155 _ A4.out).mono ?_); rintro e w9 ⟨rfl, hb⟩; refine ⟨_, rfl, ?_⟩; have n0_ := Aside0.mk (blk_below (g := gb153) (o := .cells #[.int .i64 a0_0, .int .i64 a0_1, .int .i64 a0_2] 26 (0, 0)) (bkl BK153) hb); have n1_ := Aside0.mk (below_step (bel1 HB GE153) hb); clear BK153; clear HB; have BK153 := n0_; have HB := n1_; clear n0_ n1_; (try clear hb); (try clear hb2); (try clear hk); (try clear hi)))
  go_ret2
  exact ⟨by first | rfl | (simp [errW_none, errW_some] <;> rfl) | (simp [*, errW_none, errW_some] <;> rfl), bel1 HB GE153⟩
 ·replace c3 := Bool.eq_false_iff.mpr c3
  subst c3
  have H1 : (some ((⟨#[]⟩ : ByteArray), false)) = some (r1, r2) := by rw [if_neg (show ¬ (false = true) by decide)] at H; exact H
  clear H
  have H := H1
  clear H1
  simp only [Option.some.injEq, Prod.mk.injEq] at H
  obtain ⟨rfl, rfl⟩ := H
  go_enter Tryd.func6, Tryd.ntmps6
  go_wp2_with (first | ((with_reducible refine gate_dst (N := 1) rfl ?_); refine box_event ?hg (N := 1) ?hd (cs := #[.int .i64 a0_0, .int .i64 a0_1, .int .i64 a0_2]) (t := 26) ?hr ?_; (case hd => rfl); (case hg => rfl); (case hr => first | (go_simp; done) | (go_simp; rfl)); intro gb153 hg w10 hbox hb; have n0_ := Aside0.mk (below_step (bel HB) hb); have n1_ := Aside0.mk (hbox); have n2_ := Aside0.mk ((by rw [hg]; exact (below_size (bel HB)) : w.heap.size ≤ gb153)); have n3_ := Aside0.mk ((by rw [hg]; exact (below_size (bel HB)) : w.heap.size ≤ gb153)); clear HB; have HB := n0_; have BK153 := n1_; have GW153 := n2_; have GE153 := n3_; clear n0_ n1_ n2_ n3_; clear hb hbox hg; have hcz11_0 : w10.cell? ⟨gb153, 0, none⟩ = some (.int .i64 a0_0) := (blk_cell BK153.out 0).trans rfl; have hcz11_1 : w10.cell? ⟨gb153, 1, none⟩ = some (.int .i64 a0_1) := (blk_cell BK153.out 1).trans rfl; have hcz11_2 : w10.cell? ⟨gb153, 2, none⟩ = some (.int .i64 a0_2) := (blk_cell BK153.out 2).trans rfl; have hfz11_0 := blk_frozen BK153.out 0; have hfz11_1 := blk_frozen BK153.out 1; have hfz11_2 := blk_frozen BK153.out 2) | ((with_reducible refine gate_callee (f := 9) rfl ?_); refine goesL_ (some 5) rfl rfl Tryd.func9 (by kernel_rfl) rfl #[.agg #[.int .i64 a0_0, .int .i64 a0_1, .int .i64 a0_2]] rfl gmp ?_; (with_reducible refine (impl_isFinding.calls a0_0 a0_1 a0_2 false _ A2.out).mono ?_); rintro e w12 ⟨rfl, hb⟩; refine ⟨_, rfl, ?_⟩; have n0_ := Aside0.mk (blk_below (g := gb153) (o := .cells #[.int .i64 a0_0, .int .i64 a0_1, .int .i64 a0_2] 26 (0, 0)) (bkl BK153) hb); have n1_ := Aside0.mk (below_step (bel1 HB GE153) hb); clear BK153; clear HB; have BK153 := n0_; have HB := n1_; clear n0_ n1_; (try clear hb); (try clear hb2); (try clear hk); (try clear hi)))
  go_ret2
  exact ⟨by first | rfl | (simp [errW_none, errW_some] <;> rfl) | (simp [*, errW_none, errW_some] <;> rfl), bel1 HB GE153⟩

/-! ### laws_FnExactYardFindingText: function 3 -/
def laws_FnExactYardFindingText.f (k : Nat) (a0_0 : Int) (a0_1 : Int) (a0_2 : Int) : Option (Bool) := (laws_toYardFinding.f a0_0 a0_1 a0_2).bind fun bt157 => ((spec_YardFindingText.f k bt157.1 bt157.2.1 bt157.2.2).bind fun bt160 => ((laws_toYardFinding.f a0_0 a0_1 a0_2).bind fun bt162 => ((impl_YardFindingText.f bt162.1 bt162.2.1 bt162.2.2).bind fun bt165 => (if bt165.1.toList = bt160.1.toList then (if (bt165.2 != bt160.2) = true then (none) else (some true)) else (none)))))
theorem laws_FnExactYardFindingText.mono : ∀ a0 a1 a2 k, LeO (laws_FnExactYardFindingText.f k a0 a1 a2) (laws_FnExactYardFindingText.f (k + 1) a0 a1 a2) := by
 intro a0 a1 a2 k
 unfold laws_FnExactYardFindingText.f
 repeat' first
   | (with_reducible exact spec_YardFindingText.mono _ _ _ _)
   | (with_reducible exact LeO.refl _)
   | (with_reducible exact LeO.none _)
   | (with_reducible refine LeO.ite ?_ ?_)
   | (with_reducible refine LeO.bind ?_ (fun _ => ?_))
   | exact spec_YardFindingText.mono _ _ _ _
   | exact LeO.none _
   | refine LeO.ite ?_ ?_
   | refine LeO.bind ?_ (fun _ => ?_)
set_option maxHeartbeats 8000000 in
set_option maxRecDepth 100000 in
theorem laws_FnExactYardFindingText.calls (k : Nat) (a0_0 : Int) (a0_1 : Int) (a0_2 : Int) (r : Bool) (w : World) (h : laws_FnExactYardFindingText.f k a0_0 a0_1 a0_2 = some r) :
  Calls Tryd.prog 3 #[.agg #[.int .i64 a0_0, .int .i64 a0_1, .int .i64 a0_2]] w fun e w' => e = .returned (.bool r) ∧ Below w.heap.size w w' := by
 have hu23 := Tryd.underlying23
 have HB := Aside0.mk (Below.refl w.heap.size w)
 have H : ((laws_toYardFinding.f a0_0 a0_1 a0_2).bind fun bt157 => ((spec_YardFindingText.f k bt157.1 bt157.2.1 bt157.2.2).bind fun bt160 => ((laws_toYardFinding.f a0_0 a0_1 a0_2).bind fun bt162 => ((impl_YardFindingText.f bt162.1 bt162.2.1 bt162.2.2).bind fun bt165 => (if bt165.1.toList = bt160.1.toList then (if (bt165.2 != bt160.2) = true then (none) else (some true)) else (none)))))) = some r := h
 clear h
 replace H := Option.bind_eq_some_iff.mp H
 obtain ⟨⟨t157, t158, t159⟩, A20, H⟩ := H
 replace H : ((spec_YardFindingText.f k t157 t158 t159).bind fun bt160 => ((laws_toYardFinding.f a0_0 a0_1 a0_2).bind fun bt162 => ((impl_YardFindingText.f bt162.1 bt162.2.1 bt162.2.2).bind fun bt165 => (if bt165.1.toList = bt160.1.toList then (if (bt165.2 != bt160.2) = true then (none) else (some true)) else (none))))) = some r := H
 have A2 := Aside0.mk A20
 clear A20
 replace H := Option.bind_eq_some_iff.mp H
 obtain ⟨⟨t160, t161⟩, A30, H⟩ := H
 replace H : ((laws_toYardFinding.f a0_0 a0_1 a0_2).bind fun bt162 => ((impl_YardFindingText.f bt162.1 bt162.2.1 bt162.2.2).bind fun bt165 => (if bt165.1.toList = t160.toList then (if (bt165.2 != t161) = true then (none) else (some true)) else (none)))) = some r := H
 have A3 := Aside0.mk A30
 clear A30
 replace H := Option.bind_eq_some_iff.mp H
 obtain ⟨⟨t162, t163, t164⟩, A40, H⟩ := H
 replace H : ((impl_YardFindingText.f t162 t163 t164).bind fun bt165 => (if bt165.1.toList = t160.toList then (if (bt165.2 != t161) = true then (none) else (some true)) else (none))) = some r := H
 have A4 := Aside0.mk A40
 clear A40
 replace H := Option.bind_eq_some_iff.mp H
 obtain ⟨⟨t165, t166⟩, A50, H⟩ := H
 replace H : (if t165.toList = t160.toList then (if (t166 != t161) = true then (none) else (some true)) else (none)) = some r := H
 have A5 := Aside0.mk A50
 clear A50
 by_cases c6 : t165.toList = t160.toList
 ·rw [if_pos c6] at H
  have c6b0 : (t165.toList == t160.toList) = true := beq_iff_eq.mpr c6
  have c6b1 : (t165.toList != t160.toList) = false := bne_eq_false_iff_eq.mpr c6
  clear c6
  by_cases c7 : (t166 != t161) = true
  ·rw [if_pos c7] at H
   exact absurd H (by simp)
  ·rw [if_neg c7] at H
   have c7b0 : (t166 != t161) = false := by simpa using c7
   (try (have c7b1 : decide (t166 = t161) = true := by simpa using c7))
   (try (have c7b2 : (t166 == t161) = true := by simpa using c7))
   clear c7
   obtain rfl := Option.some.inj H
   go_enter Tryd.func3, Tryd.ntmps3
   go_wp2_with (first | ((with_reducible refine gate_dst (N := 1) rfl ?_); refine box_event ?hg (N := 1) ?hd (cs := #[.int .i64 a0_0, .int .i64 a0_1, .int .i64 a0_2]) (t := 23) ?hr ?_; (case hd => rfl); (case hg => rfl); (case hr => first | (go_simp; done) | (go_simp; rfl)); intro gb156 hg w8 hbox hb; have n0_ := Aside0.mk (below_step (bel HB) hb); have n1_ := Aside0.mk (hbox); have n2_ := Aside0.mk ((by rw [hg]; exact (below_size (bel HB)) : w.heap.size ≤ gb156)); have n3_ := Aside0.mk ((by rw [hg]; exact (below_size (bel HB)) : w.heap.size ≤ gb156)); clear HB; have HB := n0_; have BK156 := n1_; have GW156 := n2_; have GE156 := n3_; clear n0_ n1_ n2_ n3_; clear hb hbox hg; have hcz9_0 : w8.cell? ⟨gb156, 0, none⟩ = some (.int .i64 a0_0) := (blk_cell BK156.out 0).trans rfl; have hcz9_1 : w8.cell? ⟨gb156, 1, none⟩ = some (.int .i64 a0_1) := (blk_cell BK156.out 1).trans rfl; have hcz9_2 : w8.cell? ⟨gb156, 2, none⟩ = some (.int .i64 a0_2) := (blk_cell BK156.out 2).trans rfl; have hfz9_0 := blk_frozen BK156.out 0; have hfz9_1 := blk_frozen BK156.out 1; have hfz9_2 := blk_frozen BK156.out 2) | ((with_reducible refine gate_callee (f := 5) rfl ?_); refine goesL_ (some 9) rfl rfl Tryd.func5 (by kernel_rfl) rfl #[.agg #[.int .i64 a0_0, .int .i64 a0_1, .int .i64 a0_2]] rfl gmp ?_; (with_reducible refine (laws_toYardFinding.calls a0_0 a0_1 a0_2 t157 t158 t159 _ A2.out).mono ?_); rintro e w10 ⟨rfl, hb⟩; refine ⟨_, rfl, ?_⟩; have n0_ := Aside0.mk (blk_below (g := gb156) (o := .cells #[.int .i64 a0_0, .int .i64 a0_1, .int .i64 a0_2] 23 (0, 0)) (bkl BK156) hb); have n1_ := Aside0.mk (below_step (bel1 HB GE156) hb); clear BK156; clear HB; have BK156 := n0_; have HB := n1_; clear n0_ n1_; (try clear hb); (try clear hb2); (try clear hk); (try clear hi)) | ((with_reducible refine gate_callee (f := 4) rfl ?_); refine goesL_ (some 10) rfl rfl Tryd.func4 (by kernel_rfl) rfl #[.agg #[.int .i64 t157, .int .i64 t158, .int .i64 t159]] rfl gmp ?_; (with_reducible refine (spec_YardFindingText.calls k t157 t158 t159 t160 t161 _ A3.out).mono ?_); rintro e w11 ⟨rfl, hb⟩; refine ⟨_, rfl, ?_⟩; have n0_ := Aside0.mk (blk_below (g := gb156) (o := .cells #[.int .i64 a0_0, .int .i64 a0_1, .int .i64 a0_2] 23 (0, 0)) (bkl BK156) hb); have n1_ := Aside0.mk (below_step (bel1 HB GE156) hb); clear BK156; clear HB; have BK156 := n0_; have HB := n1_; clear n0_ n1_; (try clear hb); (try clear hb2); (try clear hk); (try clear hi); have hcz12_0 : w11.cell? ⟨gb156, 0, none⟩ = some (.int .i64 a0_0) := (blk_cell BK156.out 0).trans rfl; have hcz12_1 : w11.cell? ⟨gb156, 1, none⟩ = some (.int .i64 a0_1) := (blk_cell BK156.out 1).trans rfl; have hcz12_2 : w11.cell? ⟨gb156, 2, none⟩ = some (.int .i64 a0_2) := (blk_cell BK156.out 2).trans rfl; have hfz12_0 := blk_frozen BK156.out 0; have hfz12_1 := blk_frozen BK156.out 1; have hfz12_2 := blk_frozen BK156.out 2) | ((with_reducible refine gate_callee (f := 5) rfl ?_); refine goesL_ (some 15) rfl rfl Tryd.func5 (by kernel_rfl) rfl #[.agg #[.int .i64 a0_0, .int .i64 a0_1, .int .i64 a0_2]] rfl gmp ?_; (with_reducible refine (laws_toYardFinding.calls a0_0 a0_1 a0_2 t162 t163 t164 _ A4.out).mono ?_); rintro e w13 ⟨rfl, hb⟩; refine ⟨_, rfl, ?_⟩; have n0_ := Aside0.mk (blk_below (g := gb156) (o := .cells #[.int .i64 a0_0, .int .i64 a0_1, .int .i64 a0_2] 23 (0, 0)) (bkl BK156) hb); have n1_ := Aside0.mk (below_step (bel1 HB GE156) hb); clear BK156; clear HB; have BK156 := n0_; have HB := n1_; clear n0_ n1_; (try clear hb); (try clear hb2); (try clear hk); (try clear hi)) | ((with_reducible refine gate_callee (f := 6) rfl ?_); refine goesL_ (some 16) rfl rfl Tryd.func6 (by kernel_rfl) rfl #[.agg #[.int .i64 t162, .int .i64 t163, .int .i64 t164]] rfl gmp ?_; (with_reducible refine (impl_YardFindingText.calls t162 t163 t164 t165 t166 _ A5.out).mono ?_); rintro e w14 ⟨rfl, hb⟩; refine ⟨_, rfl, ?_⟩; have n0_ := Aside0.mk (blk_below (g := gb156) (o := .cells #[.int .i64 a0_0, .int .i64 a0_1, .int .i64 a0_2] 23 (0, 0)) (bkl BK156) hb); have n1_ := Aside0.mk (below_step (bel1 HB GE156) hb); clear BK156; clear HB; have BK156 := n0_; have HB := n1_; clear n0_ n1_; (try clear hb); (try clear hb2); (try clear hk); (try clear hi)))
   go_ret
   exact ⟨by first | rfl | (simp [errW_none, errW_some] <;> rfl) | (simp [*, errW_none, errW_some] <;> rfl), bel1 HB GE156⟩
 ·rw [if_neg c6] at H
  exact absurd H (by simp)

/-- THE ONE PURE STATEMENT of laws_FnExactYardFindingText. -/
def laws_FnExactYardFindingText.Pure : Prop := ∀ (s0 : S23), G23 s0 → ∃ k, laws_FnExactYardFindingText.f k s0.f0 s0.f1 s0.f2 = some true
theorem laws_FnExactYardFindingText.walk (P : laws_FnExactYardFindingText.Pure)  (s0 : S23) (w : World)  (g0 : G23 s0) :
  Calls Tryd.prog 3 #[.agg #[.int .i64 s0.f0, .int .i64 s0.f1, .int .i64 s0.f2]] w fun e w' => e = .returned (.bool true) ∧ Below w.heap.size w w' := by
 obtain ⟨k, h⟩ := P s0 g0
 refine (laws_FnExactYardFindingText.calls k s0.f0 s0.f1 s0.f2 true w  h).mono ?_
 rintro e w' ⟨rfl, hd⟩
 exact ⟨rfl, hd⟩

end Go.Proofs.YtogoelnijahihaaDoor.P
