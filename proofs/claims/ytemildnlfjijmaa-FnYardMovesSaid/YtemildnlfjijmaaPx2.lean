-- Written by a program of this session over the translation (a variant of the printer, see wip/gen); Lean checks it.
import Derived.Test.YtemildnlfjijmaaPx0
import Derived.Test.YtemildnlfjijmaaPx1
import Derived.Test.YtemildnlfjijmaaU
namespace Go.Proofs.Ytemildnlfjijmaa.P
open Go.RowKit Go.Proofs.YtemildnlfjijmaaW.PrintWords Go.Proofs.YtemildnlfjijmaaW.PrintLast Go.Proofs.YtemildnlfjijmaaW.PrintMore
attribute [local go_sem] Go.Proofs.Ytemildnlfjijmaa.V.isSome_setCell max2_int min2_int max_two min_two max_three min_three max_four min_four
set_option linter.unusedVariables false
set_option linter.unusedSimpArgs false
/-! ### spec_l1Cur_spoilt: function 68 -/
def spW (j : Int) : ByteArray := ((⟨#[65, 48, 66, 49]⟩ : ByteArray).extract j.toNat 4).extract 0 1
def spR (a : ByteArray) (i j d : Int) : ByteArray := if d = 0 then a.extract 0 i.toNat ++ spW j ++ a.extract i.toNat a.size else if d = 1 then a.extract 0 i.toNat ++ spW j ++ a.extract (i + 1).toNat a.size else a.extract 0 i.toNat ++ a.extract (i + 1).toNat a.size
def spec_l1Cur_spoilt.f (c : List Int) (i s : Int) (a b : ByteArray) : Option (ByteArray × Int × Int) :=
  if b = ⟨#[65, 48, 66, 49]⟩ ∧ 1 ≤ a.size ∧ a.size ≤ 1000 then (spec_l1Cur_pick.f c i s (a.size : Int)).bind fun p => (spec_l1Cur_pick.f c p.2.1 p.2.2 4).bind fun q => (spec_l1Cur_pick.f c q.2.1 q.2.2 3).bind fun r => if (0 ≤ p.1 ∧ p.1 < (a.size : Int)) ∧ (0 ≤ q.1 ∧ q.1 < 4) then some (spR a p.1 q.1 r.1, r.2.1, r.2.2) else none else none
def SpW (w0 w W : World) (g : Nat) (c : List Int) (i s : Int) : Prop := IsS47 w0 W g c i s ∧ Below w0.heap.size w0 W ∧ KeepBut w W g none
set_option maxHeartbeats 1000000 in
set_option maxRecDepth 100000 in
theorem spec_l1Cur_spoilt.calls (g : Nat) (c : List Int) (i s : Int) (a b : ByteArray) (r1 : ByteArray) (r2 r3 : Int) (w0 w : World) (hI : IsS47 w0 w g c i s) (hB : Below w0.heap.size w0 w) (h : spec_l1Cur_spoilt.f c i s a b = some (r1, r2, r3)) :
    Calls Try.prog 68 #[.pointer (some ⟨g, 0, none⟩), .string a, .string b] w fun e w' => e = .returned (.string r1) ∧ IsS47 w0 w' g c r2 r3 ∧ Below w0.heap.size w0 w' ∧ KeepBut w w' g none := by
 have HI := Aside0.mk (show SpW w0 w w g c i s from ⟨hI, hB, KeepBut.refl w g none⟩)
 clear hI hB
 unfold spec_l1Cur_spoilt.f at h
 split at h
 case isFalse => cases h
 case isTrue hc =>
 obtain ⟨rfl, hs1, hs2⟩ := hc
 obtain ⟨⟨p, i1, s1⟩, hA1, h⟩ := Option.bind_eq_some_iff.1 h
 obtain ⟨⟨q, i2, s2⟩, hA2, h⟩ := Option.bind_eq_some_iff.1 h
 obtain ⟨⟨d, i3, s3⟩, hA3, h⟩ := Option.bind_eq_some_iff.1 h
 dsimp only at hA2 hA3 h
 split at h
 case isFalse => cases h
 case isTrue hr =>
 obtain ⟨⟨hp0, hp1⟩, hq0, hq1⟩ := hr
 have A1 := Aside0.mk hA1
 have A2 := Aside0.mk hA2
 have A3 := Aside0.mk hA3
 clear hA1 hA2 hA3
 simp only [Option.some.injEq, Prod.mk.injEq] at h
 obtain ⟨rfl, rfl, rfl⟩ := h
 have hne : ¬ a.toList = [] := fun h => by
   have h2 : a.toList = a.data.toList := by obtain ⟨⟨l⟩⟩ := a; simp
   rw [h2] at h
   have h3 : a.data.toList.length = a.size := by rw [Array.length_toList]; rfl
   rw [h] at h3
   simp at h3
   omega
 have n1 : (a.toList == []) = false := by simpa using hne
 have n2 : decide (a.toList = []) = false := decide_eq_false hne
 obtain ⟨wv, hwv⟩ : ∃ v, v = spW q := ⟨_, rfl⟩
 have HWv := Aside0.mk hwv
 have z5 : ((⟨#[65, 48, 66, 49]⟩ : ByteArray)).size = 4 := rfl
 have hq : q = 0 ∨ q = 1 ∨ q = 2 ∨ q = 3 := by omega
 clear hwv hne HWv
 have hd : d = 0 ∨ d = 1 ∨ (d ≠ 0 ∧ d ≠ 1) := by omega
 have hp2 : wrap64 (p + 1) = p + 1 := Go.Proofs.Ytemildnlfjijmaa.U.wr (by omega) (by omega)
 have p0 : (0 ≤ p) = True := eq_true hp0
 have p1 : (p ≤ (a.size : Int)) = True := eq_true (by omega)
 have p2 : (0 ≤ p + 1) = True := eq_true (by omega)
 have p3 : (p + 1 ≤ (a.size : Int)) = True := eq_true (by omega)
 have w1 : ∀ j : Nat, (((⟨#[65, 48, 66, 49]⟩ : ByteArray).extract j 4).extract 0 1).size ≤ 1 := fun j => by rw [ByteArray.size_extract]; omega
 have x1 : ∀ i j : Nat, (a.extract i j).size ≤ a.size := fun i j => by rw [ByteArray.size_extract]; omega
 have HX := Aside0.mk (And.intro w1 x1)
 clear w1 x1
 go_enter Try.func68, Try.ntmps68
 go_upto_region 4 with (first | ((with_reducible refine gate_callee (f := 16) rfl ?_); refine goesL_ (some 16) rfl rfl Try.func16 (by kernel_rfl) rfl #[.pointer (some ⟨g, 0, none⟩), .int .i64 (a.size : Int)] rfl gmp ?_; refine (spec_l1Cur_pick.calls g c i s (a.size : Int) p i1 s1 w0 _ HI.out.1 HI.out.2.1 A1.out).mono ?_; rintro e w1 ⟨rfl, hi, hb, hk⟩; refine ⟨_, rfl, ?_⟩; have Hw1 := Aside0.mk (show SpW w0 w w1 g c i1 s1 from ⟨hi, hb, KeepBut.trans HI.out.2.2 hk (.inl rfl)⟩); clear hi hb hk))
 rcases hq with rfl | rfl | rfl | rfl
 ·go_upto_region 5 with (first | ((with_reducible refine gate_callee (f := 16) rfl ?_); refine goesL_ (some 21) rfl rfl Try.func16 (by kernel_rfl) rfl #[.pointer (some ⟨g, 0, none⟩), .int .i64 4] rfl gmp ?_; refine (spec_l1Cur_pick.calls g c i1 s1 4 _ i2 s2 w0 _ Hw1.out.1 Hw1.out.2.1 A2.out).mono ?_; rintro e w2 ⟨rfl, hi, hb, hk⟩; refine ⟨_, rfl, ?_⟩; have Hw2 := Aside0.mk (show SpW w0 w w2 g c i2 s2 from ⟨hi, hb, KeepBut.trans Hw1.out.2.2 hk (.inl rfl)⟩); clear hi hb hk))
  have f1 : (9223372036854775807 < (a.extract 0 p.toNat).size + (((⟨#[65, 48, 66, 49]⟩ : ByteArray).extract 0 4).extract 0 1).size) = False := eq_false (by have h1 := HX.out.1 0; have h2 := HX.out.2 0 p.toNat; have h3 := HX.out.2 p.toNat a.size; have h4 := HX.out.2 (p + 1).toNat a.size; omega)
  have f2 : (9223372036854775807 < (a.extract 0 p.toNat).size + (((⟨#[65, 48, 66, 49]⟩ : ByteArray).extract 0 4).extract 0 1).size + (a.extract p.toNat a.size).size) = False := eq_false (by have h1 := HX.out.1 0; have h2 := HX.out.2 0 p.toNat; have h3 := HX.out.2 p.toNat a.size; have h4 := HX.out.2 (p + 1).toNat a.size; omega)
  have f3 : (9223372036854775807 < (a.extract 0 p.toNat).size + (((⟨#[65, 48, 66, 49]⟩ : ByteArray).extract 0 4).extract 0 1).size + (a.extract (p + 1).toNat a.size).size) = False := eq_false (by have h1 := HX.out.1 0; have h2 := HX.out.2 0 p.toNat; have h3 := HX.out.2 p.toNat a.size; have h4 := HX.out.2 (p + 1).toNat a.size; omega)
  have f4 : (9223372036854775807 < (a.extract 0 p.toNat).size + (a.extract (p + 1).toNat a.size).size) = False := eq_false (by have h1 := HX.out.1 0; have h2 := HX.out.2 0 p.toNat; have h3 := HX.out.2 p.toNat a.size; have h4 := HX.out.2 (p + 1).toNat a.size; omega)
  rcases hd with rfl | rfl | ⟨hd0, hd1⟩
  ·go_wp2_with (first | ((with_reducible refine gate_callee (f := 16) rfl ?_); refine goesL_ (some 25) rfl rfl Try.func16 (by kernel_rfl) rfl #[.pointer (some ⟨g, 0, none⟩), .int .i64 3] rfl gmp ?_; refine (spec_l1Cur_pick.calls g c i2 s2 3 _ i3 s3 w0 _ Hw2.out.1 Hw2.out.2.1 A3.out).mono ?_; rintro e w3 ⟨rfl, hi, hb, hk⟩; refine ⟨_, rfl, ?_⟩; have Hw3 := Aside0.mk (show SpW w0 w w3 g c i3 s3 from ⟨hi, hb, KeepBut.trans Hw2.out.2.2 hk (.inl rfl)⟩); clear hi hb hk))
   repeat (go_quiet (fail); try go_wp2)
   go_ret
   exact ⟨rfl, Hw3.out.1, pw_below_drewN Hw3.out.2.1 _, Hw3.out.2.2⟩
  ·go_wp2_with (first | ((with_reducible refine gate_callee (f := 16) rfl ?_); refine goesL_ (some 25) rfl rfl Try.func16 (by kernel_rfl) rfl #[.pointer (some ⟨g, 0, none⟩), .int .i64 3] rfl gmp ?_; refine (spec_l1Cur_pick.calls g c i2 s2 3 _ i3 s3 w0 _ Hw2.out.1 Hw2.out.2.1 A3.out).mono ?_; rintro e w3 ⟨rfl, hi, hb, hk⟩; refine ⟨_, rfl, ?_⟩; have Hw3 := Aside0.mk (show SpW w0 w w3 g c i3 s3 from ⟨hi, hb, KeepBut.trans Hw2.out.2.2 hk (.inl rfl)⟩); clear hi hb hk))
   repeat (go_quiet (fail); try go_wp2)
   go_ret
   exact ⟨rfl, Hw3.out.1, pw_below_drewN Hw3.out.2.1 _, Hw3.out.2.2⟩
  have e0 : (d == 0) = false := beq_eq_false_iff_ne.mpr hd0
  have e1 : (d == 1) = false := beq_eq_false_iff_ne.mpr hd1
  have e2 : decide (d = 0) = false := decide_eq_false hd0
  have e3 : decide (d = 1) = false := decide_eq_false hd1
  go_wp2_with (first | ((with_reducible refine gate_callee (f := 16) rfl ?_); refine goesL_ (some 25) rfl rfl Try.func16 (by kernel_rfl) rfl #[.pointer (some ⟨g, 0, none⟩), .int .i64 3] rfl gmp ?_; refine (spec_l1Cur_pick.calls g c i2 s2 3 _ i3 s3 w0 _ Hw2.out.1 Hw2.out.2.1 A3.out).mono ?_; rintro e w3 ⟨rfl, hi, hb, hk⟩; refine ⟨_, rfl, ?_⟩; have Hw3 := Aside0.mk (show SpW w0 w w3 g c i3 s3 from ⟨hi, hb, KeepBut.trans Hw2.out.2.2 hk (.inl rfl)⟩); clear hi hb hk))
  repeat (go_quiet (fail); try go_wp2)
  go_ret
  exact ⟨by unfold spR; rw [if_neg hd0, if_neg hd1]; rfl, Hw3.out.1, pw_below_drewN Hw3.out.2.1 _, Hw3.out.2.2⟩
 ·go_upto_region 5 with (first | ((with_reducible refine gate_callee (f := 16) rfl ?_); refine goesL_ (some 21) rfl rfl Try.func16 (by kernel_rfl) rfl #[.pointer (some ⟨g, 0, none⟩), .int .i64 4] rfl gmp ?_; refine (spec_l1Cur_pick.calls g c i1 s1 4 _ i2 s2 w0 _ Hw1.out.1 Hw1.out.2.1 A2.out).mono ?_; rintro e w2 ⟨rfl, hi, hb, hk⟩; refine ⟨_, rfl, ?_⟩; have Hw2 := Aside0.mk (show SpW w0 w w2 g c i2 s2 from ⟨hi, hb, KeepBut.trans Hw1.out.2.2 hk (.inl rfl)⟩); clear hi hb hk))
  have f1 : (9223372036854775807 < (a.extract 0 p.toNat).size + (((⟨#[65, 48, 66, 49]⟩ : ByteArray).extract 1 4).extract 0 1).size) = False := eq_false (by have h1 := HX.out.1 1; have h2 := HX.out.2 0 p.toNat; have h3 := HX.out.2 p.toNat a.size; have h4 := HX.out.2 (p + 1).toNat a.size; omega)
  have f2 : (9223372036854775807 < (a.extract 0 p.toNat).size + (((⟨#[65, 48, 66, 49]⟩ : ByteArray).extract 1 4).extract 0 1).size + (a.extract p.toNat a.size).size) = False := eq_false (by have h1 := HX.out.1 1; have h2 := HX.out.2 0 p.toNat; have h3 := HX.out.2 p.toNat a.size; have h4 := HX.out.2 (p + 1).toNat a.size; omega)
  have f3 : (9223372036854775807 < (a.extract 0 p.toNat).size + (((⟨#[65, 48, 66, 49]⟩ : ByteArray).extract 1 4).extract 0 1).size + (a.extract (p + 1).toNat a.size).size) = False := eq_false (by have h1 := HX.out.1 1; have h2 := HX.out.2 0 p.toNat; have h3 := HX.out.2 p.toNat a.size; have h4 := HX.out.2 (p + 1).toNat a.size; omega)
  have f4 : (9223372036854775807 < (a.extract 0 p.toNat).size + (a.extract (p + 1).toNat a.size).size) = False := eq_false (by have h1 := HX.out.1 1; have h2 := HX.out.2 0 p.toNat; have h3 := HX.out.2 p.toNat a.size; have h4 := HX.out.2 (p + 1).toNat a.size; omega)
  rcases hd with rfl | rfl | ⟨hd0, hd1⟩
  ·go_wp2_with (first | ((with_reducible refine gate_callee (f := 16) rfl ?_); refine goesL_ (some 25) rfl rfl Try.func16 (by kernel_rfl) rfl #[.pointer (some ⟨g, 0, none⟩), .int .i64 3] rfl gmp ?_; refine (spec_l1Cur_pick.calls g c i2 s2 3 _ i3 s3 w0 _ Hw2.out.1 Hw2.out.2.1 A3.out).mono ?_; rintro e w3 ⟨rfl, hi, hb, hk⟩; refine ⟨_, rfl, ?_⟩; have Hw3 := Aside0.mk (show SpW w0 w w3 g c i3 s3 from ⟨hi, hb, KeepBut.trans Hw2.out.2.2 hk (.inl rfl)⟩); clear hi hb hk))
   repeat (go_quiet (fail); try go_wp2)
   go_ret
   exact ⟨rfl, Hw3.out.1, pw_below_drewN Hw3.out.2.1 _, Hw3.out.2.2⟩
  ·go_wp2_with (first | ((with_reducible refine gate_callee (f := 16) rfl ?_); refine goesL_ (some 25) rfl rfl Try.func16 (by kernel_rfl) rfl #[.pointer (some ⟨g, 0, none⟩), .int .i64 3] rfl gmp ?_; refine (spec_l1Cur_pick.calls g c i2 s2 3 _ i3 s3 w0 _ Hw2.out.1 Hw2.out.2.1 A3.out).mono ?_; rintro e w3 ⟨rfl, hi, hb, hk⟩; refine ⟨_, rfl, ?_⟩; have Hw3 := Aside0.mk (show SpW w0 w w3 g c i3 s3 from ⟨hi, hb, KeepBut.trans Hw2.out.2.2 hk (.inl rfl)⟩); clear hi hb hk))
   repeat (go_quiet (fail); try go_wp2)
   go_ret
   exact ⟨rfl, Hw3.out.1, pw_below_drewN Hw3.out.2.1 _, Hw3.out.2.2⟩
  have e0 : (d == 0) = false := beq_eq_false_iff_ne.mpr hd0
  have e1 : (d == 1) = false := beq_eq_false_iff_ne.mpr hd1
  have e2 : decide (d = 0) = false := decide_eq_false hd0
  have e3 : decide (d = 1) = false := decide_eq_false hd1
  go_wp2_with (first | ((with_reducible refine gate_callee (f := 16) rfl ?_); refine goesL_ (some 25) rfl rfl Try.func16 (by kernel_rfl) rfl #[.pointer (some ⟨g, 0, none⟩), .int .i64 3] rfl gmp ?_; refine (spec_l1Cur_pick.calls g c i2 s2 3 _ i3 s3 w0 _ Hw2.out.1 Hw2.out.2.1 A3.out).mono ?_; rintro e w3 ⟨rfl, hi, hb, hk⟩; refine ⟨_, rfl, ?_⟩; have Hw3 := Aside0.mk (show SpW w0 w w3 g c i3 s3 from ⟨hi, hb, KeepBut.trans Hw2.out.2.2 hk (.inl rfl)⟩); clear hi hb hk))
  repeat (go_quiet (fail); try go_wp2)
  go_ret
  exact ⟨by unfold spR; rw [if_neg hd0, if_neg hd1]; rfl, Hw3.out.1, pw_below_drewN Hw3.out.2.1 _, Hw3.out.2.2⟩
 ·go_upto_region 5 with (first | ((with_reducible refine gate_callee (f := 16) rfl ?_); refine goesL_ (some 21) rfl rfl Try.func16 (by kernel_rfl) rfl #[.pointer (some ⟨g, 0, none⟩), .int .i64 4] rfl gmp ?_; refine (spec_l1Cur_pick.calls g c i1 s1 4 _ i2 s2 w0 _ Hw1.out.1 Hw1.out.2.1 A2.out).mono ?_; rintro e w2 ⟨rfl, hi, hb, hk⟩; refine ⟨_, rfl, ?_⟩; have Hw2 := Aside0.mk (show SpW w0 w w2 g c i2 s2 from ⟨hi, hb, KeepBut.trans Hw1.out.2.2 hk (.inl rfl)⟩); clear hi hb hk))
  have f1 : (9223372036854775807 < (a.extract 0 p.toNat).size + (((⟨#[65, 48, 66, 49]⟩ : ByteArray).extract 2 4).extract 0 1).size) = False := eq_false (by have h1 := HX.out.1 2; have h2 := HX.out.2 0 p.toNat; have h3 := HX.out.2 p.toNat a.size; have h4 := HX.out.2 (p + 1).toNat a.size; omega)
  have f2 : (9223372036854775807 < (a.extract 0 p.toNat).size + (((⟨#[65, 48, 66, 49]⟩ : ByteArray).extract 2 4).extract 0 1).size + (a.extract p.toNat a.size).size) = False := eq_false (by have h1 := HX.out.1 2; have h2 := HX.out.2 0 p.toNat; have h3 := HX.out.2 p.toNat a.size; have h4 := HX.out.2 (p + 1).toNat a.size; omega)
  have f3 : (9223372036854775807 < (a.extract 0 p.toNat).size + (((⟨#[65, 48, 66, 49]⟩ : ByteArray).extract 2 4).extract 0 1).size + (a.extract (p + 1).toNat a.size).size) = False := eq_false (by have h1 := HX.out.1 2; have h2 := HX.out.2 0 p.toNat; have h3 := HX.out.2 p.toNat a.size; have h4 := HX.out.2 (p + 1).toNat a.size; omega)
  have f4 : (9223372036854775807 < (a.extract 0 p.toNat).size + (a.extract (p + 1).toNat a.size).size) = False := eq_false (by have h1 := HX.out.1 2; have h2 := HX.out.2 0 p.toNat; have h3 := HX.out.2 p.toNat a.size; have h4 := HX.out.2 (p + 1).toNat a.size; omega)
  rcases hd with rfl | rfl | ⟨hd0, hd1⟩
  ·go_wp2_with (first | ((with_reducible refine gate_callee (f := 16) rfl ?_); refine goesL_ (some 25) rfl rfl Try.func16 (by kernel_rfl) rfl #[.pointer (some ⟨g, 0, none⟩), .int .i64 3] rfl gmp ?_; refine (spec_l1Cur_pick.calls g c i2 s2 3 _ i3 s3 w0 _ Hw2.out.1 Hw2.out.2.1 A3.out).mono ?_; rintro e w3 ⟨rfl, hi, hb, hk⟩; refine ⟨_, rfl, ?_⟩; have Hw3 := Aside0.mk (show SpW w0 w w3 g c i3 s3 from ⟨hi, hb, KeepBut.trans Hw2.out.2.2 hk (.inl rfl)⟩); clear hi hb hk))
   repeat (go_quiet (fail); try go_wp2)
   go_ret
   exact ⟨rfl, Hw3.out.1, pw_below_drewN Hw3.out.2.1 _, Hw3.out.2.2⟩
  ·go_wp2_with (first | ((with_reducible refine gate_callee (f := 16) rfl ?_); refine goesL_ (some 25) rfl rfl Try.func16 (by kernel_rfl) rfl #[.pointer (some ⟨g, 0, none⟩), .int .i64 3] rfl gmp ?_; refine (spec_l1Cur_pick.calls g c i2 s2 3 _ i3 s3 w0 _ Hw2.out.1 Hw2.out.2.1 A3.out).mono ?_; rintro e w3 ⟨rfl, hi, hb, hk⟩; refine ⟨_, rfl, ?_⟩; have Hw3 := Aside0.mk (show SpW w0 w w3 g c i3 s3 from ⟨hi, hb, KeepBut.trans Hw2.out.2.2 hk (.inl rfl)⟩); clear hi hb hk))
   repeat (go_quiet (fail); try go_wp2)
   go_ret
   exact ⟨rfl, Hw3.out.1, pw_below_drewN Hw3.out.2.1 _, Hw3.out.2.2⟩
  have e0 : (d == 0) = false := beq_eq_false_iff_ne.mpr hd0
  have e1 : (d == 1) = false := beq_eq_false_iff_ne.mpr hd1
  have e2 : decide (d = 0) = false := decide_eq_false hd0
  have e3 : decide (d = 1) = false := decide_eq_false hd1
  go_wp2_with (first | ((with_reducible refine gate_callee (f := 16) rfl ?_); refine goesL_ (some 25) rfl rfl Try.func16 (by kernel_rfl) rfl #[.pointer (some ⟨g, 0, none⟩), .int .i64 3] rfl gmp ?_; refine (spec_l1Cur_pick.calls g c i2 s2 3 _ i3 s3 w0 _ Hw2.out.1 Hw2.out.2.1 A3.out).mono ?_; rintro e w3 ⟨rfl, hi, hb, hk⟩; refine ⟨_, rfl, ?_⟩; have Hw3 := Aside0.mk (show SpW w0 w w3 g c i3 s3 from ⟨hi, hb, KeepBut.trans Hw2.out.2.2 hk (.inl rfl)⟩); clear hi hb hk))
  repeat (go_quiet (fail); try go_wp2)
  go_ret
  exact ⟨by unfold spR; rw [if_neg hd0, if_neg hd1]; rfl, Hw3.out.1, pw_below_drewN Hw3.out.2.1 _, Hw3.out.2.2⟩
 go_upto_region 5 with (first | ((with_reducible refine gate_callee (f := 16) rfl ?_); refine goesL_ (some 21) rfl rfl Try.func16 (by kernel_rfl) rfl #[.pointer (some ⟨g, 0, none⟩), .int .i64 4] rfl gmp ?_; refine (spec_l1Cur_pick.calls g c i1 s1 4 _ i2 s2 w0 _ Hw1.out.1 Hw1.out.2.1 A2.out).mono ?_; rintro e w2 ⟨rfl, hi, hb, hk⟩; refine ⟨_, rfl, ?_⟩; have Hw2 := Aside0.mk (show SpW w0 w w2 g c i2 s2 from ⟨hi, hb, KeepBut.trans Hw1.out.2.2 hk (.inl rfl)⟩); clear hi hb hk))
 have f1 : (9223372036854775807 < (a.extract 0 p.toNat).size + (((⟨#[65, 48, 66, 49]⟩ : ByteArray).extract 3 4).extract 0 1).size) = False := eq_false (by have h1 := HX.out.1 3; have h2 := HX.out.2 0 p.toNat; have h3 := HX.out.2 p.toNat a.size; have h4 := HX.out.2 (p + 1).toNat a.size; omega)
 have f2 : (9223372036854775807 < (a.extract 0 p.toNat).size + (((⟨#[65, 48, 66, 49]⟩ : ByteArray).extract 3 4).extract 0 1).size + (a.extract p.toNat a.size).size) = False := eq_false (by have h1 := HX.out.1 3; have h2 := HX.out.2 0 p.toNat; have h3 := HX.out.2 p.toNat a.size; have h4 := HX.out.2 (p + 1).toNat a.size; omega)
 have f3 : (9223372036854775807 < (a.extract 0 p.toNat).size + (((⟨#[65, 48, 66, 49]⟩ : ByteArray).extract 3 4).extract 0 1).size + (a.extract (p + 1).toNat a.size).size) = False := eq_false (by have h1 := HX.out.1 3; have h2 := HX.out.2 0 p.toNat; have h3 := HX.out.2 p.toNat a.size; have h4 := HX.out.2 (p + 1).toNat a.size; omega)
 have f4 : (9223372036854775807 < (a.extract 0 p.toNat).size + (a.extract (p + 1).toNat a.size).size) = False := eq_false (by have h1 := HX.out.1 3; have h2 := HX.out.2 0 p.toNat; have h3 := HX.out.2 p.toNat a.size; have h4 := HX.out.2 (p + 1).toNat a.size; omega)
 rcases hd with rfl | rfl | ⟨hd0, hd1⟩
 ·go_wp2_with (first | ((with_reducible refine gate_callee (f := 16) rfl ?_); refine goesL_ (some 25) rfl rfl Try.func16 (by kernel_rfl) rfl #[.pointer (some ⟨g, 0, none⟩), .int .i64 3] rfl gmp ?_; refine (spec_l1Cur_pick.calls g c i2 s2 3 _ i3 s3 w0 _ Hw2.out.1 Hw2.out.2.1 A3.out).mono ?_; rintro e w3 ⟨rfl, hi, hb, hk⟩; refine ⟨_, rfl, ?_⟩; have Hw3 := Aside0.mk (show SpW w0 w w3 g c i3 s3 from ⟨hi, hb, KeepBut.trans Hw2.out.2.2 hk (.inl rfl)⟩); clear hi hb hk))
  repeat (go_quiet (fail); try go_wp2)
  go_ret
  exact ⟨rfl, Hw3.out.1, pw_below_drewN Hw3.out.2.1 _, Hw3.out.2.2⟩
 ·go_wp2_with (first | ((with_reducible refine gate_callee (f := 16) rfl ?_); refine goesL_ (some 25) rfl rfl Try.func16 (by kernel_rfl) rfl #[.pointer (some ⟨g, 0, none⟩), .int .i64 3] rfl gmp ?_; refine (spec_l1Cur_pick.calls g c i2 s2 3 _ i3 s3 w0 _ Hw2.out.1 Hw2.out.2.1 A3.out).mono ?_; rintro e w3 ⟨rfl, hi, hb, hk⟩; refine ⟨_, rfl, ?_⟩; have Hw3 := Aside0.mk (show SpW w0 w w3 g c i3 s3 from ⟨hi, hb, KeepBut.trans Hw2.out.2.2 hk (.inl rfl)⟩); clear hi hb hk))
  repeat (go_quiet (fail); try go_wp2)
  go_ret
  exact ⟨rfl, Hw3.out.1, pw_below_drewN Hw3.out.2.1 _, Hw3.out.2.2⟩
 have e0 : (d == 0) = false := beq_eq_false_iff_ne.mpr hd0
 have e1 : (d == 1) = false := beq_eq_false_iff_ne.mpr hd1
 have e2 : decide (d = 0) = false := decide_eq_false hd0
 have e3 : decide (d = 1) = false := decide_eq_false hd1
 go_wp2_with (first | ((with_reducible refine gate_callee (f := 16) rfl ?_); refine goesL_ (some 25) rfl rfl Try.func16 (by kernel_rfl) rfl #[.pointer (some ⟨g, 0, none⟩), .int .i64 3] rfl gmp ?_; refine (spec_l1Cur_pick.calls g c i2 s2 3 _ i3 s3 w0 _ Hw2.out.1 Hw2.out.2.1 A3.out).mono ?_; rintro e w3 ⟨rfl, hi, hb, hk⟩; refine ⟨_, rfl, ?_⟩; have Hw3 := Aside0.mk (show SpW w0 w w3 g c i3 s3 from ⟨hi, hb, KeepBut.trans Hw2.out.2.2 hk (.inl rfl)⟩); clear hi hb hk))
 repeat (go_quiet (fail); try go_wp2)
 go_ret
 exact ⟨by unfold spR; rw [if_neg hd0, if_neg hd1]; rfl, Hw3.out.1, pw_below_drewN Hw3.out.2.1 _, Hw3.out.2.2⟩
end Go.Proofs.Ytemildnlfjijmaa.P
