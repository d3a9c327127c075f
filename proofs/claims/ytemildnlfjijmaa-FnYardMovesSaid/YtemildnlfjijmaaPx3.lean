-- Written by a program of this session over the translation (a variant of the printer, see wip/gen); Lean checks it.
import Derived.Test.YtemildnlfjijmaaVC
import Derived.Test.YtemildnlfjijmaaPx0
import Derived.Test.YtemildnlfjijmaaPx1
import Derived.Test.YtemildnlfjijmaaPx2
namespace Go.Proofs.Ytemildnlfjijmaa.P
open Go.RowKit Go.Proofs.YtemildnlfjijmaaW.PrintWords Go.Proofs.YtemildnlfjijmaaW.PrintLast Go.Proofs.YtemildnlfjijmaaW.PrintMore
attribute [local go_sem] Go.Proofs.Ytemildnlfjijmaa.V.isSome_setCell max2_int min2_int max_two min_two max_three min_three max_four min_four
set_option linter.unusedVariables false
set_option linter.unusedSimpArgs false
/-! ### spec_l1Cur_anyId: function 60 -/
def spec_l1Cur_anyId.j0 : Nat → ByteArray → List Int → Int → Int → Option (ByteArray × Int × Int)
 | 0, _, _, _, _ => none
 | k + 1, x3, x1000, x1001, x1002 => (spec_l1Cur_one.f x1000 x1001 x1002 24).bind fun bt171 => (if bt171.1 = true then ((spec_l2Number.f k (⟨#[81, 81, 81]⟩ : ByteArray) 9999).bind fun t174 => (some (t174, bt171.2.1, bt171.2.2))) else (some (x3, bt171.2.1, bt171.2.2)))
def spec_l1Cur_anyId.f (k : Nat) (s0_0 : List Int) (s0_1 : Int) (s0_2 : Int) : Option (ByteArray × Int × Int) := (spec_l1Cur_id.f k s0_0 s0_1 s0_2).bind fun bt162 => ((spec_l1Cur_one.f s0_0 bt162.2.1 bt162.2.2 8).bind fun bt165 => (if bt165.1 = true then ((spec_l1Cur_spoilt.f s0_0 bt165.2.1 bt165.2.2 bt162.1 (⟨#[65, 48, 66, 49]⟩ : ByteArray)).bind fun bt168 => (spec_l1Cur_anyId.j0 k bt168.1 s0_0 bt168.2.1 bt168.2.2)) else (spec_l1Cur_anyId.j0 k bt162.1 s0_0 bt165.2.1 bt165.2.2)))
set_option maxHeartbeats 8000000 in
set_option maxRecDepth 100000 in
theorem spec_l1Cur_anyId.calls (k : Nat) (g : Nat) (s0_0 : List Int) (s0_1 : Int) (s0_2 : Int) (r1 : ByteArray) (r2 : Int) (r3 : Int) (w0 w : World) (hI : IsS47 w0 w g s0_0 s0_1 s0_2) (hB : Below w0.heap.size w0 w) (h : spec_l1Cur_anyId.f k s0_0 s0_1 s0_2 = some (r1, r2, r3)) :
  Calls Try.prog 60 #[.pointer (some ⟨g, 0, none⟩)] w fun e w' => e = .returned (.string r1) ∧ IsS47 w0 w' g s0_0 r2 r3 ∧ Below w0.heap.size w0 w' ∧ KeepBut w w' g none := by
 have HI0 := Aside0.mk hI
 have HK := Aside0.mk (KeepBut.refl w g none)
 have HL := Aside0.mk hB.size
 clear hI
 have HW0 := Aside0.mk hB.size
 have HB := Aside0.mk hB
 clear hB
 have H : ((spec_l1Cur_id.f k s0_0 s0_1 s0_2).bind fun bt162 => ((spec_l1Cur_one.f s0_0 bt162.2.1 bt162.2.2 8).bind fun bt165 => (if bt165.1 = true then ((spec_l1Cur_spoilt.f s0_0 bt165.2.1 bt165.2.2 bt162.1 (⟨#[65, 48, 66, 49]⟩ : ByteArray)).bind fun bt168 => (spec_l1Cur_anyId.j0 k bt168.1 s0_0 bt168.2.1 bt168.2.2)) else (spec_l1Cur_anyId.j0 k bt162.1 s0_0 bt165.2.1 bt165.2.2)))) = some (r1, r2, r3) := h
 clear h
 obtain ⟨⟨t162, t163, t164⟩, A2, H⟩ := bnd H
 try dsimp only at H
 obtain ⟨⟨t165, t166, t167⟩, A3, H⟩ := bnd H
 try dsimp only at H
 have HC4 := Aside0.mk H
 clear H
 go_enter Try.func60, Try.ntmps60
 go_upto_if 7 with (first | ((with_reducible refine gate_callee (f := 59) rfl ?_); refine goesL_ (some 5) rfl rfl Try.func59 (by kernel_rfl) rfl #[.pointer (some ⟨g, 0, none⟩)] rfl gmp ?_; (with_reducible refine (spec_l1Cur_id.calls k g s0_0 s0_1 s0_2 t162 t163 t164 w0 _ ?side1 ?side2 A2.out).mono ?_); (case side1 => exact IsS47.to HI0); (case side2 => exact belA HB); rintro e w5 ⟨rfl, hi, hb, hk⟩; refine ⟨_, rfl, ?_⟩; replace HK := Aside0.mk (KeepBut.trans (kee HK) hk (.inl rfl)); replace HB := Aside0.mk (hb); replace HI0 := Aside0.mk (hi); clear hb hk hi) | ((with_reducible refine gate_callee (f := 17) rfl ?_); refine goesL_ (some 7) rfl rfl Try.func17 (by kernel_rfl) rfl #[.pointer (some ⟨g, 0, none⟩), .int .i64 8] rfl gmp ?_; (with_reducible refine (spec_l1Cur_one.calls g s0_0 t163 t164 8 t165 t166 t167 w0 _ ?side1 ?side2 A3.out).mono ?_); (case side1 => exact IsS47.to HI0); (case side2 => exact belA HB); rintro e w6 ⟨rfl, hi, hb, hk⟩; refine ⟨_, rfl, ?_⟩; replace HK := Aside0.mk (KeepBut.trans (kee HK) hk (.inl rfl)); replace HB := Aside0.mk (hb); replace HI0 := Aside0.mk (hi); clear hb hk hi))
 (try simp only [Act.put, List.setIfInBounds_toArray, List.set_cons_zero, List.set_cons_succ])
 go_cut [3] (fun v3 wc => ∃ (kq : Nat) (x3_3 : ByteArray) (x1001_3 : Int) (x1002_3 : Int), v3 = .string x3_3 ∧ Aside0 (spec_l1Cur_anyId.j0 kq x3_3 s0_0 x1001_3 x1002_3 = some (r1, r2, r3)) ∧ Aside0 (kq ≤ k) ∧ Aside0 (IsS47 w0 wc g s0_0 x1001_3 x1002_3) ∧ Aside0 (KeepBut w wc g none) ∧ Aside0 (Below w0.heap.size w0 wc))
 case first =>
  have H := HC4.out
  clear HC4
  by_cases c7 : t165 = true
  rotate_left
  ·replace c7 := Bool.eq_false_iff.mpr c7
   subst c7
   replace H : (spec_l1Cur_anyId.j0 k t162 s0_0 t166 t167) = some (r1, r2, r3) := by rw [if_neg (show ¬ (false = true) by decide)] at H; exact H
   have H' := Aside0.mk H
   clear H
   go_wp2
   go_meet
   case rel => exact ⟨_, (t162), (t166), (t167), (by rfl ), H', ⟨by omega ⟩, ⟨IsS47.to HI0⟩, ⟨kee HK⟩, ⟨belA HB⟩⟩
  subst c7
  replace H : ((spec_l1Cur_spoilt.f s0_0 t166 t167 t162 (⟨#[65, 48, 66, 49]⟩ : ByteArray)).bind fun bt168 => (spec_l1Cur_anyId.j0 k bt168.1 s0_0 bt168.2.1 bt168.2.2)) = some (r1, r2, r3) := by rw [if_pos rfl] at H; exact H
  obtain ⟨⟨t168, t169, t170⟩, A8, H⟩ := bnd H
  try dsimp only at H
  have H' := Aside0.mk H
  clear H
  go_wp2_with (first | ((with_reducible refine gate_callee (f := 68) rfl ?_); refine goesL_ (some 10) rfl rfl Try.func68 (by kernel_rfl) rfl #[.pointer (some ⟨g, 0, none⟩), .string t162, .string (⟨#[65, 48, 66, 49]⟩ : ByteArray)] rfl gmp ?_; (with_reducible refine (spec_l1Cur_spoilt.calls g s0_0 t166 t167 t162 (⟨#[65, 48, 66, 49]⟩ : ByteArray) t168 t169 t170 w0 _ ?side1 ?side2 A8.out).mono ?_); (case side1 => exact IsS47.to HI0); (case side2 => exact belA HB); rintro e w9 ⟨rfl, hi, hb, hk⟩; refine ⟨_, rfl, ?_⟩; replace HK := Aside0.mk (KeepBut.trans (kee HK) hk (.inl rfl)); replace HB := Aside0.mk (hb); replace HI0 := Aside0.mk (hi); clear hb hk hi))
  go_meet
  case rel => exact ⟨_, (t168), (t169), (t170), (by rfl ), H', ⟨by omega ⟩, ⟨IsS47.to HI0⟩, ⟨kee HK⟩, ⟨belA HB⟩⟩
 clear HC4
 obtain ⟨kq, x3_3, x1001_3, x1002_3, rfl, HA, HJ3, HI0, HK, HB⟩ := hcut
 cases kq with
 | zero => exact absurd HA.out (by simp [spec_l1Cur_anyId.j0])
 | succ kj3 =>
  have H := HA.out
  clear HA
  simp only [spec_l1Cur_anyId.j0] at H
  obtain ⟨⟨t171, t172, t173⟩, A10, H⟩ := bnd H
  try dsimp only at H
  by_cases c11 : t171 = true
  rotate_left
  ·replace c11 := Bool.eq_false_iff.mpr c11
   subst c11
   replace H : (some (x3_3, t172, t173)) = some (r1, r2, r3) := by rw [if_neg (show ¬ (false = true) by decide)] at H; exact H
   simp only [Option.some.injEq, Prod.mk.injEq] at H
   obtain ⟨rfl, rfl, rfl⟩ := H
   go_wp2_with (first | ((with_reducible refine gate_callee (f := 17) rfl ?_); refine goesL_ (some 12) rfl rfl Try.func17 (by kernel_rfl) rfl #[.pointer (some ⟨g, 0, none⟩), .int .i64 24] rfl gmp ?_; (with_reducible refine (spec_l1Cur_one.calls g s0_0 x1001_3 x1002_3 24 false t172 t173 w0 _ ?side1 ?side2 A10.out).mono ?_); (case side1 => exact IsS47.to HI0); (case side2 => exact belA HB); rintro e w15 ⟨rfl, hi, hb, hk⟩; refine ⟨_, rfl, ?_⟩; replace HK := Aside0.mk (KeepBut.trans (kee HK) hk (.inl rfl)); replace HB := Aside0.mk (hb); replace HI0 := Aside0.mk (hi); clear hb hk hi))
   go_ret
   exact ⟨by rfl , IsS47.to HI0, belA HB, kee HK⟩
  subst c11
  replace H : ((spec_l2Number.f kj3 (⟨#[81, 81, 81]⟩ : ByteArray) 9999).bind fun t174 => (some (t174, t172, t173))) = some (r1, r2, r3) := by rw [if_pos rfl] at H; exact H
  obtain ⟨t174, A12, H⟩ := bnd H
  try dsimp only at H
  simp only [Option.some.injEq, Prod.mk.injEq] at H
  obtain ⟨rfl, rfl, rfl⟩ := H
  go_wp2_with (first | ((with_reducible refine gate_callee (f := 17) rfl ?_); refine goesL_ (some 12) rfl rfl Try.func17 (by kernel_rfl) rfl #[.pointer (some ⟨g, 0, none⟩), .int .i64 24] rfl gmp ?_; (with_reducible refine (spec_l1Cur_one.calls g s0_0 x1001_3 x1002_3 24 true t172 t173 w0 _ ?side1 ?side2 A10.out).mono ?_); (case side1 => exact IsS47.to HI0); (case side2 => exact belA HB); rintro e w13 ⟨rfl, hi, hb, hk⟩; refine ⟨_, rfl, ?_⟩; replace HK := Aside0.mk (KeepBut.trans (kee HK) hk (.inl rfl)); replace HB := Aside0.mk (hb); replace HI0 := Aside0.mk (hi); clear hb hk hi) | ((with_reducible refine gate_callee (f := 50) rfl ?_); refine goesL_ (some 13) rfl rfl Try.func50 (by kernel_rfl) rfl #[.string (⟨#[81, 81, 81]⟩ : ByteArray), .int .i64 9999] rfl gmp ?_; (with_reducible refine (spec_l2Number.calls kj3 (⟨#[81, 81, 81]⟩ : ByteArray) 9999 t174 _ A12.out).mono ?_); rintro e w14 ⟨rfl, hb⟩; refine ⟨_, rfl, ?_⟩; replace HI0 := Aside0.mk (IsS47.below (IsS47.to HI0) hb); replace HK := Aside0.mk (KeepBut.trans (kee HK) (KeepBut.of_below hb g none) (.inl rfl)); replace HB := Aside0.mk (below_step (belA HB) hb); (try clear hb)))
  go_ret
  exact ⟨by rfl , IsS47.to HI0, belA HB, kee HK⟩
/-! ### spec_l1Cur_anyContainer: function 49 -/
def spec_l1Cur_anyContainer.f (k : Nat) (s0_0 : List Int) (s0_1 : Int) (s0_2 : Int) : Option (ByteArray × Int × Int × Int × Int × Int × Int) := (spec_l1Cur_container.f k s0_0 s0_1 s0_2).bind fun bt176 => ((spec_l1Cur_pick.f s0_0 bt176.2.2.2.2.2.1 bt176.2.2.2.2.2.2 24).bind fun bt184 => (if bt184.1 = 0 then ((spec_l1Cur_anyId.f k s0_0 bt184.2.1 bt184.2.2).bind fun bt187 => (some (bt187.1, bt176.2.1, bt176.2.2.1, bt176.2.2.2.1, bt176.2.2.2.2.1, bt187.2.1, bt187.2.2))) else (if bt184.1 = 1 then ((spec_l1Cur_among.f s0_0 bt184.2.1 bt184.2.2 (([0, 3, 2] : List Int))).bind fun bt193 => (some (bt176.1, bt193.1, bt176.2.2.1, bt176.2.2.2.1, bt176.2.2.2.2.1, bt193.2.1, bt193.2.2))) else (if bt184.1 = 2 then ((spec_l1Cur_among.f s0_0 bt184.2.1 bt184.2.2 (([0, 32001, 32000, 1] : List Int))).bind fun bt199 => (some (bt176.1, bt176.2.1, bt199.1, bt176.2.2.2.1, bt176.2.2.2.2.1, bt199.2.1, bt199.2.2))) else (if bt184.1 = 3 then ((spec_l1Cur_among.f s0_0 bt184.2.1 bt184.2.2 (([0, 4, 3] : List Int))).bind fun bt205 => (some (bt176.1, bt176.2.1, bt176.2.2.1, bt205.1, bt176.2.2.2.2.1, bt205.2.1, bt205.2.2))) else (if bt184.1 = 4 then ((spec_l1Cur_among.f s0_0 bt184.2.1 bt184.2.2 (([0, 10, 9] : List Int))).bind fun bt211 => (some (bt176.1, bt176.2.1, bt176.2.2.1, bt176.2.2.2.1, bt211.1, bt211.2.1, bt211.2.2))) else (some (bt176.1, bt176.2.1, bt176.2.2.1, bt176.2.2.2.1, bt176.2.2.2.2.1, bt184.2.1, bt184.2.2))))))))
set_option maxHeartbeats 8000000 in
set_option maxRecDepth 100000 in
theorem spec_l1Cur_anyContainer.calls (k : Nat) (g : Nat) (s0_0 : List Int) (s0_1 : Int) (s0_2 : Int) (r1 : ByteArray) (r2 : Int) (r3 : Int) (r4 : Int) (r5 : Int) (r6 : Int) (r7 : Int) (w0 w : World) (hI : IsS47 w0 w g s0_0 s0_1 s0_2) (hB : Below w0.heap.size w0 w) (h : spec_l1Cur_anyContainer.f k s0_0 s0_1 s0_2 = some (r1, r2, r3, r4, r5, r6, r7)) :
  Calls Try.prog 49 #[.pointer (some ⟨g, 0, none⟩)] w fun e w' => e = .returned (.agg #[.string r1, .int .i64 r2, .int .i64 r3, .int .i64 r4, .int .i64 r5]) ∧ IsS47 w0 w' g s0_0 r6 r7 ∧ Below w0.heap.size w0 w' ∧ KeepBut w w' g none := by
 have hu71 := Try.underlying71
 have HI0 := Aside0.mk hI
 have HK := Aside0.mk (KeepBut.refl w g none)
 have HL := Aside0.mk hB.size
 clear hI
 have HW0 := Aside0.mk hB.size
 have HB := Aside0.mk hB
 clear hB
 have H : ((spec_l1Cur_container.f k s0_0 s0_1 s0_2).bind fun bt176 => ((spec_l1Cur_pick.f s0_0 bt176.2.2.2.2.2.1 bt176.2.2.2.2.2.2 24).bind fun bt184 => (if bt184.1 = 0 then ((spec_l1Cur_anyId.f k s0_0 bt184.2.1 bt184.2.2).bind fun bt187 => (some (bt187.1, bt176.2.1, bt176.2.2.1, bt176.2.2.2.1, bt176.2.2.2.2.1, bt187.2.1, bt187.2.2))) else (if bt184.1 = 1 then ((spec_l1Cur_among.f s0_0 bt184.2.1 bt184.2.2 (([0, 3, 2] : List Int))).bind fun bt193 => (some (bt176.1, bt193.1, bt176.2.2.1, bt176.2.2.2.1, bt176.2.2.2.2.1, bt193.2.1, bt193.2.2))) else (if bt184.1 = 2 then ((spec_l1Cur_among.f s0_0 bt184.2.1 bt184.2.2 (([0, 32001, 32000, 1] : List Int))).bind fun bt199 => (some (bt176.1, bt176.2.1, bt199.1, bt176.2.2.2.1, bt176.2.2.2.2.1, bt199.2.1, bt199.2.2))) else (if bt184.1 = 3 then ((spec_l1Cur_among.f s0_0 bt184.2.1 bt184.2.2 (([0, 4, 3] : List Int))).bind fun bt205 => (some (bt176.1, bt176.2.1, bt176.2.2.1, bt205.1, bt176.2.2.2.2.1, bt205.2.1, bt205.2.2))) else (if bt184.1 = 4 then ((spec_l1Cur_among.f s0_0 bt184.2.1 bt184.2.2 (([0, 10, 9] : List Int))).bind fun bt211 => (some (bt176.1, bt176.2.1, bt176.2.2.1, bt176.2.2.2.1, bt211.1, bt211.2.1, bt211.2.2))) else (some (bt176.1, bt176.2.1, bt176.2.2.1, bt176.2.2.2.1, bt176.2.2.2.2.1, bt184.2.1, bt184.2.2))))))))) = some (r1, r2, r3, r4, r5, r6, r7) := h
 clear h
 obtain ⟨⟨t176, t177, t178, t179, t180, t181, t182⟩, A2, H⟩ := bnd H
 try dsimp only at H
 obtain ⟨⟨t184, t185, t186⟩, A3, H⟩ := bnd H
 try dsimp only at H
 by_cases c4 : t184 = 0
 ·rw [if_pos c4] at H
  have c4b0 : (t184 == 0) = true := beq_iff_eq.mpr c4
  have c4b1 : (t184 != 0) = false := bne_eq_false_iff_eq.mpr c4
  clear c4
  obtain ⟨⟨t187, t188, t189⟩, A5, H⟩ := bnd H
  try dsimp only at H
  simp only [Option.some.injEq, Prod.mk.injEq] at H
  obtain ⟨rfl, rfl, rfl, rfl, rfl, rfl, rfl⟩ := H
  go_enter Try.func49, Try.ntmps49
  go_wp2_with (first | ((with_reducible refine gate_dst (N := 2) rfl ?_); refine box_event ?hg (N := 2) ?hd (cs := #[.string (⟨#[]⟩ : ByteArray), .int .i64 0, .int .i64 0, .int .i64 0, .int .i64 0]) (t := 71) ?hr ?_; (case hd | hg => rfl); (case hr => go_simp); intro gb175 hg w6 hbox hb; replace HB := Aside0.mk (below_step (belA HB) hb); have BK175 := Aside0.mk (hbox); have GW175 := gsk hg (kee HK); have GE175 := gswk HW0 hg (kee HK); replace HK := Aside0.mk (KeepBut.trans (kee HK) (KeepBut.of_below hb g none) (.inl rfl)); have NB0_175 := nll hg (IsS47.lt (IsS47.to HI0)); have NB175_0 := nlr hg (IsS47.lt (IsS47.to HI0)); replace HI0 := Aside0.mk (IsS47.below (IsS47.to HI0) hb); clear hb hbox hg) | ((with_reducible refine gate_callee (f := 47) rfl ?_); refine goesL_ (some 5) rfl rfl Try.func47 (by kernel_rfl) rfl #[.pointer (some ⟨g, 0, none⟩)] rfl gmp ?_; (with_reducible refine (spec_l1Cur_container.calls k g s0_0 s0_1 s0_2 t176 t177 t178 t179 t180 t181 t182 w0 _ ?side1 ?side2 A2.out).mono ?_); (case side1 => exact IsS47.to HI0); (case side2 => exact belA HB); rintro e w7 ⟨rfl, hi, hb, hk⟩; refine ⟨_, rfl, ?_⟩; replace BK175 := kbk hk BK175 NB175_0; replace HK := Aside0.mk (KeepBut.trans (kee HK) hk (.inl rfl)); replace HB := Aside0.mk (hb); replace HI0 := Aside0.mk (hi); clear hb hk hi) | ((with_reducible refine gate_dst (N := 3) rfl ?_); refine box_event ?hg (N := 3) ?hd (cs := #[.string (⟨#[]⟩ : ByteArray), .int .i64 0, .int .i64 0, .int .i64 0, .int .i64 0]) (t := 71) ?hr ?_; (case hd | hg => rfl); (case hr => go_simp); intro gb183 hg w8 hbox hb; replace HB := Aside0.mk (below_step (belA HB) hb); have BK183 := Aside0.mk (hbox); have GW183 := gsk hg (kee HK); have GE183 := gswk HW0 hg (kee HK); replace HK := Aside0.mk (KeepBut.trans (kee HK) (KeepBut.of_below hb g none) (.inl rfl)); have NB175_183 := nbl hg BK175; have NB183_175 := nbr hg BK175; replace BK175 := bkb BK175 hb; have NB0_183 := nll hg (IsS47.lt (IsS47.to HI0)); have NB183_0 := nlr hg (IsS47.lt (IsS47.to HI0)); replace HI0 := Aside0.mk (IsS47.below (IsS47.to HI0) hb); clear hb hbox hg; have hnb9 := NB183_175.out; have hnc9 := NB175_183.out; have hnb10 := NB183_0.out; have hnc10 := NB0_183.out; obtain ⟨_, _, _, _, _, _, _, _, _, _⟩ := bf5 BK183) | ((with_reducible refine gate_callee (f := 16) rfl ?_); refine goesL_ (some 7) rfl rfl Try.func16 (by kernel_rfl) rfl #[.pointer (some ⟨g, 0, none⟩), .int .i64 24] rfl gmp ?_; (with_reducible refine (spec_l1Cur_pick.calls g s0_0 t181 t182 24 t184 t185 t186 w0 _ ?side1 ?side2 A3.out).mono ?_); (case side1 => exact IsS47.to HI0); (case side2 => exact belA HB); rintro e w12 ⟨rfl, hi, hb, hk⟩; refine ⟨_, rfl, ?_⟩; replace BK175 := Aside0.mk (KeepBut.blk hk (g' := gb175) (o := .cells #[.string (⟨#[]⟩ : ByteArray), .int .i64 0, .int .i64 0, .int .i64 0, .int .i64 0] 71 (0, 0)) (blk_far (blk_far (blk_far (blk_far (blk_far BK175.out NB175_183.out _) NB175_183.out _) NB175_183.out _) NB175_183.out _) NB175_183.out _) NB175_0.out (by simp)); replace BK183 := Aside0.mk (KeepBut.blk hk (g' := gb183) (o := .cells #[.string t176, .int .i64 t177, .int .i64 t178, .int .i64 t179, .int .i64 t180] 71 (0, 0)) (blk_put (blk_put (blk_put (blk_put (blk_put BK183.out 0 _ rfl) 1 _ rfl) 2 _ rfl) 3 _ rfl) 4 _ rfl) NB183_0.out (by simp)); replace HK := Aside0.mk (KeepBut.trans (kee HK) hk (.inl rfl)); replace HB := Aside0.mk (hb); replace HI0 := Aside0.mk (hi); clear hb hk hi) | ((with_reducible refine gate_callee (f := 60) rfl ?_); refine goesL_ (some 11) rfl rfl Try.func60 (by kernel_rfl) rfl #[.pointer (some ⟨g, 0, none⟩)] rfl gmp ?_; (with_reducible refine (spec_l1Cur_anyId.calls k g s0_0 t185 t186 t187 t188 t189 w0 _ ?side1 ?side2 A5.out).mono ?_); (case side1 => exact IsS47.to HI0); (case side2 => exact belA HB); rintro e w13 ⟨rfl, hi, hb, hk⟩; refine ⟨_, rfl, ?_⟩; replace BK175 := kbk hk BK175 NB175_0; replace BK183 := kbk hk BK183 NB183_0; replace HK := Aside0.mk (KeepBut.trans (kee HK) hk (.inl rfl)); replace HB := Aside0.mk (hb); replace HI0 := Aside0.mk (hi); clear hb hk hi; have hcz14_0 := bc BK183 0; have hcz14_1 := bc BK183 1; have hcz14_2 := bc BK183 2; have hcz14_3 := bc BK183 3; have hcz14_4 := bc BK183 4; have hfz14_0 := blk_frozen BK183.out 0; have hfz14_1 := blk_frozen BK183.out 1; have hfz14_2 := blk_frozen BK183.out 2; have hfz14_3 := blk_frozen BK183.out 3; have hfz14_4 := blk_frozen BK183.out 4; have hnb15 := NB175_0.out; have hnc15 := NB0_175.out; obtain ⟨_, _, _, _, _, _, _, _, _, _⟩ := bf5 BK175))
  refine bodyPost_ret (results_cell_row rfl _ _ gb175 71 #[.string t187, .int .i64 t177, .int .i64 t178, .int .i64 t179, .int .i64 t180] (0, 0) _ rfl (blk_put (blk_put (blk_put (blk_put (blk_put (blk_far BK175.out NB175_183.out _) 0 _ rfl) 1 _ rfl) 2 _ rfl) 3 _ rfl) 4 _ rfl) Try.underlying71 rfl (by kernel_rfl)) rfl ?_
  exact ⟨by rfl , IsS47.to HI0, belA HB, kee HK⟩
 rw [if_neg c4] at H
 have c4b0 : (t184 == 0) = false := beq_eq_false_iff_ne.mpr c4
 have c4b1 : (t184 != 0) = true := bne_iff_ne.mpr c4
 by_cases c17 : t184 = 1
 ·rw [if_pos c17] at H
  have c17b0 : (t184 == 1) = true := beq_iff_eq.mpr c17
  have c17b1 : (t184 != 1) = false := bne_eq_false_iff_eq.mpr c17
  clear c17
  obtain ⟨y190, hy190⟩ : ∃ y_ : List Int, y_ = (([0, 3, 2] : List Int)) := ⟨_, rfl⟩
  replace H : ((spec_l1Cur_among.f s0_0 t185 t186 y190).bind fun bt193 => (some (t176, bt193.1, t178, t179, t180, bt193.2.1, bt193.2.2))) = some (r1, r2, r3, r4, r5, r6, r7) := by (rw [hy190]; with_reducible exact H) 
  have Ny190 := Aside0.mk hy190
  clear hy190
  obtain ⟨⟨t193, t194, t195⟩, A18, H⟩ := bnd H
  try dsimp only at H
  simp only [Option.some.injEq, Prod.mk.injEq] at H
  obtain ⟨rfl, rfl, rfl, rfl, rfl, rfl, rfl⟩ := H
  go_enter Try.func49, Try.ntmps49
  go_wp2_with (first | ((with_reducible refine gate_dst (N := 2) rfl ?_); refine box_event ?hg (N := 2) ?hd (cs := #[.string (⟨#[]⟩ : ByteArray), .int .i64 0, .int .i64 0, .int .i64 0, .int .i64 0]) (t := 71) ?hr ?_; (case hd | hg => rfl); (case hr => go_simp); intro gb175 hg w19 hbox hb; replace HB := Aside0.mk (below_step (belA HB) hb); have BK175 := Aside0.mk (hbox); have GW175 := gsk hg (kee HK); have GE175 := gswk HW0 hg (kee HK); replace HK := Aside0.mk (KeepBut.trans (kee HK) (KeepBut.of_below hb g none) (.inl rfl)); have NB0_175 := nll hg (IsS47.lt (IsS47.to HI0)); have NB175_0 := nlr hg (IsS47.lt (IsS47.to HI0)); replace HI0 := Aside0.mk (IsS47.below (IsS47.to HI0) hb); clear hb hbox hg) | ((with_reducible refine gate_callee (f := 47) rfl ?_); refine goesL_ (some 5) rfl rfl Try.func47 (by kernel_rfl) rfl #[.pointer (some ⟨g, 0, none⟩)] rfl gmp ?_; (with_reducible refine (spec_l1Cur_container.calls k g s0_0 s0_1 s0_2 t176 t177 t178 t179 t180 t181 t182 w0 _ ?side1 ?side2 A2.out).mono ?_); (case side1 => exact IsS47.to HI0); (case side2 => exact belA HB); rintro e w20 ⟨rfl, hi, hb, hk⟩; refine ⟨_, rfl, ?_⟩; replace BK175 := kbk hk BK175 NB175_0; replace HK := Aside0.mk (KeepBut.trans (kee HK) hk (.inl rfl)); replace HB := Aside0.mk (hb); replace HI0 := Aside0.mk (hi); clear hb hk hi) | ((with_reducible refine gate_dst (N := 3) rfl ?_); refine box_event ?hg (N := 3) ?hd (cs := #[.string (⟨#[]⟩ : ByteArray), .int .i64 0, .int .i64 0, .int .i64 0, .int .i64 0]) (t := 71) ?hr ?_; (case hd | hg => rfl); (case hr => go_simp); intro gb183 hg w21 hbox hb; replace HB := Aside0.mk (below_step (belA HB) hb); have BK183 := Aside0.mk (hbox); have GW183 := gsk hg (kee HK); have GE183 := gswk HW0 hg (kee HK); replace HK := Aside0.mk (KeepBut.trans (kee HK) (KeepBut.of_below hb g none) (.inl rfl)); have NB175_183 := nbl hg BK175; have NB183_175 := nbr hg BK175; replace BK175 := bkb BK175 hb; have NB0_183 := nll hg (IsS47.lt (IsS47.to HI0)); have NB183_0 := nlr hg (IsS47.lt (IsS47.to HI0)); replace HI0 := Aside0.mk (IsS47.below (IsS47.to HI0) hb); clear hb hbox hg; have hnb22 := NB183_175.out; have hnc22 := NB175_183.out; have hnb23 := NB183_0.out; have hnc23 := NB0_183.out; obtain ⟨_, _, _, _, _, _, _, _, _, _⟩ := bf5 BK183) | ((with_reducible refine gate_callee (f := 16) rfl ?_); refine goesL_ (some 7) rfl rfl Try.func16 (by kernel_rfl) rfl #[.pointer (some ⟨g, 0, none⟩), .int .i64 24] rfl gmp ?_; (with_reducible refine (spec_l1Cur_pick.calls g s0_0 t181 t182 24 t184 t185 t186 w0 _ ?side1 ?side2 A3.out).mono ?_); (case side1 => exact IsS47.to HI0); (case side2 => exact belA HB); rintro e w25 ⟨rfl, hi, hb, hk⟩; refine ⟨_, rfl, ?_⟩; replace BK175 := Aside0.mk (KeepBut.blk hk (g' := gb175) (o := .cells #[.string (⟨#[]⟩ : ByteArray), .int .i64 0, .int .i64 0, .int .i64 0, .int .i64 0] 71 (0, 0)) (blk_far (blk_far (blk_far (blk_far (blk_far BK175.out NB175_183.out _) NB175_183.out _) NB175_183.out _) NB175_183.out _) NB175_183.out _) NB175_0.out (by simp)); replace BK183 := Aside0.mk (KeepBut.blk hk (g' := gb183) (o := .cells #[.string t176, .int .i64 t177, .int .i64 t178, .int .i64 t179, .int .i64 t180] 71 (0, 0)) (blk_put (blk_put (blk_put (blk_put (blk_put BK183.out 0 _ rfl) 1 _ rfl) 2 _ rfl) 3 _ rfl) 4 _ rfl) NB183_0.out (by simp)); replace HK := Aside0.mk (KeepBut.trans (kee HK) hk (.inl rfl)); replace HB := Aside0.mk (hb); replace HI0 := Aside0.mk (hi); clear hb hk hi) | ((with_reducible refine gate_dst (N := 16) rfl ?_); refine Kd.R_lit (Kd.int .i64) _ 3 ?hg (N := 16) ?hd (xs := ([0, 3, 2] : List Int)) (inner := [.int .i64 0, .int .i64 3, .int .i64 2]) (ok := fun _ => True) (okp := fun _ => True) ?hr ?hp (fun _ hk => hk) trivial (Below.refl _ _) (Nat.le_refl _) (by simp) ?_; (case hd | hg => rfl); (case hr => go_simp); (case hp => exact (Reps.one (show Kd.M (Kd.int .i64) _ _ _ 0 [.int .i64 0] from rfl) (Reps.one (show Kd.M (Kd.int .i64) _ _ _ 3 [.int .i64 3] from rfl) (Reps.one (show Kd.M (Kd.int .i64) _ _ _ 2 [.int .i64 2] from rfl) (Reps.none _ _))))); intro v191 w26 ho27 hb hg_ hnew_; clear hg_ hnew_; (rw [← Ny190.out] at ho27 ); have HO192 := Aside0.mk (Kd.R_lower ho27 (keep_size (w := w) (g := g) (row := none) (kee HK))); replace HI0 := Aside0.mk (IsS47.below (IsS47.to HI0) hb); replace BK175 := bkb BK175 hb; replace BK183 := bkb BK183 hb; replace HK := Aside0.mk (KeepBut.trans (kee HK) (KeepBut.of_below hb g none) (.inl rfl)); replace HB := Aside0.mk (below_step (belA HB) hb); clear hb ho27; obtain ⟨Ao28, co28, eo28⟩ := Kd.R_slice HO192.out; subst eo28) | ((with_reducible refine gate_callee (f := 35) rfl ?_); refine goesL_ (some 17) rfl rfl Try.func35 (by kernel_rfl) rfl #[.pointer (some ⟨g, 0, none⟩), .slice Ao28 y190.length co28] rfl gmp ?_; (with_reducible refine (spec_l1Cur_among.calls g s0_0 t185 t186 _ _ y190 t193 t194 t195 w0 _ ?side1 ?side2 ?side3 ?side4 ?side5 A18.out).mono ?_); (case side1 => exact IsS47.to HI0); (case side2 => exact belA HB); (case side3 => repeat (exact (Kd.R_reads' HO192.out).2.2 )); (case side4 => exact (Kd.R_reads' HO192.out).2.1); (case side5 => exact far_slice (IsS47.own_ne HI0.out HO192.out (by decide))); rintro e w29 ⟨rfl, hi, hb, hk⟩; refine ⟨_, rfl, ?_⟩; replace BK175 := kbk hk BK175 NB175_0; replace BK183 := kbk hk BK183 NB183_0; replace HO192 := Aside0.mk (Kd.R_mono (Kd.R_keep (IsS47.apart (show IsS47 w0 _ g s0_0 t185 t186 from IsS47.to HI0) (rdl HO192) (by decide)) hk (fun _ h => h.2)) (fun _ h => h.1)); replace HK := Aside0.mk (KeepBut.trans (kee HK) hk (.inl rfl)); replace HB := Aside0.mk (hb); replace HI0 := Aside0.mk (hi); clear hb hk hi; obtain ⟨_, _, _, _, _, _, _, _, _, _⟩ := bf5 BK183; have hnb31 := NB175_0.out; have hnc31 := NB0_175.out; obtain ⟨_, _, _, _, _, _, _, _, _, _⟩ := bf5 BK175))
  refine bodyPost_ret (results_cell_row rfl _ _ gb175 71 #[.string t176, .int .i64 t193, .int .i64 t178, .int .i64 t179, .int .i64 t180] (0, 0) _ rfl (blk_put (blk_put (blk_put (blk_put (blk_put (blk_far BK175.out NB175_183.out _) 0 _ rfl) 1 _ rfl) 2 _ rfl) 3 _ rfl) 4 _ rfl) Try.underlying71 rfl (by kernel_rfl)) rfl ?_
  exact ⟨by rfl , IsS47.to HI0, belA HB, kee HK⟩
 rw [if_neg c17] at H
 have c17b0 : (t184 == 1) = false := beq_eq_false_iff_ne.mpr c17
 have c17b1 : (t184 != 1) = true := bne_iff_ne.mpr c17
 by_cases c33 : t184 = 2
 ·rw [if_pos c33] at H
  have c33b0 : (t184 == 2) = true := beq_iff_eq.mpr c33
  have c33b1 : (t184 != 2) = false := bne_eq_false_iff_eq.mpr c33
  clear c33
  obtain ⟨y196, hy196⟩ : ∃ y_ : List Int, y_ = (([0, 32001, 32000, 1] : List Int)) := ⟨_, rfl⟩
  replace H : ((spec_l1Cur_among.f s0_0 t185 t186 y196).bind fun bt199 => (some (t176, t177, bt199.1, t179, t180, bt199.2.1, bt199.2.2))) = some (r1, r2, r3, r4, r5, r6, r7) := by (rw [hy196]; with_reducible exact H) 
  have Ny196 := Aside0.mk hy196
  clear hy196
  obtain ⟨⟨t199, t200, t201⟩, A34, H⟩ := bnd H
  try dsimp only at H
  simp only [Option.some.injEq, Prod.mk.injEq] at H
  obtain ⟨rfl, rfl, rfl, rfl, rfl, rfl, rfl⟩ := H
  go_enter Try.func49, Try.ntmps49
  go_wp2_with (first | ((with_reducible refine gate_dst (N := 2) rfl ?_); refine box_event ?hg (N := 2) ?hd (cs := #[.string (⟨#[]⟩ : ByteArray), .int .i64 0, .int .i64 0, .int .i64 0, .int .i64 0]) (t := 71) ?hr ?_; (case hd | hg => rfl); (case hr => go_simp); intro gb175 hg w35 hbox hb; replace HB := Aside0.mk (below_step (belA HB) hb); have BK175 := Aside0.mk (hbox); have GW175 := gsk hg (kee HK); have GE175 := gswk HW0 hg (kee HK); replace HK := Aside0.mk (KeepBut.trans (kee HK) (KeepBut.of_below hb g none) (.inl rfl)); have NB0_175 := nll hg (IsS47.lt (IsS47.to HI0)); have NB175_0 := nlr hg (IsS47.lt (IsS47.to HI0)); replace HI0 := Aside0.mk (IsS47.below (IsS47.to HI0) hb); clear hb hbox hg) | ((with_reducible refine gate_callee (f := 47) rfl ?_); refine goesL_ (some 5) rfl rfl Try.func47 (by kernel_rfl) rfl #[.pointer (some ⟨g, 0, none⟩)] rfl gmp ?_; (with_reducible refine (spec_l1Cur_container.calls k g s0_0 s0_1 s0_2 t176 t177 t178 t179 t180 t181 t182 w0 _ ?side1 ?side2 A2.out).mono ?_); (case side1 => exact IsS47.to HI0); (case side2 => exact belA HB); rintro e w36 ⟨rfl, hi, hb, hk⟩; refine ⟨_, rfl, ?_⟩; replace BK175 := kbk hk BK175 NB175_0; replace HK := Aside0.mk (KeepBut.trans (kee HK) hk (.inl rfl)); replace HB := Aside0.mk (hb); replace HI0 := Aside0.mk (hi); clear hb hk hi) | ((with_reducible refine gate_dst (N := 3) rfl ?_); refine box_event ?hg (N := 3) ?hd (cs := #[.string (⟨#[]⟩ : ByteArray), .int .i64 0, .int .i64 0, .int .i64 0, .int .i64 0]) (t := 71) ?hr ?_; (case hd | hg => rfl); (case hr => go_simp); intro gb183 hg w37 hbox hb; replace HB := Aside0.mk (below_step (belA HB) hb); have BK183 := Aside0.mk (hbox); have GW183 := gsk hg (kee HK); have GE183 := gswk HW0 hg (kee HK); replace HK := Aside0.mk (KeepBut.trans (kee HK) (KeepBut.of_below hb g none) (.inl rfl)); have NB175_183 := nbl hg BK175; have NB183_175 := nbr hg BK175; replace BK175 := bkb BK175 hb; have NB0_183 := nll hg (IsS47.lt (IsS47.to HI0)); have NB183_0 := nlr hg (IsS47.lt (IsS47.to HI0)); replace HI0 := Aside0.mk (IsS47.below (IsS47.to HI0) hb); clear hb hbox hg; have hnb38 := NB183_175.out; have hnc38 := NB175_183.out; have hnb39 := NB183_0.out; have hnc39 := NB0_183.out; obtain ⟨_, _, _, _, _, _, _, _, _, _⟩ := bf5 BK183) | ((with_reducible refine gate_callee (f := 16) rfl ?_); refine goesL_ (some 7) rfl rfl Try.func16 (by kernel_rfl) rfl #[.pointer (some ⟨g, 0, none⟩), .int .i64 24] rfl gmp ?_; (with_reducible refine (spec_l1Cur_pick.calls g s0_0 t181 t182 24 t184 t185 t186 w0 _ ?side1 ?side2 A3.out).mono ?_); (case side1 => exact IsS47.to HI0); (case side2 => exact belA HB); rintro e w41 ⟨rfl, hi, hb, hk⟩; refine ⟨_, rfl, ?_⟩; replace BK175 := Aside0.mk (KeepBut.blk hk (g' := gb175) (o := .cells #[.string (⟨#[]⟩ : ByteArray), .int .i64 0, .int .i64 0, .int .i64 0, .int .i64 0] 71 (0, 0)) (blk_far (blk_far (blk_far (blk_far (blk_far BK175.out NB175_183.out _) NB175_183.out _) NB175_183.out _) NB175_183.out _) NB175_183.out _) NB175_0.out (by simp)); replace BK183 := Aside0.mk (KeepBut.blk hk (g' := gb183) (o := .cells #[.string t176, .int .i64 t177, .int .i64 t178, .int .i64 t179, .int .i64 t180] 71 (0, 0)) (blk_put (blk_put (blk_put (blk_put (blk_put BK183.out 0 _ rfl) 1 _ rfl) 2 _ rfl) 3 _ rfl) 4 _ rfl) NB183_0.out (by simp)); replace HK := Aside0.mk (KeepBut.trans (kee HK) hk (.inl rfl)); replace HB := Aside0.mk (hb); replace HI0 := Aside0.mk (hi); clear hb hk hi) | ((with_reducible refine gate_dst (N := 22) rfl ?_); refine Kd.R_lit (Kd.int .i64) _ 3 ?hg (N := 22) ?hd (xs := ([0, 32001, 32000, 1] : List Int)) (inner := [.int .i64 0, .int .i64 32001, .int .i64 32000, .int .i64 1]) (ok := fun _ => True) (okp := fun _ => True) ?hr ?hp (fun _ hk => hk) trivial (Below.refl _ _) (Nat.le_refl _) (by simp) ?_; (case hd | hg => rfl); (case hr => go_simp); (case hp => exact (Reps.one (show Kd.M (Kd.int .i64) _ _ _ 0 [.int .i64 0] from rfl) (Reps.one (show Kd.M (Kd.int .i64) _ _ _ 32001 [.int .i64 32001] from rfl) (Reps.one (show Kd.M (Kd.int .i64) _ _ _ 32000 [.int .i64 32000] from rfl) (Reps.one (show Kd.M (Kd.int .i64) _ _ _ 1 [.int .i64 1] from rfl) (Reps.none _ _)))))); intro v197 w42 ho43 hb hg_ hnew_; clear hg_ hnew_; (rw [← Ny196.out] at ho43 ); have HO198 := Aside0.mk (Kd.R_lower ho43 (keep_size (w := w) (g := g) (row := none) (kee HK))); replace HI0 := Aside0.mk (IsS47.below (IsS47.to HI0) hb); replace BK175 := bkb BK175 hb; replace BK183 := bkb BK183 hb; replace HK := Aside0.mk (KeepBut.trans (kee HK) (KeepBut.of_below hb g none) (.inl rfl)); replace HB := Aside0.mk (below_step (belA HB) hb); clear hb ho43; obtain ⟨Ao44, co44, eo44⟩ := Kd.R_slice HO198.out; subst eo44) | ((with_reducible refine gate_callee (f := 35) rfl ?_); refine goesL_ (some 23) rfl rfl Try.func35 (by kernel_rfl) rfl #[.pointer (some ⟨g, 0, none⟩), .slice Ao44 y196.length co44] rfl gmp ?_; (with_reducible refine (spec_l1Cur_among.calls g s0_0 t185 t186 _ _ y196 t199 t200 t201 w0 _ ?side1 ?side2 ?side3 ?side4 ?side5 A34.out).mono ?_); (case side1 => exact IsS47.to HI0); (case side2 => exact belA HB); (case side3 => repeat (exact (Kd.R_reads' HO198.out).2.2 )); (case side4 => exact (Kd.R_reads' HO198.out).2.1); (case side5 => exact far_slice (IsS47.own_ne HI0.out HO198.out (by decide))); rintro e w45 ⟨rfl, hi, hb, hk⟩; refine ⟨_, rfl, ?_⟩; replace BK175 := kbk hk BK175 NB175_0; replace BK183 := kbk hk BK183 NB183_0; replace HO198 := Aside0.mk (Kd.R_mono (Kd.R_keep (IsS47.apart (show IsS47 w0 _ g s0_0 t185 t186 from IsS47.to HI0) (rdl HO198) (by decide)) hk (fun _ h => h.2)) (fun _ h => h.1)); replace HK := Aside0.mk (KeepBut.trans (kee HK) hk (.inl rfl)); replace HB := Aside0.mk (hb); replace HI0 := Aside0.mk (hi); clear hb hk hi; obtain ⟨_, _, _, _, _, _, _, _, _, _⟩ := bf5 BK183; have hnb47 := NB175_0.out; have hnc47 := NB0_175.out; obtain ⟨_, _, _, _, _, _, _, _, _, _⟩ := bf5 BK175))
  refine bodyPost_ret (results_cell_row rfl _ _ gb175 71 #[.string t176, .int .i64 t177, .int .i64 t199, .int .i64 t179, .int .i64 t180] (0, 0) _ rfl (blk_put (blk_put (blk_put (blk_put (blk_put (blk_far BK175.out NB175_183.out _) 0 _ rfl) 1 _ rfl) 2 _ rfl) 3 _ rfl) 4 _ rfl) Try.underlying71 rfl (by kernel_rfl)) rfl ?_
  exact ⟨by rfl , IsS47.to HI0, belA HB, kee HK⟩
 rw [if_neg c33] at H
 have c33b0 : (t184 == 2) = false := beq_eq_false_iff_ne.mpr c33
 have c33b1 : (t184 != 2) = true := bne_iff_ne.mpr c33
 by_cases c49 : t184 = 3
 ·rw [if_pos c49] at H
  have c49b0 : (t184 == 3) = true := beq_iff_eq.mpr c49
  have c49b1 : (t184 != 3) = false := bne_eq_false_iff_eq.mpr c49
  clear c49
  obtain ⟨y202, hy202⟩ : ∃ y_ : List Int, y_ = (([0, 4, 3] : List Int)) := ⟨_, rfl⟩
  replace H : ((spec_l1Cur_among.f s0_0 t185 t186 y202).bind fun bt205 => (some (t176, t177, t178, bt205.1, t180, bt205.2.1, bt205.2.2))) = some (r1, r2, r3, r4, r5, r6, r7) := by (rw [hy202]; with_reducible exact H) 
  have Ny202 := Aside0.mk hy202
  clear hy202
  obtain ⟨⟨t205, t206, t207⟩, A50, H⟩ := bnd H
  try dsimp only at H
  simp only [Option.some.injEq, Prod.mk.injEq] at H
  obtain ⟨rfl, rfl, rfl, rfl, rfl, rfl, rfl⟩ := H
  go_enter Try.func49, Try.ntmps49
  go_wp2_with (first | ((with_reducible refine gate_dst (N := 2) rfl ?_); refine box_event ?hg (N := 2) ?hd (cs := #[.string (⟨#[]⟩ : ByteArray), .int .i64 0, .int .i64 0, .int .i64 0, .int .i64 0]) (t := 71) ?hr ?_; (case hd | hg => rfl); (case hr => go_simp); intro gb175 hg w51 hbox hb; replace HB := Aside0.mk (below_step (belA HB) hb); have BK175 := Aside0.mk (hbox); have GW175 := gsk hg (kee HK); have GE175 := gswk HW0 hg (kee HK); replace HK := Aside0.mk (KeepBut.trans (kee HK) (KeepBut.of_below hb g none) (.inl rfl)); have NB0_175 := nll hg (IsS47.lt (IsS47.to HI0)); have NB175_0 := nlr hg (IsS47.lt (IsS47.to HI0)); replace HI0 := Aside0.mk (IsS47.below (IsS47.to HI0) hb); clear hb hbox hg) | ((with_reducible refine gate_callee (f := 47) rfl ?_); refine goesL_ (some 5) rfl rfl Try.func47 (by kernel_rfl) rfl #[.pointer (some ⟨g, 0, none⟩)] rfl gmp ?_; (with_reducible refine (spec_l1Cur_container.calls k g s0_0 s0_1 s0_2 t176 t177 t178 t179 t180 t181 t182 w0 _ ?side1 ?side2 A2.out).mono ?_); (case side1 => exact IsS47.to HI0); (case side2 => exact belA HB); rintro e w52 ⟨rfl, hi, hb, hk⟩; refine ⟨_, rfl, ?_⟩; replace BK175 := kbk hk BK175 NB175_0; replace HK := Aside0.mk (KeepBut.trans (kee HK) hk (.inl rfl)); replace HB := Aside0.mk (hb); replace HI0 := Aside0.mk (hi); clear hb hk hi) | ((with_reducible refine gate_dst (N := 3) rfl ?_); refine box_event ?hg (N := 3) ?hd (cs := #[.string (⟨#[]⟩ : ByteArray), .int .i64 0, .int .i64 0, .int .i64 0, .int .i64 0]) (t := 71) ?hr ?_; (case hd | hg => rfl); (case hr => go_simp); intro gb183 hg w53 hbox hb; replace HB := Aside0.mk (below_step (belA HB) hb); have BK183 := Aside0.mk (hbox); have GW183 := gsk hg (kee HK); have GE183 := gswk HW0 hg (kee HK); replace HK := Aside0.mk (KeepBut.trans (kee HK) (KeepBut.of_below hb g none) (.inl rfl)); have NB175_183 := nbl hg BK175; have NB183_175 := nbr hg BK175; replace BK175 := bkb BK175 hb; have NB0_183 := nll hg (IsS47.lt (IsS47.to HI0)); have NB183_0 := nlr hg (IsS47.lt (IsS47.to HI0)); replace HI0 := Aside0.mk (IsS47.below (IsS47.to HI0) hb); clear hb hbox hg; have hnb54 := NB183_175.out; have hnc54 := NB175_183.out; have hnb55 := NB183_0.out; have hnc55 := NB0_183.out; obtain ⟨_, _, _, _, _, _, _, _, _, _⟩ := bf5 BK183) | ((with_reducible refine gate_callee (f := 16) rfl ?_); refine goesL_ (some 7) rfl rfl Try.func16 (by kernel_rfl) rfl #[.pointer (some ⟨g, 0, none⟩), .int .i64 24] rfl gmp ?_; (with_reducible refine (spec_l1Cur_pick.calls g s0_0 t181 t182 24 t184 t185 t186 w0 _ ?side1 ?side2 A3.out).mono ?_); (case side1 => exact IsS47.to HI0); (case side2 => exact belA HB); rintro e w57 ⟨rfl, hi, hb, hk⟩; refine ⟨_, rfl, ?_⟩; replace BK175 := Aside0.mk (KeepBut.blk hk (g' := gb175) (o := .cells #[.string (⟨#[]⟩ : ByteArray), .int .i64 0, .int .i64 0, .int .i64 0, .int .i64 0] 71 (0, 0)) (blk_far (blk_far (blk_far (blk_far (blk_far BK175.out NB175_183.out _) NB175_183.out _) NB175_183.out _) NB175_183.out _) NB175_183.out _) NB175_0.out (by simp)); replace BK183 := Aside0.mk (KeepBut.blk hk (g' := gb183) (o := .cells #[.string t176, .int .i64 t177, .int .i64 t178, .int .i64 t179, .int .i64 t180] 71 (0, 0)) (blk_put (blk_put (blk_put (blk_put (blk_put BK183.out 0 _ rfl) 1 _ rfl) 2 _ rfl) 3 _ rfl) 4 _ rfl) NB183_0.out (by simp)); replace HK := Aside0.mk (KeepBut.trans (kee HK) hk (.inl rfl)); replace HB := Aside0.mk (hb); replace HI0 := Aside0.mk (hi); clear hb hk hi) | ((with_reducible refine gate_dst (N := 28) rfl ?_); refine Kd.R_lit (Kd.int .i64) _ 3 ?hg (N := 28) ?hd (xs := ([0, 4, 3] : List Int)) (inner := [.int .i64 0, .int .i64 4, .int .i64 3]) (ok := fun _ => True) (okp := fun _ => True) ?hr ?hp (fun _ hk => hk) trivial (Below.refl _ _) (Nat.le_refl _) (by simp) ?_; (case hd | hg => rfl); (case hr => go_simp); (case hp => exact (Reps.one (show Kd.M (Kd.int .i64) _ _ _ 0 [.int .i64 0] from rfl) (Reps.one (show Kd.M (Kd.int .i64) _ _ _ 4 [.int .i64 4] from rfl) (Reps.one (show Kd.M (Kd.int .i64) _ _ _ 3 [.int .i64 3] from rfl) (Reps.none _ _))))); intro v203 w58 ho59 hb hg_ hnew_; clear hg_ hnew_; (rw [← Ny202.out] at ho59 ); have HO204 := Aside0.mk (Kd.R_lower ho59 (keep_size (w := w) (g := g) (row := none) (kee HK))); replace HI0 := Aside0.mk (IsS47.below (IsS47.to HI0) hb); replace BK175 := bkb BK175 hb; replace BK183 := bkb BK183 hb; replace HK := Aside0.mk (KeepBut.trans (kee HK) (KeepBut.of_below hb g none) (.inl rfl)); replace HB := Aside0.mk (below_step (belA HB) hb); clear hb ho59; obtain ⟨Ao60, co60, eo60⟩ := Kd.R_slice HO204.out; subst eo60) | ((with_reducible refine gate_callee (f := 35) rfl ?_); refine goesL_ (some 29) rfl rfl Try.func35 (by kernel_rfl) rfl #[.pointer (some ⟨g, 0, none⟩), .slice Ao60 y202.length co60] rfl gmp ?_; (with_reducible refine (spec_l1Cur_among.calls g s0_0 t185 t186 _ _ y202 t205 t206 t207 w0 _ ?side1 ?side2 ?side3 ?side4 ?side5 A50.out).mono ?_); (case side1 => exact IsS47.to HI0); (case side2 => exact belA HB); (case side3 => repeat (exact (Kd.R_reads' HO204.out).2.2 )); (case side4 => exact (Kd.R_reads' HO204.out).2.1); (case side5 => exact far_slice (IsS47.own_ne HI0.out HO204.out (by decide))); rintro e w61 ⟨rfl, hi, hb, hk⟩; refine ⟨_, rfl, ?_⟩; replace BK175 := kbk hk BK175 NB175_0; replace BK183 := kbk hk BK183 NB183_0; replace HO204 := Aside0.mk (Kd.R_mono (Kd.R_keep (IsS47.apart (show IsS47 w0 _ g s0_0 t185 t186 from IsS47.to HI0) (rdl HO204) (by decide)) hk (fun _ h => h.2)) (fun _ h => h.1)); replace HK := Aside0.mk (KeepBut.trans (kee HK) hk (.inl rfl)); replace HB := Aside0.mk (hb); replace HI0 := Aside0.mk (hi); clear hb hk hi; obtain ⟨_, _, _, _, _, _, _, _, _, _⟩ := bf5 BK183; have hnb63 := NB175_0.out; have hnc63 := NB0_175.out; obtain ⟨_, _, _, _, _, _, _, _, _, _⟩ := bf5 BK175))
  refine bodyPost_ret (results_cell_row rfl _ _ gb175 71 #[.string t176, .int .i64 t177, .int .i64 t178, .int .i64 t205, .int .i64 t180] (0, 0) _ rfl (blk_put (blk_put (blk_put (blk_put (blk_put (blk_far BK175.out NB175_183.out _) 0 _ rfl) 1 _ rfl) 2 _ rfl) 3 _ rfl) 4 _ rfl) Try.underlying71 rfl (by kernel_rfl)) rfl ?_
  exact ⟨by rfl , IsS47.to HI0, belA HB, kee HK⟩
 rw [if_neg c49] at H
 have c49b0 : (t184 == 3) = false := beq_eq_false_iff_ne.mpr c49
 have c49b1 : (t184 != 3) = true := bne_iff_ne.mpr c49
 by_cases c65 : t184 = 4
 rotate_left
 ·rw [if_neg c65] at H
  have c65b0 : (t184 == 4) = false := beq_eq_false_iff_ne.mpr c65
  have c65b1 : (t184 != 4) = true := bne_iff_ne.mpr c65
  simp only [Option.some.injEq, Prod.mk.injEq] at H
  obtain ⟨rfl, rfl, rfl, rfl, rfl, rfl, rfl⟩ := H
  go_enter Try.func49, Try.ntmps49
  go_wp2_with (first | ((with_reducible refine gate_dst (N := 2) rfl ?_); refine box_event ?hg (N := 2) ?hd (cs := #[.string (⟨#[]⟩ : ByteArray), .int .i64 0, .int .i64 0, .int .i64 0, .int .i64 0]) (t := 71) ?hr ?_; (case hd | hg => rfl); (case hr => go_simp); intro gb175 hg w81 hbox hb; replace HB := Aside0.mk (below_step (belA HB) hb); have BK175 := Aside0.mk (hbox); have GW175 := gsk hg (kee HK); have GE175 := gswk HW0 hg (kee HK); replace HK := Aside0.mk (KeepBut.trans (kee HK) (KeepBut.of_below hb g none) (.inl rfl)); have NB0_175 := nll hg (IsS47.lt (IsS47.to HI0)); have NB175_0 := nlr hg (IsS47.lt (IsS47.to HI0)); replace HI0 := Aside0.mk (IsS47.below (IsS47.to HI0) hb); clear hb hbox hg) | ((with_reducible refine gate_callee (f := 47) rfl ?_); refine goesL_ (some 5) rfl rfl Try.func47 (by kernel_rfl) rfl #[.pointer (some ⟨g, 0, none⟩)] rfl gmp ?_; (with_reducible refine (spec_l1Cur_container.calls k g s0_0 s0_1 s0_2 t176 t177 t178 t179 t180 t181 t182 w0 _ ?side1 ?side2 A2.out).mono ?_); (case side1 => exact IsS47.to HI0); (case side2 => exact belA HB); rintro e w82 ⟨rfl, hi, hb, hk⟩; refine ⟨_, rfl, ?_⟩; replace BK175 := kbk hk BK175 NB175_0; replace HK := Aside0.mk (KeepBut.trans (kee HK) hk (.inl rfl)); replace HB := Aside0.mk (hb); replace HI0 := Aside0.mk (hi); clear hb hk hi) | ((with_reducible refine gate_dst (N := 3) rfl ?_); refine box_event ?hg (N := 3) ?hd (cs := #[.string (⟨#[]⟩ : ByteArray), .int .i64 0, .int .i64 0, .int .i64 0, .int .i64 0]) (t := 71) ?hr ?_; (case hd | hg => rfl); (case hr => go_simp); intro gb183 hg w83 hbox hb; replace HB := Aside0.mk (below_step (belA HB) hb); have BK183 := Aside0.mk (hbox); have GW183 := gsk hg (kee HK); have GE183 := gswk HW0 hg (kee HK); replace HK := Aside0.mk (KeepBut.trans (kee HK) (KeepBut.of_below hb g none) (.inl rfl)); have NB175_183 := nbl hg BK175; have NB183_175 := nbr hg BK175; replace BK175 := bkb BK175 hb; have NB0_183 := nll hg (IsS47.lt (IsS47.to HI0)); have NB183_0 := nlr hg (IsS47.lt (IsS47.to HI0)); replace HI0 := Aside0.mk (IsS47.below (IsS47.to HI0) hb); clear hb hbox hg; have hnb84 := NB183_175.out; have hnc84 := NB175_183.out; have hnb85 := NB183_0.out; have hnc85 := NB0_183.out; obtain ⟨_, _, _, _, _, _, _, _, _, _⟩ := bf5 BK183) | ((with_reducible refine gate_callee (f := 16) rfl ?_); refine goesL_ (some 7) rfl rfl Try.func16 (by kernel_rfl) rfl #[.pointer (some ⟨g, 0, none⟩), .int .i64 24] rfl gmp ?_; (with_reducible refine (spec_l1Cur_pick.calls g s0_0 t181 t182 24 t184 t185 t186 w0 _ ?side1 ?side2 A3.out).mono ?_); (case side1 => exact IsS47.to HI0); (case side2 => exact belA HB); rintro e w87 ⟨rfl, hi, hb, hk⟩; refine ⟨_, rfl, ?_⟩; replace BK175 := Aside0.mk (KeepBut.blk hk (g' := gb175) (o := .cells #[.string (⟨#[]⟩ : ByteArray), .int .i64 0, .int .i64 0, .int .i64 0, .int .i64 0] 71 (0, 0)) (blk_far (blk_far (blk_far (blk_far (blk_far BK175.out NB175_183.out _) NB175_183.out _) NB175_183.out _) NB175_183.out _) NB175_183.out _) NB175_0.out (by simp)); replace BK183 := Aside0.mk (KeepBut.blk hk (g' := gb183) (o := .cells #[.string t176, .int .i64 t177, .int .i64 t178, .int .i64 t179, .int .i64 t180] 71 (0, 0)) (blk_put (blk_put (blk_put (blk_put (blk_put BK183.out 0 _ rfl) 1 _ rfl) 2 _ rfl) 3 _ rfl) 4 _ rfl) NB183_0.out (by simp)); replace HK := Aside0.mk (KeepBut.trans (kee HK) hk (.inl rfl)); replace HB := Aside0.mk (hb); replace HI0 := Aside0.mk (hi); clear hb hk hi; obtain ⟨_, _, _, _, _, _, _, _, _, _⟩ := bf5 BK183; have hnb89 := NB175_0.out; have hnc89 := NB0_175.out; obtain ⟨_, _, _, _, _, _, _, _, _, _⟩ := bf5 BK175))
  refine bodyPost_ret (results_cell_row rfl _ _ gb175 71 #[.string t176, .int .i64 t177, .int .i64 t178, .int .i64 t179, .int .i64 t180] (0, 0) _ rfl (blk_put (blk_put (blk_put (blk_put (blk_put BK175.out 0 _ rfl) 1 _ rfl) 2 _ rfl) 3 _ rfl) 4 _ rfl) Try.underlying71 rfl (by kernel_rfl)) rfl ?_
  exact ⟨by rfl , IsS47.to HI0, belA HB, kee HK⟩
 rw [if_pos c65] at H
 have c65b0 : (t184 == 4) = true := beq_iff_eq.mpr c65
 have c65b1 : (t184 != 4) = false := bne_eq_false_iff_eq.mpr c65
 clear c65
 obtain ⟨y208, hy208⟩ : ∃ y_ : List Int, y_ = (([0, 10, 9] : List Int)) := ⟨_, rfl⟩
 replace H : ((spec_l1Cur_among.f s0_0 t185 t186 y208).bind fun bt211 => (some (t176, t177, t178, t179, bt211.1, bt211.2.1, bt211.2.2))) = some (r1, r2, r3, r4, r5, r6, r7) := by (rw [hy208]; with_reducible exact H) 
 have Ny208 := Aside0.mk hy208
 clear hy208
 obtain ⟨⟨t211, t212, t213⟩, A66, H⟩ := bnd H
 try dsimp only at H
 simp only [Option.some.injEq, Prod.mk.injEq] at H
 obtain ⟨rfl, rfl, rfl, rfl, rfl, rfl, rfl⟩ := H
 go_enter Try.func49, Try.ntmps49
 go_wp2_with (first | ((with_reducible refine gate_dst (N := 2) rfl ?_); refine box_event ?hg (N := 2) ?hd (cs := #[.string (⟨#[]⟩ : ByteArray), .int .i64 0, .int .i64 0, .int .i64 0, .int .i64 0]) (t := 71) ?hr ?_; (case hd | hg => rfl); (case hr => go_simp); intro gb175 hg w67 hbox hb; replace HB := Aside0.mk (below_step (belA HB) hb); have BK175 := Aside0.mk (hbox); have GW175 := gsk hg (kee HK); have GE175 := gswk HW0 hg (kee HK); replace HK := Aside0.mk (KeepBut.trans (kee HK) (KeepBut.of_below hb g none) (.inl rfl)); have NB0_175 := nll hg (IsS47.lt (IsS47.to HI0)); have NB175_0 := nlr hg (IsS47.lt (IsS47.to HI0)); replace HI0 := Aside0.mk (IsS47.below (IsS47.to HI0) hb); clear hb hbox hg) | ((with_reducible refine gate_callee (f := 47) rfl ?_); refine goesL_ (some 5) rfl rfl Try.func47 (by kernel_rfl) rfl #[.pointer (some ⟨g, 0, none⟩)] rfl gmp ?_; (with_reducible refine (spec_l1Cur_container.calls k g s0_0 s0_1 s0_2 t176 t177 t178 t179 t180 t181 t182 w0 _ ?side1 ?side2 A2.out).mono ?_); (case side1 => exact IsS47.to HI0); (case side2 => exact belA HB); rintro e w68 ⟨rfl, hi, hb, hk⟩; refine ⟨_, rfl, ?_⟩; replace BK175 := kbk hk BK175 NB175_0; replace HK := Aside0.mk (KeepBut.trans (kee HK) hk (.inl rfl)); replace HB := Aside0.mk (hb); replace HI0 := Aside0.mk (hi); clear hb hk hi) | ((with_reducible refine gate_dst (N := 3) rfl ?_); refine box_event ?hg (N := 3) ?hd (cs := #[.string (⟨#[]⟩ : ByteArray), .int .i64 0, .int .i64 0, .int .i64 0, .int .i64 0]) (t := 71) ?hr ?_; (case hd | hg => rfl); (case hr => go_simp); intro gb183 hg w69 hbox hb; replace HB := Aside0.mk (below_step (belA HB) hb); have BK183 := Aside0.mk (hbox); have GW183 := gsk hg (kee HK); have GE183 := gswk HW0 hg (kee HK); replace HK := Aside0.mk (KeepBut.trans (kee HK) (KeepBut.of_below hb g none) (.inl rfl)); have NB175_183 := nbl hg BK175; have NB183_175 := nbr hg BK175; replace BK175 := bkb BK175 hb; have NB0_183 := nll hg (IsS47.lt (IsS47.to HI0)); have NB183_0 := nlr hg (IsS47.lt (IsS47.to HI0)); replace HI0 := Aside0.mk (IsS47.below (IsS47.to HI0) hb); clear hb hbox hg; have hnb70 := NB183_175.out; have hnc70 := NB175_183.out; have hnb71 := NB183_0.out; have hnc71 := NB0_183.out; obtain ⟨_, _, _, _, _, _, _, _, _, _⟩ := bf5 BK183) | ((with_reducible refine gate_callee (f := 16) rfl ?_); refine goesL_ (some 7) rfl rfl Try.func16 (by kernel_rfl) rfl #[.pointer (some ⟨g, 0, none⟩), .int .i64 24] rfl gmp ?_; (with_reducible refine (spec_l1Cur_pick.calls g s0_0 t181 t182 24 t184 t185 t186 w0 _ ?side1 ?side2 A3.out).mono ?_); (case side1 => exact IsS47.to HI0); (case side2 => exact belA HB); rintro e w73 ⟨rfl, hi, hb, hk⟩; refine ⟨_, rfl, ?_⟩; replace BK175 := Aside0.mk (KeepBut.blk hk (g' := gb175) (o := .cells #[.string (⟨#[]⟩ : ByteArray), .int .i64 0, .int .i64 0, .int .i64 0, .int .i64 0] 71 (0, 0)) (blk_far (blk_far (blk_far (blk_far (blk_far BK175.out NB175_183.out _) NB175_183.out _) NB175_183.out _) NB175_183.out _) NB175_183.out _) NB175_0.out (by simp)); replace BK183 := Aside0.mk (KeepBut.blk hk (g' := gb183) (o := .cells #[.string t176, .int .i64 t177, .int .i64 t178, .int .i64 t179, .int .i64 t180] 71 (0, 0)) (blk_put (blk_put (blk_put (blk_put (blk_put BK183.out 0 _ rfl) 1 _ rfl) 2 _ rfl) 3 _ rfl) 4 _ rfl) NB183_0.out (by simp)); replace HK := Aside0.mk (KeepBut.trans (kee HK) hk (.inl rfl)); replace HB := Aside0.mk (hb); replace HI0 := Aside0.mk (hi); clear hb hk hi) | ((with_reducible refine gate_dst (N := 34) rfl ?_); refine Kd.R_lit (Kd.int .i64) _ 3 ?hg (N := 34) ?hd (xs := ([0, 10, 9] : List Int)) (inner := [.int .i64 0, .int .i64 10, .int .i64 9]) (ok := fun _ => True) (okp := fun _ => True) ?hr ?hp (fun _ hk => hk) trivial (Below.refl _ _) (Nat.le_refl _) (by simp) ?_; (case hd | hg => rfl); (case hr => go_simp); (case hp => exact (Reps.one (show Kd.M (Kd.int .i64) _ _ _ 0 [.int .i64 0] from rfl) (Reps.one (show Kd.M (Kd.int .i64) _ _ _ 10 [.int .i64 10] from rfl) (Reps.one (show Kd.M (Kd.int .i64) _ _ _ 9 [.int .i64 9] from rfl) (Reps.none _ _))))); intro v209 w74 ho75 hb hg_ hnew_; clear hg_ hnew_; (rw [← Ny208.out] at ho75 ); have HO210 := Aside0.mk (Kd.R_lower ho75 (keep_size (w := w) (g := g) (row := none) (kee HK))); replace HI0 := Aside0.mk (IsS47.below (IsS47.to HI0) hb); replace BK175 := bkb BK175 hb; replace BK183 := bkb BK183 hb; replace HK := Aside0.mk (KeepBut.trans (kee HK) (KeepBut.of_below hb g none) (.inl rfl)); replace HB := Aside0.mk (below_step (belA HB) hb); clear hb ho75; obtain ⟨Ao76, co76, eo76⟩ := Kd.R_slice HO210.out; subst eo76) | ((with_reducible refine gate_callee (f := 35) rfl ?_); refine goesL_ (some 35) rfl rfl Try.func35 (by kernel_rfl) rfl #[.pointer (some ⟨g, 0, none⟩), .slice Ao76 y208.length co76] rfl gmp ?_; (with_reducible refine (spec_l1Cur_among.calls g s0_0 t185 t186 _ _ y208 t211 t212 t213 w0 _ ?side1 ?side2 ?side3 ?side4 ?side5 A66.out).mono ?_); (case side1 => exact IsS47.to HI0); (case side2 => exact belA HB); (case side3 => repeat (exact (Kd.R_reads' HO210.out).2.2 )); (case side4 => exact (Kd.R_reads' HO210.out).2.1); (case side5 => exact far_slice (IsS47.own_ne HI0.out HO210.out (by decide))); rintro e w77 ⟨rfl, hi, hb, hk⟩; refine ⟨_, rfl, ?_⟩; replace BK175 := kbk hk BK175 NB175_0; replace BK183 := kbk hk BK183 NB183_0; replace HO210 := Aside0.mk (Kd.R_mono (Kd.R_keep (IsS47.apart (show IsS47 w0 _ g s0_0 t185 t186 from IsS47.to HI0) (rdl HO210) (by decide)) hk (fun _ h => h.2)) (fun _ h => h.1)); replace HK := Aside0.mk (KeepBut.trans (kee HK) hk (.inl rfl)); replace HB := Aside0.mk (hb); replace HI0 := Aside0.mk (hi); clear hb hk hi; obtain ⟨_, _, _, _, _, _, _, _, _, _⟩ := bf5 BK183; have hnb79 := NB175_0.out; have hnc79 := NB0_175.out; obtain ⟨_, _, _, _, _, _, _, _, _, _⟩ := bf5 BK175))
 refine bodyPost_ret (results_cell_row rfl _ _ gb175 71 #[.string t176, .int .i64 t177, .int .i64 t178, .int .i64 t179, .int .i64 t211] (0, 0) _ rfl (blk_put (blk_put (blk_put (blk_put (blk_put (blk_far BK175.out NB175_183.out _) 0 _ rfl) 1 _ rfl) 2 _ rfl) 3 _ rfl) 4 _ rfl) Try.underlying71 rfl (by kernel_rfl)) rfl ?_
 exact ⟨by rfl , IsS47.to HI0, belA HB, kee HK⟩
/-! ### spec_l1Cur_containers: function 33 -/
mutual
def spec_l1Cur_containers.l0 : Nat → List (S71) → Int → List Int → Int → Int → Option ((List (S71)) × Int × Int)
 | 0, _, _, _, _, _ => none
 | k + 1, x3, x4, x1000, x1001, x1002 => if x4 > 0 then ((spec_l1Cur_container.f k x1000 x1001 x1002).bind fun bt220 => ((spec_l2Find.f k x3 bt220.1).bind fun t228 => (if t228 < 0 then (if x3.length < 2932031007402 then (spec_l1Cur_containers.l0 k (x3 ++ [(⟨bt220.1, bt220.2.1, bt220.2.2.1, bt220.2.2.2.1, bt220.2.2.2.2.1⟩ : S71)]) (wrap64 (x4 - 1)) x1000 bt220.2.2.2.2.2.1 bt220.2.2.2.2.2.2) else (none)) else (spec_l1Cur_containers.l0 k x3 (wrap64 (x4 - 1)) x1000 bt220.2.2.2.2.2.1 bt220.2.2.2.2.2.2)))) else ((spec_l1Cur_pick.f x1000 x1001 x1002 20).bind fun bt232 => (if bt232.1 = 0 then ((spec_l1Cur_anyContainer.f k x1000 bt232.2.1 bt232.2.2).bind fun bt235 => (if x3.length < 2932031007402 then (some ((x3 ++ [(⟨bt235.1, bt235.2.1, bt235.2.2.1, bt235.2.2.2.1, bt235.2.2.2.2.1⟩ : S71)]), bt235.2.2.2.2.2.1, bt235.2.2.2.2.2.2)) else (none))) else (if bt232.1 = 1 then (if (x3.length : Int) > 0 then ((spec_l1Cur_pick.f x1000 bt232.2.1 bt232.2.2 (x3.length : Int)).bind fun bt245 => (if 0 ≤ bt245.1 then (if bt245.1 < (x3.length : Int) then (if x3.length < 2932031007402 then (some ((x3 ++ [(⟨(rd_T71 x3 bt245.1).f0, (rd_T71 x3 bt245.1).f1, (rd_T71 x3 bt245.1).f2, (rd_T71 x3 bt245.1).f3, (rd_T71 x3 bt245.1).f4⟩ : S71)]), bt245.2.1, bt245.2.2)) else (none)) else (none)) else (none))) else (some (x3, bt232.2.1, bt232.2.2))) else (if bt232.1 = 2 then (spec_l1Cur_containers.l1 k x3 0 x1000 bt232.2.1 bt232.2.2) else (some (x3, bt232.2.1, bt232.2.2))))))
def spec_l1Cur_containers.l1 : Nat → List (S71) → Int → List Int → Int → Int → Option ((List (S71)) × Int × Int)
 | 0, _, _, _, _, _ => none
 | k + 1, x3, x6, x1000, x1001, x1002 => (spec_l1Cur_pick.f x1000 x1001 x1002 2).bind fun bt252 => (if (x3.length : Int) < (wrap64 (12 + bt252.1)) then (if x6 < 14 then ((spec_l2Number.f k (⟨#[77, 65, 88]⟩ : ByteArray) x6).bind fun t255 => (if x3.length < 2932031007402 then (spec_l1Cur_containers.l1 k (x3 ++ [(⟨t255, 1, wrap64 (100 + x6), 1, wrap64 (1 + (Int.tmod x6 9))⟩ : S71)]) (wrap64 (x6 + 1)) x1000 bt252.2.1 bt252.2.2) else (none))) else (some (x3, bt252.2.1, bt252.2.2))) else (some (x3, bt252.2.1, bt252.2.2)))
end
def spec_l1Cur_containers.f (k : Nat) (s0_0 : List Int) (s0_1 : Int) (s0_2 : Int) : Option ((List (S71)) × Int × Int) := (spec_l1Cur_pick.f s0_0 s0_1 s0_2 8).bind fun bt217 => (spec_l1Cur_containers.l0 k (([] : List (S71))) bt217.1 s0_0 bt217.2.1 bt217.2.2)
set_option maxHeartbeats 8000000 in
set_option maxRecDepth 100000 in
theorem spec_l1Cur_containers.calls (k : Nat) (g : Nat) (s0_0 : List Int) (s0_1 : Int) (s0_2 : Int) (r1 : List (S71)) (r2 : Int) (r3 : Int) (w0 w : World) (hI : IsS47 w0 w g s0_0 s0_1 s0_2) (hB : Below w0.heap.size w0 w) (h : spec_l1Cur_containers.f k s0_0 s0_1 s0_2 = some (r1, r2, r3)) :
  Calls Try.prog 33 #[.pointer (some ⟨g, 0, none⟩)] w fun e w' => ∃ v0_ : Value, e = .returned (v0_) ∧ Kd.R k71 71 w' w.heap.size (fun _ => True) v0_ r1 ∧ IsS47 w0 w' g s0_0 r2 r3 ∧ Below w0.heap.size w0 w' ∧ KeepBut w w' g none := by
 have hu71 := Try.underlying71
 have HI0 := Aside0.mk hI
 have HK := Aside0.mk (KeepBut.refl w g none)
 have HL := Aside0.mk hB.size
 clear hI
 have HW0 := Aside0.mk hB.size
 have HB := Aside0.mk hB
 clear hB
 have H : ((spec_l1Cur_pick.f s0_0 s0_1 s0_2 8).bind fun bt217 => (spec_l1Cur_containers.l0 k (([] : List (S71))) bt217.1 s0_0 bt217.2.1 bt217.2.2)) = some (r1, r2, r3) := h
 clear h
 obtain ⟨y214, hy214⟩ : ∃ y_ : List (S71), y_ = (([] : List (S71))) := ⟨_, rfl⟩
 replace H : ((spec_l1Cur_pick.f s0_0 s0_1 s0_2 8).bind fun bt217 => (spec_l1Cur_containers.l0 k y214 bt217.1 s0_0 bt217.2.1 bt217.2.2)) = some (r1, r2, r3) := by (rw [hy214]; with_reducible exact H) 
 have Ny214 := Aside0.mk hy214
 clear hy214
 obtain ⟨⟨t217, t218, t219⟩, A2, H⟩ := bnd H
 try dsimp only at H
 have H' := Aside0.mk H
 clear H
 go_enter Try.func33, Try.ntmps33
 go_wp2_with (first | ((with_reducible refine gate_dst (N := 7) rfl ?_); refine Kd.R_lit k71 _ 71 ?hg (N := 7) ?hd (xs := ([] : List (S71))) (inner := []) (ok := fun _ => True) (okp := fun _ => True) ?hr ?hp (fun _ hk => hk) trivial (Below.refl _ _) (Nat.le_refl _) (by simp) ?_; (case hd | hg => rfl); (case hr => go_simp); (case hp => exact (Reps.none _ _)); intro v215 w3 ho4 hb hg_ hnew_; clear hg_ hnew_; (rw [← Ny214.out] at ho4 ); have HO216 := Aside0.mk (Kd.R_lower ho4 (keep_size (w := w) (g := g) (row := none) (kee HK))); replace HI0 := Aside0.mk (IsS47.below (IsS47.to HI0) hb); replace HK := Aside0.mk (KeepBut.trans (kee HK) (KeepBut.of_below hb g none) (.inl rfl)); replace HB := Aside0.mk (below_step (belA HB) hb); clear hb ho4) | ((with_reducible refine gate_callee (f := 16) rfl ?_); refine goesL_ (some 9) rfl rfl Try.func16 (by kernel_rfl) rfl #[.pointer (some ⟨g, 0, none⟩), .int .i64 8] rfl gmp ?_; (with_reducible refine (spec_l1Cur_pick.calls g s0_0 s0_1 s0_2 8 t217 t218 t219 w0 _ ?side1 ?side2 A2.out).mono ?_); (case side1 => exact IsS47.to HI0); (case side2 => exact belA HB); rintro e w5 ⟨rfl, hi, hb, hk⟩; refine ⟨_, rfl, ?_⟩; replace HO216 := Aside0.mk (Kd.R_mono (Kd.R_keep (IsS47.apart (show IsS47 w0 _ g s0_0 s0_1 s0_2 from IsS47.to HI0) (rdl HO216) (by decide)) hk (fun _ h => h.2)) (fun _ h => h.1)); replace HK := Aside0.mk (KeepBut.trans (kee HK) hk (.inl rfl)); replace HB := Aside0.mk (hb); replace HI0 := Aside0.mk (hi); clear hb hk hi))
 go_loopg [3, 4] k (fun kq v3 v4 w' => ∃ (x3_1 : List (S71)) (x4_1 : Int) (x1001_1 : Int) (x1002_1 : Int), v4 = .int .i64 x4_1 ∧ Aside0 (spec_l1Cur_containers.l0 kq x3_1 x4_1 s0_0 x1001_1 x1002_1 = some (r1, r2, r3)) ∧ Aside0 (kq ≤ k) ∧ Aside0 (Kd.R k71 71 w' w.heap.size (fun _ => True) v3 x3_1) ∧ Aside0 (IsS47 w0 w' g s0_0 x1001_1 x1002_1) ∧ Aside0 (KeepBut w w' g none) ∧ Aside0 (Below w0.heap.size w0 w'))
 case atStart => exact ⟨(y214), (t217), (t218), (t219), (by rfl ), H', ⟨Nat.le_refl _⟩, ⟨rdl HO216⟩, ⟨IsS47.to HI0⟩, ⟨kee HK⟩, ⟨belA HB⟩⟩
 clear H'
 obtain ⟨x3_1, x4_1, x1001_1, x1002_1, rfl, HA, HK1, HO_3, HI0, HK, HB⟩ := hrel
 cases gk with
 | zero => exact absurd HA.out (by simp [spec_l1Cur_containers.l0])
 | succ k1 =>
  have H := HA.out
  clear HA
  simp only [spec_l1Cur_containers.l0] at H
  by_cases c6 : x4_1 > 0
  ·rw [if_pos c6] at H
   have c6b0 : decide (0 < x4_1) = true := decide_eq_true c6
   clear c6
   obtain ⟨⟨t220, t221, t222, t223, t224, t225, t226⟩, A7, H⟩ := bnd H
   try dsimp only at H
   obtain ⟨t228, A8, H⟩ := bnd H
   try dsimp only at H
   by_cases c9 : t228 < 0
   rotate_left
   ·rw [if_neg c9] at H
    have c9b0 : decide (t228 < 0) = false := decide_eq_false c9
    clear c9
    have H' := Aside0.mk H
    clear H
    go_wp2_with (first | ((with_reducible refine gate_callee (f := 47) rfl ?_); refine goesL_ (some 15) rfl rfl Try.func47 (by kernel_rfl) rfl #[.pointer (some ⟨g, 0, none⟩)] rfl gmp ?_; (with_reducible refine (spec_l1Cur_container.calls k1 g s0_0 x1001_1 x1002_1 t220 t221 t222 t223 t224 t225 t226 w0 _ ?side1 ?side2 A7.out).mono ?_); (case side1 => exact IsS47.to HI0); (case side2 => exact belA HB); rintro e w17 ⟨rfl, hi, hb, hk⟩; refine ⟨_, rfl, ?_⟩; replace HO_3 := Aside0.mk (Kd.R_mono (Kd.R_keep (IsS47.apart (show IsS47 w0 _ g s0_0 x1001_1 x1002_1 from IsS47.to HI0) (rdl HO_3) (by decide)) hk (fun _ h => h.2)) (fun _ h => h.1)); replace HK := Aside0.mk (KeepBut.trans (kee HK) hk (.inl rfl)); replace HB := Aside0.mk (hb); replace HI0 := Aside0.mk (hi); clear hb hk hi) | ((with_reducible refine gate_dst (N := 5) rfl ?_); refine box_event ?hg (N := 5) ?hd (cs := #[.string (⟨#[]⟩ : ByteArray), .int .i64 0, .int .i64 0, .int .i64 0, .int .i64 0]) (t := 71) ?hr ?_; (case hd | hg => rfl); (case hr => go_simp); intro gb227 hg w18 hbox hb; replace HO_3 := Aside0.mk (Kd.R_below (Kd.R_elderB (rdl HO_3) gb227 (Nat.le_of_eq hg.symm)) hb); replace HB := Aside0.mk (below_step (belA HB) hb); have BK227 := Aside0.mk (hbox); have GW227 := gsk hg (kee HK); have GE227 := gswk HW0 hg (kee HK); replace HK := Aside0.mk (KeepBut.trans (kee HK) (KeepBut.of_below hb g none) (.inl rfl)); have NB0_227 := nll hg (IsS47.lt (IsS47.to HI0)); have NB227_0 := nlr hg (IsS47.lt (IsS47.to HI0)); replace HI0 := Aside0.mk (IsS47.below (IsS47.to HI0) hb); clear hb hbox hg; have hnb19 := NB227_0.out; have hnc19 := NB0_227.out; obtain ⟨_, _, _, _, _, _, _, _, _, _⟩ := bf5 BK227; obtain ⟨Ao21, co21, eo21⟩ := Kd.R_slice HO_3.out; subst eo21) | ((with_reducible refine gate_callee (f := 48) rfl ?_); refine goesL_ (some 19) rfl rfl Try.func48 (by kernel_rfl) rfl #[.slice Ao21 x3_1.length co21, .string t220] rfl gmp ?_; (with_reducible refine (spec_l2Find.calls k1 _ _ x3_1 t220 t228 _ ?side1 ?side2 A8.out).mono ?_); (case side1 => refine (Kd.R_reads' (e := 71) (base := w.heap.size) (ok := fun k_ => (True ∧ k_ ≠ gb227)) (n := x3_1.length) (c := co21) ?_).2.2; exact (by exact (Kd.R_mono (Kd.R_far (p := ⟨gb227, 4, none⟩) (Kd.R_far (p := ⟨gb227, 3, none⟩) (Kd.R_far (p := ⟨gb227, 2, none⟩) (Kd.R_far (p := ⟨gb227, 1, none⟩) (Kd.R_far (p := ⟨gb227, 0, none⟩) (Kd.R_mono HO_3.out (fun k_ hk => (⟨hk, hk.2⟩ : _ ∧ k_ ≠ gb227))) (fun _ hk => hk.2) (.string t220)) (fun _ hk => hk.2) (.int .i64 t221)) (fun _ hk => hk.2) (.int .i64 t222)) (fun _ hk => hk.2) (.int .i64 t223)) (fun _ hk => hk.2) (.int .i64 t224)) (fun _ h_ => h_.1)))); (case side2 => exact (Kd.R_reads' HO_3.out).2.1); rintro e w' ⟨rfl, ⟨nd, rfl⟩⟩; refine ⟨_, rfl, ?_⟩))
    go_roundg k1
    case measure => have := HK1.out; omega
    case rel => exact ⟨(x3_1), (wrap64 (x4_1 - 1)), (t225), (t226), (by rfl ), H', ⟨by have := HK1.out; omega⟩, ⟨by (with_reducible repeat (apply Kd.R_drewN )); exact Kd.R_mono (Kd.R_far (p := ⟨gb227, 4, none⟩) (Kd.R_far (p := ⟨gb227, 3, none⟩) (Kd.R_far (p := ⟨gb227, 2, none⟩) (Kd.R_far (p := ⟨gb227, 1, none⟩) (Kd.R_far (p := ⟨gb227, 0, none⟩) (Kd.R_mono HO_3.out (fun k_ hk => (⟨hk, hk.2⟩ : _ ∧ k_ ≠ gb227))) (fun _ hk => hk.2) (.string t220)) (fun _ hk => hk.2) (.int .i64 t221)) (fun _ hk => hk.2) (.int .i64 t222)) (fun _ hk => hk.2) (.int .i64 t223)) (fun _ hk => hk.2) (.int .i64 t224)) (fun _ hk => trivial)⟩, ⟨IsS47.to HI0⟩, ⟨kee HK⟩, ⟨belA HB⟩⟩
   rw [if_pos c9] at H
   have c9b0 : decide (t228 < 0) = true := decide_eq_true c9
   clear c9
   by_cases c10 : x3_1.length < 2932031007402
   rotate_left
   ·rw [if_neg c10] at H
    exact absurd H (by simp)
   rw [if_pos c10] at H
   have LMc10 := Aside0.mk c10
   clear c10
   obtain ⟨y229, hy229⟩ : ∃ y_ : List (S71), y_ = (x3_1 ++ [(⟨t220, t221, t222, t223, t224⟩ : S71)]) := ⟨_, rfl⟩
   replace H : (spec_l1Cur_containers.l0 k1 y229 (wrap64 (x4_1 - 1)) s0_0 t225 t226) = some (r1, r2, r3) := by (rw [hy229]; with_reducible exact H) 
   have Ny229 := Aside0.mk hy229
   clear hy229
   have H' := Aside0.mk H
   clear H
   go_wp2_with (first | ((with_reducible refine gate_callee (f := 47) rfl ?_); refine goesL_ (some 15) rfl rfl Try.func47 (by kernel_rfl) rfl #[.pointer (some ⟨g, 0, none⟩)] rfl gmp ?_; (with_reducible refine (spec_l1Cur_container.calls k1 g s0_0 x1001_1 x1002_1 t220 t221 t222 t223 t224 t225 t226 w0 _ ?side1 ?side2 A7.out).mono ?_); (case side1 => exact IsS47.to HI0); (case side2 => exact belA HB); rintro e w11 ⟨rfl, hi, hb, hk⟩; refine ⟨_, rfl, ?_⟩; replace HO_3 := Aside0.mk (Kd.R_mono (Kd.R_keep (IsS47.apart (show IsS47 w0 _ g s0_0 x1001_1 x1002_1 from IsS47.to HI0) (rdl HO_3) (by decide)) hk (fun _ h => h.2)) (fun _ h => h.1)); replace HK := Aside0.mk (KeepBut.trans (kee HK) hk (.inl rfl)); replace HB := Aside0.mk (hb); replace HI0 := Aside0.mk (hi); clear hb hk hi) | ((with_reducible refine gate_dst (N := 5) rfl ?_); refine box_event ?hg (N := 5) ?hd (cs := #[.string (⟨#[]⟩ : ByteArray), .int .i64 0, .int .i64 0, .int .i64 0, .int .i64 0]) (t := 71) ?hr ?_; (case hd | hg => rfl); (case hr => go_simp); intro gb227 hg w12 hbox hb; replace HO_3 := Aside0.mk (Kd.R_below (Kd.R_elderB (rdl HO_3) gb227 (Nat.le_of_eq hg.symm)) hb); replace HB := Aside0.mk (below_step (belA HB) hb); have BK227 := Aside0.mk (hbox); have GW227 := gsk hg (kee HK); have GE227 := gswk HW0 hg (kee HK); replace HK := Aside0.mk (KeepBut.trans (kee HK) (KeepBut.of_below hb g none) (.inl rfl)); have NB0_227 := nll hg (IsS47.lt (IsS47.to HI0)); have NB227_0 := nlr hg (IsS47.lt (IsS47.to HI0)); replace HI0 := Aside0.mk (IsS47.below (IsS47.to HI0) hb); clear hb hbox hg; have hnb13 := NB227_0.out; have hnc13 := NB0_227.out; have hcz14_0 := bc BK227 0; have hcz14_1 := bc BK227 1; have hcz14_2 := bc BK227 2; have hcz14_3 := bc BK227 3; have hcz14_4 := bc BK227 4; have hfz14_0 := blk_frozen BK227.out 0; have hfz14_1 := blk_frozen BK227.out 1; have hfz14_2 := blk_frozen BK227.out 2; have hfz14_3 := blk_frozen BK227.out 3; have hfz14_4 := blk_frozen BK227.out 4; obtain ⟨Ao15, co15, eo15⟩ := Kd.R_slice HO_3.out; subst eo15) | ((with_reducible refine gate_callee (f := 48) rfl ?_); refine goesL_ (some 19) rfl rfl Try.func48 (by kernel_rfl) rfl #[.slice Ao15 x3_1.length co15, .string t220] rfl gmp ?_; (with_reducible refine (spec_l2Find.calls k1 _ _ x3_1 t220 t228 _ ?side1 ?side2 A8.out).mono ?_); (case side1 => refine (Kd.R_reads' (e := 71) (base := w.heap.size) (ok := fun k_ => (True ∧ k_ ≠ gb227)) (n := x3_1.length) (c := co15) ?_).2.2; exact (by exact (Kd.R_mono (Kd.R_far (p := ⟨gb227, 4, none⟩) (Kd.R_far (p := ⟨gb227, 3, none⟩) (Kd.R_far (p := ⟨gb227, 2, none⟩) (Kd.R_far (p := ⟨gb227, 1, none⟩) (Kd.R_far (p := ⟨gb227, 0, none⟩) (Kd.R_mono HO_3.out (fun k_ hk => (⟨hk, hk.2⟩ : _ ∧ k_ ≠ gb227))) (fun _ hk => hk.2) (.string t220)) (fun _ hk => hk.2) (.int .i64 t221)) (fun _ hk => hk.2) (.int .i64 t222)) (fun _ hk => hk.2) (.int .i64 t223)) (fun _ hk => hk.2) (.int .i64 t224)) (fun _ h_ => h_.1)))); (case side2 => exact (Kd.R_reads' HO_3.out).2.1); rintro e w' ⟨rfl, ⟨nd, rfl⟩⟩; refine ⟨_, rfl, ?_⟩) | ((with_reducible refine gate_builtin (b := .append) (xs := #[.tmp 21, .tmp 23]) rfl ?_); at_builtin; refine Kd.R_append k71 w.heap.size rfl (.tmp 21) (.tmp 23) 27 71 (.agg #[(.string ⟨#[]⟩), (.int .i64 0), (.int .i64 0), (.int .i64 0), (.int .i64 0)]) 48 rfl Try.underlying27 info71 rfl (by decide) (by omega) (.slice Ao15 x3_1.length co15) x3_1 (⟨t220, t221, t222, t223, t224⟩ : S71) [.string t220, .int .i64 t221, .int .i64 t222, .int .i64 t223, .int .i64 t224] (fun k_ => k_ ≠ gb227) (fun _ => False) rfl (by (go_simp; done) ) ?aP (fun _ hk => hk.elim) ?aF ?aO (Below.refl _ _) ?aS ?aL ?_; (case aP => exact k71_mkM _ _ _ (⟨t220, t221, t222, t223, t224⟩ : S71)); (case aF => exact (fun k_ hk => Kd.freshB (g := gb227) (o := .cells #[.string t220, .int .i64 t221, .int .i64 t222, .int .i64 t223, .int .i64 t224] 71 (0, 0)) (by (with_reducible repeat (refine blk_drewN ?_ _ )); refine blk_put (cs := #[.string t220, .int .i64 t221, .int .i64 t222, .int .i64 t223, .int .i64 0]) ?_ 4 _ rfl; refine blk_put (cs := #[.string t220, .int .i64 t221, .int .i64 t222, .int .i64 0, .int .i64 0]) ?_ 3 _ rfl; refine blk_put (cs := #[.string t220, .int .i64 t221, .int .i64 0, .int .i64 0, .int .i64 0]) ?_ 2 _ rfl; refine blk_put (cs := #[.string t220, .int .i64 0, .int .i64 0, .int .i64 0, .int .i64 0]) ?_ 1 _ rfl; refine blk_put (cs := #[.string (⟨#[]⟩ : ByteArray), .int .i64 0, .int .i64 0, .int .i64 0, .int .i64 0]) ?_ 0 _ rfl; exact BK227.out) k_ hk)); (case aO => exact (by (with_reducible repeat (apply Kd.R_drewN )); exact Kd.R_mono (Kd.R_far (p := ⟨gb227, 4, none⟩) (Kd.R_far (p := ⟨gb227, 3, none⟩) (Kd.R_far (p := ⟨gb227, 2, none⟩) (Kd.R_far (p := ⟨gb227, 1, none⟩) (Kd.R_far (p := ⟨gb227, 0, none⟩) (Kd.R_mono HO_3.out (fun k_ hk => (⟨hk, hk.2⟩ : _ ∧ k_ ≠ gb227))) (fun _ hk => hk.2) (.string t220)) (fun _ hk => hk.2) (.int .i64 t221)) (fun _ hk => hk.2) (.int .i64 t222)) (fun _ hk => hk.2) (.int .i64 t223)) (fun _ hk => hk.2) (.int .i64 t224)) (fun _ hk => hk.1.2))); (case aS => exact (keep_size (w := w) (g := g) (row := none) (kee HK))); (case aL => have := LMc10.out; omega); intro v230 w16 ho hb hg hat; rw [← Ny229.out] at ho; replace HI0 := Aside0.mk (IsS47.grown (IsS47.to HI0) hg (IsS47.own_ne HI0.out HO_3.out (by decide))); replace BK227 := Aside0.mk (blk_grown (g := gb227) (o := .cells #[.string t220, .int .i64 t221, .int .i64 t222, .int .i64 t223, .int .i64 t224] 71 (0, 0)) (by (with_reducible repeat (refine blk_drewN ?_ _ )); refine blk_put (cs := #[.string t220, .int .i64 t221, .int .i64 t222, .int .i64 t223, .int .i64 0]) ?_ 4 _ rfl; refine blk_put (cs := #[.string t220, .int .i64 t221, .int .i64 t222, .int .i64 0, .int .i64 0]) ?_ 3 _ rfl; refine blk_put (cs := #[.string t220, .int .i64 t221, .int .i64 0, .int .i64 0, .int .i64 0]) ?_ 2 _ rfl; refine blk_put (cs := #[.string t220, .int .i64 0, .int .i64 0, .int .i64 0, .int .i64 0]) ?_ 1 _ rfl; refine blk_put (cs := #[.string (⟨#[]⟩ : ByteArray), .int .i64 0, .int .i64 0, .int .i64 0, .int .i64 0]) ?_ 0 _ rfl; exact BK227.out) hg (Kd.R_away HO_3.out (fun _ hk => hk.2))); replace HB := Aside0.mk (below_weaken (belA HB) HL.out hb); replace HK := Aside0.mk (KeepBut.trans (kee HK) (KeepBut.of_grown hg g) (Kd.R_base2 HO_3.out)); have HO231 := Aside0.mk (ho); clear HO_3; clear ho hb hg hat))
   go_roundg k1
   case measure => have := HK1.out; omega
   case rel => exact ⟨(y229), (wrap64 (x4_1 - 1)), (t225), (t226), (by rfl ), H', ⟨by have := HK1.out; omega⟩, ⟨by exact Kd.R_mono HO231.out (fun _ hk => trivial)⟩, ⟨IsS47.to HI0⟩, ⟨kee HK⟩, ⟨belA HB⟩⟩
  rw [if_neg c6] at H
  have c6b0 : decide (0 < x4_1) = false := decide_eq_false c6
  clear c6
  obtain ⟨⟨t232, t233, t234⟩, A22, H⟩ := bnd H
  try dsimp only at H
  by_cases c23 : t232 = 0
  ·rw [if_pos c23] at H
   have c23b0 : (t232 == 0) = true := beq_iff_eq.mpr c23
   have c23b1 : (t232 != 0) = false := bne_eq_false_iff_eq.mpr c23
   clear c23
   obtain ⟨⟨t235, t236, t237, t238, t239, t240, t241⟩, A24, H⟩ := bnd H
   try dsimp only at H
   by_cases c25 : x3_1.length < 2932031007402
   rotate_left
   ·rw [if_neg c25] at H
    exact absurd H (by simp)
   rw [if_pos c25] at H
   have LMc25 := Aside0.mk c25
   clear c25
   obtain ⟨y242, hy242⟩ : ∃ y_ : List (S71), y_ = (x3_1 ++ [(⟨t235, t236, t237, t238, t239⟩ : S71)]) := ⟨_, rfl⟩
   replace H : (some (y242, t240, t241)) = some (r1, r2, r3) := by (rw [hy242]; with_reducible exact H) 
   have Ny242 := Aside0.mk hy242
   clear hy242
   simp only [Option.some.injEq, Prod.mk.injEq] at H
   obtain ⟨rfl, rfl, rfl⟩ := H
   go_wp2_with (first | ((with_reducible refine gate_callee (f := 16) rfl ?_); refine goesL_ (some 26) rfl rfl Try.func16 (by kernel_rfl) rfl #[.pointer (some ⟨g, 0, none⟩), .int .i64 20] rfl gmp ?_; (with_reducible refine (spec_l1Cur_pick.calls g s0_0 x1001_1 x1002_1 20 t232 t233 t234 w0 _ ?side1 ?side2 A22.out).mono ?_); (case side1 => exact IsS47.to HI0); (case side2 => exact belA HB); rintro e w26 ⟨rfl, hi, hb, hk⟩; refine ⟨_, rfl, ?_⟩; replace HO_3 := Aside0.mk (Kd.R_mono (Kd.R_keep (IsS47.apart (show IsS47 w0 _ g s0_0 x1001_1 x1002_1 from IsS47.to HI0) (rdl HO_3) (by decide)) hk (fun _ h => h.2)) (fun _ h => h.1)); replace HK := Aside0.mk (KeepBut.trans (kee HK) hk (.inl rfl)); replace HB := Aside0.mk (hb); replace HI0 := Aside0.mk (hi); clear hb hk hi) | ((with_reducible refine gate_callee (f := 49) rfl ?_); refine goesL_ (some 31) rfl rfl Try.func49 (by kernel_rfl) rfl #[.pointer (some ⟨g, 0, none⟩)] rfl gmp ?_; (with_reducible refine (spec_l1Cur_anyContainer.calls k1 g s0_0 t233 t234 t235 t236 t237 t238 t239 t240 t241 w0 _ ?side1 ?side2 A24.out).mono ?_); (case side1 => exact IsS47.to HI0); (case side2 => exact belA HB); rintro e w27 ⟨rfl, hi, hb, hk⟩; refine ⟨_, rfl, ?_⟩; replace HO_3 := Aside0.mk (Kd.R_mono (Kd.R_keep (IsS47.apart (show IsS47 w0 _ g s0_0 t233 t234 from IsS47.to HI0) (rdl HO_3) (by decide)) hk (fun _ h => h.2)) (fun _ h => h.1)); replace HK := Aside0.mk (KeepBut.trans (kee HK) hk (.inl rfl)); replace HB := Aside0.mk (hb); replace HI0 := Aside0.mk (hi); clear hb hk hi) | ((with_reducible refine gate_builtin (b := .append) (xs := #[.tmp 29, .tmp 32]) rfl ?_); at_builtin; refine Kd.R_append k71 w.heap.size rfl (.tmp 29) (.tmp 32) 27 71 (.agg #[(.string ⟨#[]⟩), (.int .i64 0), (.int .i64 0), (.int .i64 0), (.int .i64 0)]) 48 rfl Try.underlying27 info71 rfl (by decide) (by omega) u3 x3_1 (⟨t235, t236, t237, t238, t239⟩ : S71) [.string t235, .int .i64 t236, .int .i64 t237, .int .i64 t238, .int .i64 t239] (fun _ => True) (fun _ => False) rfl rfl ?aP (fun _ hk => hk.elim) ?aF ?aO (Below.refl _ _) ?aS ?aL ?_; (case aP => exact k71_mkM _ _ _ (⟨t235, t236, t237, t238, t239⟩ : S71)); (case aF => exact (fun _ _ => trivial)); (case aO => exact (rdl HO_3)); (case aS => exact (keep_size (w := w) (g := g) (row := none) (kee HK))); (case aL => have := LMc25.out; omega); intro v243 w28 ho hb hg hat; rw [← Ny242.out] at ho; replace HI0 := Aside0.mk (IsS47.grown (IsS47.to HI0) hg (IsS47.own_ne HI0.out HO_3.out (by decide))); replace HB := Aside0.mk (below_weaken (belA HB) HL.out hb); replace HK := Aside0.mk (KeepBut.trans (kee HK) (KeepBut.of_grown hg g) (Kd.R_base2 HO_3.out)); have HO244 := Aside0.mk (ho); clear HO_3; clear ho hb hg hat))
   go_ret
   exact ⟨_, by rfl , rdl HO244, IsS47.to HI0, belA HB, kee HK⟩
  rw [if_neg c23] at H
  have c23b0 : (t232 == 0) = false := beq_eq_false_iff_ne.mpr c23
  have c23b1 : (t232 != 0) = true := bne_iff_ne.mpr c23
  by_cases c29 : t232 = 1
  ·rw [if_pos c29] at H
   have c29b0 : (t232 == 1) = true := beq_iff_eq.mpr c29
   have c29b1 : (t232 != 1) = false := bne_eq_false_iff_eq.mpr c29
   clear c29
   by_cases c30 : (x3_1.length : Int) > 0
   rotate_left
   ·rw [if_neg c30] at H
    have c30b0 : decide (0 < (x3_1.length : Int)) = false := decide_eq_false c30
    have c30b1 : decide (0 < x3_1.length) = false := decide_eq_false (by omega)
    clear c30
    simp only [Option.some.injEq, Prod.mk.injEq] at H
    obtain ⟨rfl, rfl, rfl⟩ := H
    go_wp2_with (first | ((with_reducible refine gate_callee (f := 16) rfl ?_); refine goesL_ (some 26) rfl rfl Try.func16 (by kernel_rfl) rfl #[.pointer (some ⟨g, 0, none⟩), .int .i64 20] rfl gmp ?_; (with_reducible refine (spec_l1Cur_pick.calls g s0_0 x1001_1 x1002_1 20 t232 t233 t234 w0 _ ?side1 ?side2 A22.out).mono ?_); (case side1 => exact IsS47.to HI0); (case side2 => exact belA HB); rintro e w39 ⟨rfl, hi, hb, hk⟩; refine ⟨_, rfl, ?_⟩; replace HO_3 := Aside0.mk (Kd.R_mono (Kd.R_keep (IsS47.apart (show IsS47 w0 _ g s0_0 x1001_1 x1002_1 from IsS47.to HI0) (rdl HO_3) (by decide)) hk (fun _ h => h.2)) (fun _ h => h.1)); replace HK := Aside0.mk (KeepBut.trans (kee HK) hk (.inl rfl)); replace HB := Aside0.mk (hb); replace HI0 := Aside0.mk (hi); clear hb hk hi; obtain ⟨Ao40, co40, eo40⟩ := Kd.R_slice HO_3.out; subst eo40))
    go_ret
    exact ⟨_, by rfl , rdl HO_3, IsS47.to HI0, belA HB, kee HK⟩
   rw [if_pos c30] at H
   have c30b0 : decide (0 < (x3_1.length : Int)) = true := decide_eq_true c30
   have c30b1 : decide (0 < x3_1.length) = true := decide_eq_true (by omega)
   clear c30
   obtain ⟨⟨t245, t246, t247⟩, A31, H⟩ := bnd H
   try dsimp only at H
   by_cases c32 : 0 ≤ t245
   rotate_left
   ·rw [if_neg c32] at H
    exact absurd H (by simp)
   rw [if_pos c32] at H
   have c32b0 : decide (0 ≤ t245) = true := decide_eq_true c32
   clear c32
   by_cases c33 : t245 < (x3_1.length : Int)
   rotate_left
   ·rw [if_neg c33] at H
    exact absurd H (by simp)
   rw [if_pos c33] at H
   have c33b0 : decide (t245 < (x3_1.length : Int)) = true := decide_eq_true c33
   clear c33
   by_cases c34 : x3_1.length < 2932031007402
   rotate_left
   ·rw [if_neg c34] at H
    exact absurd H (by simp)
   rw [if_pos c34] at H
   have LMc34 := Aside0.mk c34
   clear c34
   obtain ⟨y249, hy249⟩ : ∃ y_ : List (S71), y_ = (x3_1 ++ [(⟨(rd_T71 x3_1 t245).f0, (rd_T71 x3_1 t245).f1, (rd_T71 x3_1 t245).f2, (rd_T71 x3_1 t245).f3, (rd_T71 x3_1 t245).f4⟩ : S71)]) := ⟨_, rfl⟩
   replace H : (some (y249, t246, t247)) = some (r1, r2, r3) := by (rw [hy249]; with_reducible exact H) 
   have Ny249 := Aside0.mk hy249
   clear hy249
   simp only [Option.some.injEq, Prod.mk.injEq] at H
   obtain ⟨rfl, rfl, rfl⟩ := H
   go_wp2_with (first | ((with_reducible refine gate_callee (f := 16) rfl ?_); refine goesL_ (some 26) rfl rfl Try.func16 (by kernel_rfl) rfl #[.pointer (some ⟨g, 0, none⟩), .int .i64 20] rfl gmp ?_; (with_reducible refine (spec_l1Cur_pick.calls g s0_0 x1001_1 x1002_1 20 t232 t233 t234 w0 _ ?side1 ?side2 A22.out).mono ?_); (case side1 => exact IsS47.to HI0); (case side2 => exact belA HB); rintro e w35 ⟨rfl, hi, hb, hk⟩; refine ⟨_, rfl, ?_⟩; replace HO_3 := Aside0.mk (Kd.R_mono (Kd.R_keep (IsS47.apart (show IsS47 w0 _ g s0_0 x1001_1 x1002_1 from IsS47.to HI0) (rdl HO_3) (by decide)) hk (fun _ h => h.2)) (fun _ h => h.1)); replace HK := Aside0.mk (KeepBut.trans (kee HK) hk (.inl rfl)); replace HB := Aside0.mk (hb); replace HI0 := Aside0.mk (hi); clear hb hk hi; obtain ⟨Ao36, co36, eo36⟩ := Kd.R_slice HO_3.out; subst eo36) | ((with_reducible refine gate_callee (f := 16) rfl ?_); refine goesL_ (some 44) rfl rfl Try.func16 (by kernel_rfl) rfl #[.pointer (some ⟨g, 0, none⟩), .int .i64 (x3_1.length : Int)] rfl gmp ?_; (with_reducible refine (spec_l1Cur_pick.calls g s0_0 t233 t234 (x3_1.length : Int) t245 t246 t247 w0 _ ?side1 ?side2 A31.out).mono ?_); (case side1 => exact IsS47.to HI0); (case side2 => exact belA HB); rintro e w37 ⟨rfl, hi, hb, hk⟩; refine ⟨_, rfl, ?_⟩; replace HO_3 := Aside0.mk (Kd.R_mono (Kd.R_keep (IsS47.apart (show IsS47 w0 _ g s0_0 t233 t234 from IsS47.to HI0) (rdl HO_3) (by decide)) hk (fun _ h => h.2)) (fun _ h => h.1)); replace HK := Aside0.mk (KeepBut.trans (kee HK) hk (.inl rfl)); replace HB := Aside0.mk (hb); replace HI0 := Aside0.mk (hi); clear hb hk hi; have p248 : 0 ≤ (t245 : Int) := oda; have q248 : t245 < (x3_1.length : Int) := oda; obtain ⟨ad248, e248, hx248_0, hx248_1, hx248_2, hx248_3, hx248_4⟩ := at_T71 (Kd.R_reads' HO_3.out).2.2 t245 p248 q248; cases e248; replace p248 := eq_true p248; replace q248 := eq_true q248) | ((with_reducible refine gate_builtin (b := .append) (xs := #[.tmp 39, .tmp 47]) rfl ?_); at_builtin; refine Kd.R_append k71 w.heap.size rfl (.tmp 39) (.tmp 47) 27 71 (.agg #[(.string ⟨#[]⟩), (.int .i64 0), (.int .i64 0), (.int .i64 0), (.int .i64 0)]) 48 rfl Try.underlying27 info71 rfl (by decide) (by omega) (.slice (some ad248) x3_1.length co36) x3_1 (⟨(rd_T71 x3_1 t245).f0, (rd_T71 x3_1 t245).f1, (rd_T71 x3_1 t245).f2, (rd_T71 x3_1 t245).f3, (rd_T71 x3_1 t245).f4⟩ : S71) [.string ((rd_T71 x3_1 t245).f0), .int .i64 ((rd_T71 x3_1 t245).f1), .int .i64 ((rd_T71 x3_1 t245).f2), .int .i64 ((rd_T71 x3_1 t245).f3), .int .i64 ((rd_T71 x3_1 t245).f4)] (fun _ => True) (fun _ => False) rfl rfl ?aP (fun _ hk => hk.elim) ?aF ?aO (Below.refl _ _) ?aS ?aL ?_; (case aP => exact k71_mkM _ _ _ (⟨(rd_T71 x3_1 t245).f0, (rd_T71 x3_1 t245).f1, (rd_T71 x3_1 t245).f2, (rd_T71 x3_1 t245).f3, (rd_T71 x3_1 t245).f4⟩ : S71)); (case aF => exact (fun _ _ => trivial)); (case aO => exact (rdl HO_3)); (case aS => exact (keep_size (w := w) (g := g) (row := none) (kee HK))); (case aL => have := LMc34.out; omega); intro v250 w38 ho hb hg hat; rw [← Ny249.out] at ho; replace HI0 := Aside0.mk (IsS47.grown (IsS47.to HI0) hg (IsS47.own_ne HI0.out HO_3.out (by decide))); replace HB := Aside0.mk (below_weaken (belA HB) HL.out hb); replace HK := Aside0.mk (KeepBut.trans (kee HK) (KeepBut.of_grown hg g) (Kd.R_base2 HO_3.out)); have HO251 := Aside0.mk (ho); clear HO_3; clear ho hb hg hat))
   go_ret
   exact ⟨_, by rfl , rdl HO251, IsS47.to HI0, belA HB, kee HK⟩
  rw [if_neg c29] at H
  have c29b0 : (t232 == 1) = false := beq_eq_false_iff_ne.mpr c29
  have c29b1 : (t232 != 1) = true := bne_iff_ne.mpr c29
  by_cases c41 : t232 = 2
  rotate_left
  ·rw [if_neg c41] at H
   have c41b0 : (t232 == 2) = false := beq_eq_false_iff_ne.mpr c41
   have c41b1 : (t232 != 2) = true := bne_iff_ne.mpr c41
   simp only [Option.some.injEq, Prod.mk.injEq] at H
   obtain ⟨rfl, rfl, rfl⟩ := H
   go_wp2_with (first | ((with_reducible refine gate_callee (f := 16) rfl ?_); refine goesL_ (some 26) rfl rfl Try.func16 (by kernel_rfl) rfl #[.pointer (some ⟨g, 0, none⟩), .int .i64 20] rfl gmp ?_; (with_reducible refine (spec_l1Cur_pick.calls g s0_0 x1001_1 x1002_1 20 t232 t233 t234 w0 _ ?side1 ?side2 A22.out).mono ?_); (case side1 => exact IsS47.to HI0); (case side2 => exact belA HB); rintro e w56 ⟨rfl, hi, hb, hk⟩; refine ⟨_, rfl, ?_⟩; replace HO_3 := Aside0.mk (Kd.R_mono (Kd.R_keep (IsS47.apart (show IsS47 w0 _ g s0_0 x1001_1 x1002_1 from IsS47.to HI0) (rdl HO_3) (by decide)) hk (fun _ h => h.2)) (fun _ h => h.1)); replace HK := Aside0.mk (KeepBut.trans (kee HK) hk (.inl rfl)); replace HB := Aside0.mk (hb); replace HI0 := Aside0.mk (hi); clear hb hk hi))
   go_ret
   exact ⟨_, by rfl , rdl HO_3, IsS47.to HI0, belA HB, kee HK⟩
  rw [if_pos c41] at H
  have c41b0 : (t232 == 2) = true := beq_iff_eq.mpr c41
  have c41b1 : (t232 != 2) = false := bne_eq_false_iff_eq.mpr c41
  clear c41
  have H' := Aside0.mk H
  clear H
  go_wp2_with (first | ((with_reducible refine gate_callee (f := 16) rfl ?_); refine goesL_ (some 26) rfl rfl Try.func16 (by kernel_rfl) rfl #[.pointer (some ⟨g, 0, none⟩), .int .i64 20] rfl gmp ?_; (with_reducible refine (spec_l1Cur_pick.calls g s0_0 x1001_1 x1002_1 20 t232 t233 t234 w0 _ ?side1 ?side2 A22.out).mono ?_); (case side1 => exact IsS47.to HI0); (case side2 => exact belA HB); rintro e w42 ⟨rfl, hi, hb, hk⟩; refine ⟨_, rfl, ?_⟩; replace HO_3 := Aside0.mk (Kd.R_mono (Kd.R_keep (IsS47.apart (show IsS47 w0 _ g s0_0 x1001_1 x1002_1 from IsS47.to HI0) (rdl HO_3) (by decide)) hk (fun _ h => h.2)) (fun _ h => h.1)); replace HK := Aside0.mk (KeepBut.trans (kee HK) hk (.inl rfl)); replace HB := Aside0.mk (hb); replace HI0 := Aside0.mk (hi); clear hb hk hi))
  go_loopg [3, 6] k1 (fun kq v3 v6 w' => ∃ (x3_2 : List (S71)) (x6_2 : Int) (x1001_2 : Int) (x1002_2 : Int), v6 = .int .i64 x6_2 ∧ Aside0 (spec_l1Cur_containers.l1 kq x3_2 x6_2 s0_0 x1001_2 x1002_2 = some (r1, r2, r3)) ∧ Aside0 (kq ≤ k1) ∧ Aside0 (Kd.R k71 71 w' w.heap.size (fun _ => True) v3 x3_2) ∧ Aside0 (IsS47 w0 w' g s0_0 x1001_2 x1002_2) ∧ Aside0 (KeepBut w w' g none) ∧ Aside0 (Below w0.heap.size w0 w'))
  case atStart => exact ⟨(x3_1), (0), (t233), (t234), (by rfl ), H', ⟨Nat.le_refl _⟩, ⟨rdl HO_3⟩, ⟨IsS47.to HI0⟩, ⟨kee HK⟩, ⟨belA HB⟩⟩
  clear H'
  try clear c6b0
  try clear c23
  try clear c23b0
  try clear c23b1
  try clear c29
  try clear c29b0
  try clear c29b1
  try clear c41b0
  try clear c41b1
  obtain ⟨x3_2, x6_2, x1001_2, x1002_2, rfl, HA, HK2, HO_3, HI0, HK, HB⟩ := hrel
  cases gk with
  | zero => exact absurd HA.out (by simp [spec_l1Cur_containers.l1])
  | succ k2 =>
   have H := HA.out
   clear HA
   simp only [spec_l1Cur_containers.l1] at H
   obtain ⟨⟨t252, t253, t254⟩, A43, H⟩ := bnd H
   try dsimp only at H
   by_cases c44 : (x3_2.length : Int) < (wrap64 (12 + t252))
   rotate_left
   ·rw [if_neg c44] at H
    have c44b0 : decide ((x3_2.length : Int) < (wrap64 (12 + t252))) = false := decide_eq_false c44
    clear c44
    simp only [Option.some.injEq, Prod.mk.injEq] at H
    obtain ⟨rfl, rfl, rfl⟩ := H
    obtain ⟨Ao54, co54, eo54⟩ := Kd.R_slice HO_3.out
    subst eo54
    go_wp2_with (first | ((with_reducible refine gate_callee (f := 16) rfl ?_); refine goesL_ (some 54) rfl rfl Try.func16 (by kernel_rfl) rfl #[.pointer (some ⟨g, 0, none⟩), .int .i64 2] rfl gmp ?_; (with_reducible refine (spec_l1Cur_pick.calls g s0_0 x1001_2 x1002_2 2 t252 t253 t254 w0 _ ?side1 ?side2 A43.out).mono ?_); (case side1 => exact IsS47.to HI0); (case side2 => exact belA HB); rintro e w55 ⟨rfl, hi, hb, hk⟩; refine ⟨_, rfl, ?_⟩; replace HO_3 := Aside0.mk (Kd.R_mono (Kd.R_keep (IsS47.apart (show IsS47 w0 _ g s0_0 x1001_2 x1002_2 from IsS47.to HI0) (rdl HO_3) (by decide)) hk (fun _ h => h.2)) (fun _ h => h.1)); replace HK := Aside0.mk (KeepBut.trans (kee HK) hk (.inl rfl)); replace HB := Aside0.mk (hb); replace HI0 := Aside0.mk (hi); clear hb hk hi))
    go_ret
    exact ⟨_, by rfl , rdl HO_3, IsS47.to HI0, belA HB, kee HK⟩
   rw [if_pos c44] at H
   have c44b0 : decide ((x3_2.length : Int) < (wrap64 (12 + t252))) = true := decide_eq_true c44
   clear c44
   by_cases c45 : x6_2 < 14
   rotate_left
   ·rw [if_neg c45] at H
    have c45b0 : decide (x6_2 < 14) = false := decide_eq_false c45
    clear c45
    simp only [Option.some.injEq, Prod.mk.injEq] at H
    obtain ⟨rfl, rfl, rfl⟩ := H
    obtain ⟨Ao52, co52, eo52⟩ := Kd.R_slice HO_3.out
    subst eo52
    go_wp2_with (first | ((with_reducible refine gate_callee (f := 16) rfl ?_); refine goesL_ (some 54) rfl rfl Try.func16 (by kernel_rfl) rfl #[.pointer (some ⟨g, 0, none⟩), .int .i64 2] rfl gmp ?_; (with_reducible refine (spec_l1Cur_pick.calls g s0_0 x1001_2 x1002_2 2 t252 t253 t254 w0 _ ?side1 ?side2 A43.out).mono ?_); (case side1 => exact IsS47.to HI0); (case side2 => exact belA HB); rintro e w53 ⟨rfl, hi, hb, hk⟩; refine ⟨_, rfl, ?_⟩; replace HO_3 := Aside0.mk (Kd.R_mono (Kd.R_keep (IsS47.apart (show IsS47 w0 _ g s0_0 x1001_2 x1002_2 from IsS47.to HI0) (rdl HO_3) (by decide)) hk (fun _ h => h.2)) (fun _ h => h.1)); replace HK := Aside0.mk (KeepBut.trans (kee HK) hk (.inl rfl)); replace HB := Aside0.mk (hb); replace HI0 := Aside0.mk (hi); clear hb hk hi))
    go_ret
    exact ⟨_, by rfl , rdl HO_3, IsS47.to HI0, belA HB, kee HK⟩
   rw [if_pos c45] at H
   have c45b0 : decide (x6_2 < 14) = true := decide_eq_true c45
   clear c45
   obtain ⟨t255, A46, H⟩ := bnd H
   try dsimp only at H
   by_cases c47 : x3_2.length < 2932031007402
   rotate_left
   ·rw [if_neg c47] at H
    exact absurd H (by simp)
   rw [if_pos c47] at H
   have LMc47 := Aside0.mk c47
   clear c47
   obtain ⟨y256, hy256⟩ : ∃ y_ : List (S71), y_ = (x3_2 ++ [(⟨t255, 1, wrap64 (100 + x6_2), 1, wrap64 (1 + (Int.tmod x6_2 9))⟩ : S71)]) := ⟨_, rfl⟩
   replace H : (spec_l1Cur_containers.l1 k2 y256 (wrap64 (x6_2 + 1)) s0_0 t253 t254) = some (r1, r2, r3) := by (rw [hy256]; with_reducible exact H) 
   have Ny256 := Aside0.mk hy256
   clear hy256
   have H' := Aside0.mk H
   clear H
   obtain ⟨Ao48, co48, eo48⟩ := Kd.R_slice HO_3.out
   subst eo48
   go_wp2_with (first | ((with_reducible refine gate_callee (f := 16) rfl ?_); refine goesL_ (some 54) rfl rfl Try.func16 (by kernel_rfl) rfl #[.pointer (some ⟨g, 0, none⟩), .int .i64 2] rfl gmp ?_; (with_reducible refine (spec_l1Cur_pick.calls g s0_0 x1001_2 x1002_2 2 t252 t253 t254 w0 _ ?side1 ?side2 A43.out).mono ?_); (case side1 => exact IsS47.to HI0); (case side2 => exact belA HB); rintro e w49 ⟨rfl, hi, hb, hk⟩; refine ⟨_, rfl, ?_⟩; replace HO_3 := Aside0.mk (Kd.R_mono (Kd.R_keep (IsS47.apart (show IsS47 w0 _ g s0_0 x1001_2 x1002_2 from IsS47.to HI0) (rdl HO_3) (by decide)) hk (fun _ h => h.2)) (fun _ h => h.1)); replace HK := Aside0.mk (KeepBut.trans (kee HK) hk (.inl rfl)); replace HB := Aside0.mk (hb); replace HI0 := Aside0.mk (hi); clear hb hk hi) | ((with_reducible refine gate_callee (f := 50) rfl ?_); refine goesL_ (some 65) rfl rfl Try.func50 (by kernel_rfl) rfl #[.string (⟨#[77, 65, 88]⟩ : ByteArray), .int .i64 x6_2] rfl gmp ?_; (with_reducible refine (spec_l2Number.calls k2 (⟨#[77, 65, 88]⟩ : ByteArray) x6_2 t255 _ A46.out).mono ?_); rintro e w50 ⟨rfl, hb⟩; refine ⟨_, rfl, ?_⟩; replace HO_3 := Aside0.mk (Kd.R_below (rdl HO_3) hb); replace HI0 := Aside0.mk (IsS47.below (IsS47.to HI0) hb); replace HK := Aside0.mk (KeepBut.trans (kee HK) (KeepBut.of_below hb g none) (.inl rfl)); replace HB := Aside0.mk (below_step (belA HB) hb); (try clear hb)) | ((with_reducible refine gate_builtin (b := .append) (xs := #[.tmp 63, .tmp 72]) rfl ?_); at_builtin; refine Kd.R_append k71 w.heap.size rfl (.tmp 63) (.tmp 72) 27 71 (.agg #[(.string ⟨#[]⟩), (.int .i64 0), (.int .i64 0), (.int .i64 0), (.int .i64 0)]) 48 rfl Try.underlying27 info71 rfl (by decide) (by omega) (.slice Ao48 x3_2.length co48) x3_2 (⟨t255, 1, wrap64 (100 + x6_2), 1, wrap64 (1 + (Int.tmod x6_2 9))⟩ : S71) [.string t255, .int .i64 1, .int .i64 (wrap64 (100 + x6_2)), .int .i64 1, .int .i64 (wrap64 (1 + (Int.tmod x6_2 9)))] (fun _ => True) (fun _ => False) rfl rfl ?aP (fun _ hk => hk.elim) ?aF ?aO (Below.refl _ _) ?aS ?aL ?_; (case aP => exact k71_mkM _ _ _ (⟨t255, 1, wrap64 (100 + x6_2), 1, wrap64 (1 + (Int.tmod x6_2 9))⟩ : S71)); (case aF => exact (fun _ _ => trivial)); (case aO => exact (rdl HO_3)); (case aS => exact (keep_size (w := w) (g := g) (row := none) (kee HK))); (case aL => have := LMc47.out; omega); intro v257 w51 ho hb hg hat; rw [← Ny256.out] at ho; replace HI0 := Aside0.mk (IsS47.grown (IsS47.to HI0) hg (IsS47.own_ne HI0.out HO_3.out (by decide))); replace HB := Aside0.mk (below_weaken (belA HB) HL.out hb); replace HK := Aside0.mk (KeepBut.trans (kee HK) (KeepBut.of_grown hg g) (Kd.R_base2 HO_3.out)); have HO258 := Aside0.mk (ho); clear HO_3; clear ho hb hg hat))
   go_roundg k2
   case measure => have := HK1.out; have := HK2.out; omega
   case rel => exact ⟨(y256), (wrap64 (x6_2 + 1)), (t253), (t254), (by rfl ), H', ⟨by have := HK1.out; have := HK2.out; omega⟩, ⟨rdl HO258⟩, ⟨IsS47.to HI0⟩, ⟨kee HK⟩, ⟨belA HB⟩⟩
/-! ### spec_l1Own: function 46 -/
def spec_l1Own.f (l0 : List Int) : Option (List Int) := (some (([] : List Int) : List Int)).bind fun y259 => (if y259.length + l0.length < 17592186044416 then (some (y259 ++ l0)) else (none))
set_option maxHeartbeats 8000000 in
set_option maxRecDepth 100000 in
theorem spec_l1Own.calls (A0 : Option Addr) (c0 : Nat) (l0 : List Int) (r : List Int) (w : World) (hr0 : Kd.C (Kd.int .i64) w A0 l0.length l0) (hc0 : l0.length ≤ c0) (h : spec_l1Own.f l0 = some r) :
  Calls Try.prog 46 #[.slice A0 l0.length c0] w fun e w' => ∃ v0_ : Value, e = .returned (v0_) ∧ Kd.R (Kd.int .i64) 3 w' w.heap.size (fun _ => True) v0_ r ∧ Below w.heap.size w w' := by
 have HR0 := Aside0.mk hr0
 have HC0 := Aside0.mk hc0
 clear hr0 hc0
 have HB := Aside0.mk (Below.refl w.heap.size w)
 have H : ((some (([] : List Int) : List Int)).bind fun y259 => (if y259.length + l0.length < 17592186044416 then (some (y259 ++ l0)) else (none))) = some r := h
 clear h
 obtain ⟨y259, hy259⟩ : ∃ y_ : List Int, y_ = (([] : List Int)) := ⟨_, rfl⟩
 replace H : (if y259.length + l0.length < 17592186044416 then (some (y259 ++ l0)) else (none)) = some r := by (have H2_ := (Option.bind_some _ _).symm.trans H; rw [hy259]; with_reducible exact H2_) 
 have Ny259 := Aside0.mk hy259
 clear hy259
 by_cases c2 : y259.length + l0.length < 17592186044416
 rotate_left
 ·rw [if_neg c2] at H
  exact absurd H (by simp)
 rw [if_pos c2] at H
 have LMc2 := Aside0.mk c2
 clear c2
 obtain ⟨y262, hy262⟩ : ∃ y_ : List Int, y_ = (y259 ++ l0) := ⟨_, rfl⟩
 replace H : (some y262) = some r := by (rw [hy262]; with_reducible exact H) 
 have Ny262 := Aside0.mk hy262
 clear hy262
 obtain rfl := Option.some.inj H
 go_enter Try.func46, Try.ntmps46
 go_wp2_with (first | ((with_reducible refine gate_dst (N := 3) rfl ?_); refine Kd.R_lit (Kd.int .i64) _ 3 ?hg (N := 3) ?hd (xs := ([] : List Int)) (inner := []) (ok := fun _ => True) (okp := fun _ => True) ?hr ?hp (fun _ hk => hk) trivial (Below.refl _ _) (Nat.le_refl _) (by simp) ?_; (case hd | hg => rfl); (case hr => go_simp); (case hp => exact (Reps.none _ _)); intro v260 w3 ho4 hb hg_ hnew_; clear hg_ hnew_; (rw [← Ny259.out] at ho4 ); have HO261 := Aside0.mk (Kd.R_lower ho4 (below_size (bel HB))); replace HB := Aside0.mk (below_step (bel HB) hb); clear hb ho4) | ((with_reducible refine gate_builtin (b := .append) (xs := #[.tmp 3, .tmp 4]) rfl ?_); at_builtin; refine Kd.R_append_rows (Kd.int .i64) (w0 := w) w.heap.size rfl (.tmp 3) (.tmp 4) 30 3 (.int .i64 0) 8 rfl Try.underlying30 info3 rfl (by decide) (by omega) v260 y259 l0 _ _ _ (fun _ => True) (fun _ => False) rfl rfl ?aO ?aR (fun _ _ h => h) (fun _ h => h.elim) ?aF ?aB ?aS ?aL ?_; (case aR => exact cdl (Kd.C_below HR0.out HB.out)); (case aB => exact (bel HB)); (case aF => exact (fun _ _ => trivial)); (case aO => exact (rdl HO261)); (case aS => exact (below_size (bel HB))); (case aL => have := LMc2.out; omega); intro v263 w5 ho hb hg hat; rw [← Ny262.out] at ho; replace HB := Aside0.mk (hb); have HO264 := Aside0.mk (ho); clear HO261; clear ho hb hg hat))
 go_ret
 exact ⟨_, by rfl , rdl HO264, bel HB⟩
/-! ### spec_l5Own: function 43 -/
def spec_l5Own.l0 : Nat → Int → List (List Int) → List (List Int) → Option ((List (List Int)))
 | 0, _, _, _ => none
 | k + 1, x4, x266000, x268000 => if x4 < (x266000.length : Int) then (if 0 ≤ x4 then ((spec_l1Own.f (rd_L4 x266000 x4)).bind fun t269 => (if x268000.length < 5864062014805 then (spec_l5Own.l0 k (wrap64 (x4 + 1)) x266000 (x268000 ++ [t269])) else (none))) else (none)) else (some x268000)
def spec_l5Own.f (k : Nat) (l0_0 : List (List Int)) : Option ((List (List Int))) := spec_l5Own.l0 k 0 l0_0 ([] : List (List Int))
def spec_l5Own.T5 : Bool × List (List Nat × List Nat) := (true, [([], []), ([0], [0]), ([], []), ([2], [2]), ([], []), ([3, 4], [3, 4]), ([5], [5]), ([6], [6]), ([7], [7]), ([1, 8, 7], [1, 8]), ([0, 1, 2, 3, 4, 5, 6, 7, 8, 9], []), ([10, 9, 9, 0, 1, 2, 3, 4, 5, 6, 7, 8, 9], [9, 10])])
def spec_l5Own.B5 : List Nat := [0, 1, 0, 4, 0, 28, 60, 124, 252, 511, 1023, 2047]
theorem spec_l5Own.tab5 : rtab .any (opsOf Try.f43 5) = spec_l5Own.T5 := by kernel_rfl
theorem spec_l5Own.bits5 : waitsOk spec_l5Own.T5.2 spec_l5Own.B5 = true := by kernel_rfl
set_option maxHeartbeats 8000000 in
set_option maxRecDepth 100000 in
theorem spec_l5Own.calls (k : Nat) (A0_0 : Option Addr) (c0_0 : Nat) (l0_0 : List (List Int)) (r : List (List Int)) (w : World) (hr0_0 : Kd.C (Kd.slice 3 (Kd.int .i64)) w A0_0 l0_0.length l0_0) (hc0_0 : l0_0.length ≤ c0_0) (h : spec_l5Own.f k l0_0 = some r) :
  Calls Try.prog 43 #[.agg #[.slice A0_0 l0_0.length c0_0]] w fun e w' => ∃ v0_ : Value, e = .returned (.agg #[v0_]) ∧ Kd.S (Kd.slice 3 (Kd.int .i64)) 30 w' w.heap.size (fun _ => True) v0_ r ∧ Below w.heap.size w w' := by
 have hu26 := Try.underlying26
 have HR0_0 := Aside0.mk hr0_0
 have HC0_0 := Aside0.mk hc0_0
 clear hr0_0 hc0_0
 have HB := Aside0.mk (Below.refl w.heap.size w)
 have H : (spec_l5Own.l0 k 0 l0_0 ([] : List (List Int))) = some r := h
 clear h
 have H' := Aside0.mk H
 clear H
 go_enter Try.func43, Try.ntmps43
 go_wp2_with (first | ((with_reducible refine gate_dst (N := 1) rfl ?_); refine box_event ?hg (N := 1) ?hd (cs := #[.slice A0_0 l0_0.length c0_0]) (t := 26) ?hr ?_; (case hd | hg => rfl); (case hr => go_simp); intro gb265 hg w2 hbox hb; have BK265 := Aside0.mk (hbox); have GW265 := gsb (w := w) hg (bel HB); have GE265 := gsb (w := w) hg (bel HB); replace HB := Aside0.mk (below_step (bel HB) hb); clear hb hbox hg) | ((with_reducible refine gate_dst (N := 2) rfl ?_); refine box_event ?hg (N := 2) ?hd (cs := #[.slice none 0 0]) (t := 26) ?hr ?_; (case hd | hg => rfl); (case hr => go_simp); intro gb266 hg w3 hbox hb; have BK266 := Aside0.mk (hbox); have GW266 := gsb (w := w) hg (bel1 HB GE265); have GE266 := gsb (w := w) hg (bel1 HB GE265); replace HB := Aside0.mk (below_step (bel1 HB GE265) hb); have NB265_266 := nbl hg BK265; have NB266_265 := nbr hg BK265; replace BK265 := bkb BK265 hb; clear hb hbox hg) | ((with_reducible refine gate_dst (N := 3) rfl ?_); refine box_event ?hg (N := 3) ?hd (cs := #[.slice none 0 0]) (t := 26) ?hr ?_; (case hd | hg => rfl); (case hr => go_simp); intro gb267 hg w4 hbox hb; have BK267 := Aside0.mk (hbox); have GW267 := gsb (w := w) hg (bel2 HB GE265 GE266); have GE267 := gsb (w := w) hg (bel2 HB GE265 GE266); replace HB := Aside0.mk (below_step (bel2 HB GE265 GE266) hb); have NB265_267 := nbl hg BK265; have NB267_265 := nbr hg BK265; replace BK265 := bkb BK265 hb; have NB266_267 := nbl hg BK266; have NB267_266 := nbr hg BK266; replace BK266 := bkb BK266 hb; clear hb hbox hg; have hnb5 := NB267_265.out; have hnc5 := NB265_267.out; have hnb6 := NB267_266.out; have hnc6 := NB266_267.out; have hcz7_0 := bc BK267 0; have hfz7_0 := blk_frozen BK267.out 0))
 go_loopg [4] k (fun kq v4 w' => ∃ (x4_1 : Int) (x268000_1 : List (List Int)) (u268000 : Value), v4 = .int .i64 x4_1 ∧ Aside0 (spec_l5Own.l0 kq x4_1 l0_0 x268000_1 = some r) ∧ Aside0 (kq ≤ k) ∧ Aside0 (Kd.S (Kd.slice 3 (Kd.int .i64)) 30 w' w.heap.size (fun _ => True) u268000 x268000_1) ∧ Aside0 (w'.heap[gb265]? = some (.cells #[(.slice A0_0 l0_0.length c0_0)] 26 (0, 0))) ∧ Aside0 (w'.heap[gb266]? = some (.cells #[(.slice none 0 0)] 26 (0, 0))) ∧ Aside0 (w'.heap[gb267]? = some (.cells #[u268000] 26 (0, 0))) ∧ Aside0 (Below w.heap.size w w'))
 case atStart => exact ⟨(0), (([] : List (List Int))), (.slice none 0 0), (by rfl ), H', ⟨Nat.le_refl _⟩, ⟨by exact Kd.S_nil _ _ _ _ _ ⟩, ⟨by refine blk_far ?_ NB265_267.out _; exact BK265.out⟩, ⟨by refine blk_far ?_ NB266_267.out _; exact BK266.out⟩, ⟨by refine blk_put (cs := #[.slice none 0 0]) ?_ 0 _ rfl; exact BK267.out⟩, ⟨bel3 HB GE265 GE266 GE267⟩⟩
 clear H'
 try clear hcz7_0
 try clear hfz7_0
 obtain ⟨x4_1, x268000_1, u268000, rfl, HA, HK1, HO_268000, BK265, BK266, BK267, HB⟩ := hrel
 cases gk with
 | zero => exact absurd HA.out (by simp [spec_l5Own.l0])
 | succ k1 =>
  have H := HA.out
  clear HA
  simp only [spec_l5Own.l0] at H
  by_cases c8 : x4_1 < (l0_0.length : Int)
  rotate_left
  ·rw [if_neg c8] at H
   have c8b0 : decide (x4_1 < (l0_0.length : Int)) = false := decide_eq_false c8
   clear c8
   obtain rfl := Option.some.inj H
   have hnb21 := NB265_266.out
   have hnc21 := NB266_265.out
   have hnb22 := NB265_267.out
   have hnc22 := NB267_265.out
   have hcz23_0 := bc BK265 0
   have hfz23_0 := blk_frozen BK265.out 0
   have hnb24 := NB267_266.out
   have hnc24 := NB266_267.out
   have hcz25_0 := bc BK267 0
   have hfz25_0 := blk_frozen BK267.out 0
   obtain ⟨Ao26, co26, eo26⟩ := Kd.S_slice HO_268000.out
   subst eo26
   have hcz27_0 := bc BK266 0
   have hfz27_0 := blk_frozen BK266.out 0
   go_wp2
   refine bodyPost_ret (results_cell_row rfl _ _ gb266 26 #[.slice Ao26 x268000_1.length co26] (0, 0) _ rfl (blk_put BK266.out 0 _ rfl) Try.underlying26 rfl (by kernel_rfl)) rfl ?_
   exact ⟨_, by rfl , by exact Kd.S_mono (Kd.S_far (p := ⟨gb266, 0, none⟩) (Kd.S_types HO_268000.out BK266.out (by decide)) (fun _ hk => hk.2) (.slice Ao26 x268000_1.length co26)) (fun _ hk => trivial), bel3 HB GE265 GE266 GE267⟩
  rw [if_pos c8] at H
  have c8b0 : decide (x4_1 < (l0_0.length : Int)) = true := decide_eq_true c8
  clear c8
  by_cases c9 : 0 ≤ x4_1
  rotate_left
  ·rw [if_neg c9] at H
   exact absurd H (by simp)
  rw [if_pos c9] at H
  have c9b0 : decide (0 ≤ x4_1) = true := decide_eq_true c9
  clear c9
  obtain ⟨t269, A10, H⟩ := bnd H
  try dsimp only at H
  by_cases c11 : x268000_1.length < 5864062014805
  rotate_left
  ·rw [if_neg c11] at H
   exact absurd H (by simp)
  rw [if_pos c11] at H
  have LMc11 := Aside0.mk c11
  clear c11
  obtain ⟨y272, hy272⟩ : ∃ y_ : List (List Int), y_ = (x268000_1 ++ [t269]) := ⟨_, rfl⟩
  replace H : (spec_l5Own.l0 k1 (wrap64 (x4_1 + 1)) l0_0 y272) = some r := by (rw [hy272]; with_reducible exact H) 
  have Ny272 := Aside0.mk hy272
  clear hy272
  have H' := Aside0.mk H
  clear H
  have hnb12 := NB265_266.out
  have hnc12 := NB266_265.out
  have hnb13 := NB265_267.out
  have hnc13 := NB267_265.out
  have hcz14_0 := bc BK265 0
  have hfz14_0 := blk_frozen BK265.out 0
  try go_wp2
  have n0_ := Aside0.mk (Kd.S_drew HO_268000.out)
  have n1_ := Aside0.mk (blk_drew BK265.out)
  have n2_ := Aside0.mk (blk_drew BK266.out)
  have n3_ := Aside0.mk (blk_drew BK267.out)
  have n4_ := Aside0.mk (below_drew1 HB.out)
  clear HO_268000 BK265 BK266 BK267 HB
  have HO_268000 := n0_
  have BK265 := n1_
  have BK266 := n2_
  have BK267 := n3_
  have HB := n4_
  clear n0_ n1_ n2_ n3_ n4_
  have p268 : 0 ≤ (x4_1 : Int) := oda
  have q268 : x4_1 < (l0_0.length : Int) := oda
  obtain ⟨ad268, A268_0, c268_0, e268, hx268_0, hl268_0, hi268_0⟩ := at_L4 HR0_0.out x4_1 p268 q268
  have hw268_0 := hx268_0
  cases e268
  replace hx268_0 := cel HB hx268_0
  have HR268_0 := Aside0.mk hi268_0
  have HC268_0 := Aside0.mk hl268_0
  clear hi268_0 hl268_0
  replace p268 := eq_true p268
  replace q268 := eq_true q268
  refine start_ (n := 12) (S := fun w' => w'.cell? ⟨gb267, 0, none⟩ = some (u268000) ∧ w'.cell? ⟨gb265, 0, none⟩ = some (.slice (some ad268) l0_0.length c0_0) ∧ w'.cell? (ad268.add (x4_1).toNat) = some (.slice A268_0 (rd_L4 l0_0 x4_1).length c268_0)) (ds := [11]) #[false, false, false, false, false, false, false, false, false, false, false, false] (by kernel_rfl) rfl rfl ⟨(blk_cell BK267.out 0).trans rfl, (blk_cell BK265.out 0).trans rfl, (cel HB hw268_0)⟩ (fun hHeld => ?_); refine with_tabW spec_l5Own.tab5 spec_l5Own.bits5 (fun HT_ HW_ => ?_)
  generalize wr.drew = w15 at HO_268000 BK265 BK266 BK267 HB HR268_0 hx268_0 hHeld ⊢
  refine pu 0 (some 13) (bx 12 1) (h := ?_)
  refine pu 2 (some 15) (bx 12 5) (h := ?_)
  refine pu 4 (some 17) (bx 12 21) (h := ?_)
  refine tk3 1 (some 14) (bx 12 23) (h := ?_)
  refine tk3 3 (some 16) (bx 12 31) (h := ?_)
  refine pu 5 (some 18) (bx 12 63) (h := ?_)
  refine tk3 6 (some 19) (bx 12 127) (h := ?_)
  refine on 7 (some 20) (bx 12 255) (h := fun K hK => ?_)
  refine goes_ Try.func46 (by kernel_rfl) rfl #[.slice A268_0 (rd_L4 l0_0 x4_1).length c268_0] (by rfl) rfl rfl gmp ?_
  with_reducible refine (spec_l1Own.calls _ _ (rd_L4 l0_0 x4_1) t269 _ ?side1 ?side2 A10.out).mono ?_
  (case side1 => exact cdl (Kd.C_below HR268_0.out HB.out))
  (case side2 => exact HC268_0.out)
  rintro e w16 ⟨v270, rfl, ho0, hb⟩
  refine ⟨_, rfl, ?_⟩
  have n0_ := Aside0.mk (Kd.S_elder' (sdl HO_268000) (Kd.R_base ho0) hb)
  have n1_ := Aside0.mk (Kd.R_lower ho0 (below_size (bel3 HB GE265 GE266 GE267)))
  have n2_ := bkb BK265 hb
  have n3_ := bkb BK266 hb
  have n4_ := bkb BK267 hb
  have n5_ := Aside0.mk (below_step (bel3 HB GE265 GE266 GE267) hb)
  clear HO_268000 BK265 BK266 BK267 HB
  have HO_268000 := n0_
  have HO271 := n1_
  have BK265 := n2_
  have BK266 := n3_
  have BK267 := n4_
  have HB := n5_
  clear n0_ n1_ n2_ n3_ n4_ n5_
  (try clear hb)
  (try clear ho0)
  obtain ⟨Ao18, co18, eo18⟩ := Kd.R_slice HO271.out
  (subst eo18 )
  refine hK.out _ _ ⟨(blk_cell BK267.out 0).trans rfl, (blk_cell BK265.out 0).trans rfl, (cel HB hw268_0)⟩ (fun hHeld => ?_)
  clear hK K
  refine nm 20 (h := ?_)
  refine on 8 (some 21) (bx 12 511) (h := fun K hK => ?_)
  refine value_ (w1 := ?_) (v := ?_) (by rfl) rfl ?_ ?_
  rotate_left 2
  ·go_simp
   constructor
   ·rfl
   rfl
  refine hK.out _ _ ⟨(blk_cell (blk_alloc BK267.out _) 0).trans rfl, (blk_cell (blk_alloc BK265.out _) 0).trans rfl, (World.cell?_alloc_lt _ _ _ (World.block_lt_of_cell? _ _ ((cel HB hw268_0)))).trans ((cel HB hw268_0))⟩ (fun hHeld => ?_)
  clear hK K
  refine nm 21 (h := ?_)
  refine on 9 (some 22) (bx 12 1023) (h := fun K hK => ?_)
  refine Kd.S_append_step (Kd.slice 3 (Kd.int .i64)) (w0 := w) w.heap.size (by rfl) (.tmp 14) (.tmp 21) 24 30 (.slice none 0 0) 24 rfl Try.underlying24 info30 rfl (by decide) (by omega) u268000 x268000_1 t269 [.slice Ao18 t269.length co18] (fun _ => True) (fun k_ => some k_ = (.slice Ao18 t269.length co18 : Value).ownBlock) rfl rfl ?aP (fun k_ hk_ => ((Kd.R_mono (ok' := fun k_ => ((fun _ => True)) k_ ∧ some k_ ≠ (u268000 : Value).ownBlock) (Kd.R_apart' (HO271.out) (Kd.S_typed HO_268000.out) (by decide)) (fun k_ hk => ⟨trivial, hk.2⟩))).1 k_ hk_.symm) ?aF ?aO ?aB ?aS ?aL ?_
  (case aP => exact Kd.M_row (Kd.R_mono (Kd.R_tight rfl (Kd.R_mono (ok' := fun k_ => ((fun _ => True)) k_ ∧ some k_ ≠ (u268000 : Value).ownBlock) (Kd.R_apart' (HO271.out) (Kd.S_typed HO_268000.out) (by decide)) (fun k_ hk => ⟨trivial, hk.2⟩))) (fun _ h_ => h_)))
  (case aB => exact (bel3 HB GE265 GE266 GE267))
  (case aF => exact (fun _ _ => trivial))
  (case aO => exact (by exact Kd.S_mono HO_268000.out (fun k_ hk => ⟨trivial, fun e_ => hk.2 e_⟩)))
  (case aS => exact (below_size (bel3 HB GE265 GE266 GE267)))
  (case aL => have := LMc11.out; omega)
  intro v273 w17 ho hb hg hat
  rw [← Ny272.out] at ho
  have n0_ := Aside0.mk (blk_grown (g := gb265) (o := .cells #[.slice (some ad268) l0_0.length c0_0] 26 (0, 0)) (bkl BK265) hg (Kd.S_ne HO_268000.out BK265.out (by decide)))
  have n1_ := Aside0.mk (blk_grown (g := gb266) (o := .cells #[.slice none 0 0] 26 (0, 0)) (bkl BK266) hg (Kd.S_ne HO_268000.out BK266.out (by decide)))
  have n2_ := Aside0.mk (blk_grown (g := gb267) (o := .cells #[u268000] 26 (0, 0)) (bkl BK267) hg (Kd.S_ne HO_268000.out BK267.out (by decide)))
  have n3_ := Aside0.mk (hb)
  have n4_ := Aside0.mk (ho)
  clear BK265 BK266 BK267 HB HO_268000 HO271
  have BK265 := n0_
  have BK266 := n1_
  have BK267 := n2_
  have HB := n3_
  have HO274 := n4_
  clear n0_ n1_ n2_ n3_ n4_ ho hb hg hat
  obtain ⟨Ao19, co19, eo19⟩ := Kd.S_slice HO274.out
  (subst eo19 )
  refine hK.out _ _ ⟨(blk_cell BK267.out 0).trans rfl, (blk_cell BK265.out 0).trans rfl, (cel HB hw268_0)⟩ (fun hHeld => ?_)
  clear hK K
  refine nm 22 (h := ?_)
  refine pu 10 (some 23) (bx 12 2047) (h := ?_)
  refine last_ (i := 11) (N := none) #[true, true, true, true, true, true, true, true, true, true, true, true] rfl rfl (one_of HT_.out (by kernel_rfl)) (by decide) (fun K hK => ?_)
  have hs20 := bc BK267 0
  have hfs20 := blk_frozen BK267.out 0
  have hns20_0 := NB265_267.out
  have hns20_1 := NB266_267.out
  have hms20_0 := NB267_265.out
  have hms20_1 := NB267_266.out
  refine skip_ (w1 := ?_) (by rfl) rfl ?_ ?_
  rotate_left
  ·go_simp
   rfl
  refine hK.out _ _ ?_
  clear hK K
  refine done_ (done_of HT_.out (by kernel_rfl)) ?_
  try go_wp2
  go_roundg k1
  case measure => have := HK1.out; omega
  case rel => exact ⟨(wrap64 (x4_1 + 1)), (y272), (.slice Ao19 y272.length co19), (by rfl ), H', ⟨by have := HK1.out; omega⟩, ⟨by exact Kd.S_mono (Kd.S_far (p := ⟨gb267, 0, none⟩) (Kd.S_types HO274.out BK267.out (by decide)) (fun _ hk => hk.2) (.slice Ao19 y272.length co19)) (fun _ hk => trivial)⟩, ⟨by refine blk_far ?_ NB265_267.out _; exact BK265.out⟩, ⟨by refine blk_far ?_ NB266_267.out _; exact BK266.out⟩, ⟨by refine blk_put (cs := #[u268000]) ?_ 0 _ rfl; exact BK267.out⟩, ⟨bel3 HB GE265 GE266 GE267⟩⟩
end Go.Proofs.Ytemildnlfjijmaa.P
