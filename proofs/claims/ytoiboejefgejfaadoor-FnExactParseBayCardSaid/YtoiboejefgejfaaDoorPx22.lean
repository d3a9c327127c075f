-- Written by a program of this session over the translation (a variant of the printer, see wip/gen); Lean checks it.
import Derived.Test.YtoiboejefgejfaaDoorPx0
import Derived.Test.YtoiboejefgejfaaDoorPx21
namespace Go.Proofs.YtoiboejefgejfaaDoor.P
open Go.RowKit Go.Proofs.YtoiboejefgejfaaDoorW.PrintWords Go.Proofs.YtoiboejefgejfaaDoorW.PrintLast Go.Proofs.YtoiboejefgejfaaDoorW.PrintMore
attribute [local go_sem] Go.Proofs.YtoiboejefgejfaaDoor.V.isSome_setCell max2_int min2_int max_two min_two max_three min_three max_four min_four   -- for this text's walks alone
set_option linter.unusedVariables false
set_option linter.unusedSimpArgs false

/-! ### laws_markIntSS: function 20 -/
def laws_markIntSS.l0 : Nat → List (List Int) → Int → Int → Option (Int × List (List Int))
  | 0, _, _, _ => none
  | k + 1, x0, x1, x5 => if x5 < (x0.length : Int) then (if 0 ≤ x5 then ((laws_markIntS.f k (x0.getD (x5 : Int).toNat []) x1).bind fun bt => laws_markIntSS.l0 k (x0.set (x5 : Int).toNat bt.2) bt.1 (wrap64 (x5 + 1))) else (none)) else (some (x1, x0))
def laws_markIntSS.f (k : Nat) (l0 : List (List Int)) (a1 : Int) : Option (Int × List (List Int)) := laws_markIntSS.l0 k l0 a1 0
set_option maxHeartbeats 8000000 in
set_option maxRecDepth 100000 in
theorem laws_markIntSS.calls (k : Nat) (P0_ : Nat → Prop) (u9000_ : Value) (l0 : List (List Int)) (a1 : Int) (r1 : Int) (r2 : List (List Int)) (w0 w : World) (hB : Below w0.heap.size w0 w) (ho0 : Kd.S (Kd.slice 3 (Kd.int .i64)) 33 w w0.heap.size P0_ u9000_ l0) (h : laws_markIntSS.f k l0 a1 = some (r1, r2)) :
    Calls Tryd.prog 20 #[u9000_, .int .i64 a1] w fun e w' => e = .returned (.int .i64 r1) ∧ Kd.S (Kd.slice 3 (Kd.int .i64)) 33 w' w0.heap.size (fun k_ => (P0_ k_ ∨ w.heap.size ≤ k_)) u9000_ r2 ∧ Below w0.heap.size w0 w' ∧ Kept w w' (fun k_ => P0_ k_) := by
  have HO0 := Aside0.mk (show Kd.S (Kd.slice 3 (Kd.int .i64)) 33 w w0.heap.size (fun k_ => (P0_ k_ ∨ w.heap.size ≤ k_)) u9000_ l0 from Kd.S_mono ho0 (fun k_ hk => (.inl hk)))
  have HK := Aside0.mk (Kept.refl w (fun k_ => P0_ k_))
  have HB := Aside0.mk hB
  clear hB ho0
  have H : (laws_markIntSS.l0 k l0 a1 0) = some (r1, r2) := h
  clear h
  have H' := Aside0.mk H
  clear H
  go_enter Tryd.func20, Tryd.ntmps20
  go_wp2
  go_loopg [1, 5] k (fun kq v1 v5 w' => ∃ (x0_1 : List (List Int)) (x1_1 : Int) (x5_1 : Int), v1 = .int .i64 x1_1 ∧ v5 = .int .i64 x5_1 ∧ Aside0 (laws_markIntSS.l0 kq x0_1 x1_1 x5_1 = some (r1, r2)) ∧ Aside0 (kq ≤ k) ∧ Aside0 (Kd.S (Kd.slice 3 (Kd.int .i64)) 33 w' w0.heap.size (fun k_ => (P0_ k_ ∨ w.heap.size ≤ k_)) u9000_ x0_1) ∧ Aside0 (Kept w w' (fun k_ => P0_ k_)) ∧ Aside0 (Below w0.heap.size w0 w'))
  case atStart => exact ⟨l0, a1, 0, rfl, rfl, H', ⟨Nat.le_refl _⟩, ⟨HO0.out⟩, ⟨HK.out⟩, ⟨HB.out⟩⟩
  case round =>
    clear H'
    obtain ⟨x0_1, x1_1, x5_1, rfl, rfl, HA, HK1, HO, HK, HB⟩ := hrel
    cases gk with
    | zero => exact absurd HA.out (by simp [laws_markIntSS.l0])
    | succ k1 =>
      have H := HA.out
      clear HA
      simp only [laws_markIntSS.l0] at H
      by_cases c3 : x5_1 < (x0_1.length : Int)
      · rw [if_pos c3] at H
        have c3b0 : decide (x5_1 < (x0_1.length : Int)) = true := decide_eq_true c3
        by_cases c4 : 0 ≤ x5_1
        · rw [if_pos c4] at H
          have c4b0 : decide (0 ≤ x5_1) = true := decide_eq_true c4
          obtain ⟨⟨b1, b2⟩, hm, H⟩ := Option.bind_eq_some_iff.1 H
          have HM := Aside0.mk hm
          clear hm
          have H' := Aside0.mk H
          clear H
          obtain ⟨g, cap, eu, hgb, hgl, cells, hblk⟩ := Kd.S_form HO.out (by omega)
          subst eu
          obtain ⟨oki, c, hcl, hMi, hcc, hoki, hH⟩ := Kd.S_lend HO.out ([] : List Int) x5_1 c4 c3
          generalize hrow : x0_1.getD x5_1.toNat [] = row at HM hMi
          clear hrow
          obtain ⟨ui, rfl, hR⟩ := hMi
          have hcell : wr.cell? ⟨g, x5_1.toNat, none⟩ = some ui := by
            have h0 := hcc 0 ui rfl
            rw [show (Kd.slice 3 (Kd.int .i64)).sz = 1 from rfl, Nat.mul_one, Nat.add_zero] at h0
            exact h0
          obtain ⟨Ai, ci, rfl⟩ := Kd.R_slice hR
          have HR := Aside0.mk hR
          have HH := Aside0.mk hH
          have HQ := Aside0.mk hoki
          clear hR hH hoki hcc hcl hblk hgb hgl
          have p5 := eq_true c4
          have q5 := eq_true c3
          go_wp2_with (go_at_call 33; (with_reducible refine (laws_markIntS.calls k1 oki _ row x1_1 b1 b2 w0 _ ?side1 ?side2 HM.out).mono ?_); (case side1 => repeat (first | (with_reducible first | exact HB.out | apply below_alloc | apply pw_below_drewN | apply below_drew1) | exact HB.out)); (case side2 => (with_reducible repeat (first | apply Kd.R_alloc | apply Kd.R_drewN | apply Kd.R_drew)); exact HR.out); rintro e w8 ⟨rfl, hr8, hb8, hk8⟩; have n0_ := Aside0.mk hr8; have n1_ := Aside0.mk hb8; have n2_ := Aside0.mk (show Kept wr w8 oki from hk8); clear hr8 hb8 hk8)
          go_roundg k1
          case measure => have := HK1.out; omega
          case rel =>
            have hok : ∀ k_, oki k_ → P0_ k_ ∨ w.heap.size ≤ k_ := fun k_ hk => (HQ.out k_ hk).1
            refine ⟨_, b1, wrap64 (x5_1 + 1), rfl, rfl, H', ⟨by have := HK1.out; omega⟩, ⟨?_⟩, ⟨HK.out.then_ n2_.out hok⟩, ⟨n1_.out⟩⟩
            exact Kd.H_back (Kd.H_step HH.out (fun k_ _ hn hlt => n2_.out.2 k_ hlt hn)) (okp := fun k_ => some k_ = (Value.slice Ai row.length ci).ownBlock) ⟨_, rfl, Kd.R_tight rfl n0_.out⟩ (fun k_ hk => HR.out.1 k_ hk.symm)
        · rw [if_neg c4] at H
          exact absurd H (by simp)
      · rw [if_neg c3] at H
        have c3b0 : decide (x5_1 < (x0_1.length : Int)) = false := decide_eq_false c3
        simp only [Option.some.injEq, Prod.mk.injEq] at H
        obtain ⟨rfl, rfl⟩ := H
        obtain ⟨Ao9, co9, eo9⟩ := Kd.S_slice HO.out
        subst eo9
        go_wp2
        go_ret
        exact ⟨rfl, HO.out, HB.out, HK.out⟩


end Go.Proofs.YtoiboejefgejfaaDoor.P
