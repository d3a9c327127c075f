-- Written by a program of this session over the translation (a variant of the printer, see wip/gen); Lean checks it.
import Derived.Test.YtfcbdfedolnkfaaDoorPx0
import Derived.Test.YtfcbdfedolnkfaaDoorPx10
import Derived.Test.YtfcbdfedolnkfaaDoorPx12
import Derived.Test.YtfcbdfedolnkfaaDoorPx16
import Derived.Test.YtfcbdfedolnkfaaDoorU
namespace Go.Proofs.YtfcbdfedolnkfaaDoor.P
open Go.RowKit Go.Proofs.YtfcbdfedolnkfaaDoorW.PrintWords Go.Proofs.YtfcbdfedolnkfaaDoorW.PrintLast Go.Proofs.YtfcbdfedolnkfaaDoorW.PrintMore
attribute [local go_sem] Go.Proofs.YtfcbdfedolnkfaaDoor.V.isSome_setCell max2_int min2_int max_two min_two max_three min_three max_four min_four   -- for this text's walks alone
set_option linter.unusedVariables false
set_option linter.unusedSimpArgs false

/-! ### impl_bestSteps: function 24 -/
/-- The searches with more and more relocations. -/
def bsGo (k : Nat) (ord : List Int) (tab : List (List Int)) : Nat → Nat → Option (List S47 × Bool)
  | 0, _ => some ([], false)
  | j + 1, d => (impl_ownYard.f k tab).bind fun t2 => if t2.length = tab.length then (plSearch k ord (d + 1) t2 0).bind fun r => match r with
    | some l => some (l, true)
    | none => bsGo k ord tab j (d + 1) else none
def impl_bestSteps.f (k : Nat) (l0_0 : List (List Int)) (l1 : List Int) : Option (List S47 × Bool) :=
  if 0 < l0_0.length ∧ l1.length ≤ 8 then (impl_relocationBound.f k l0_0 l1).bind fun b => if 0 ≤ b then bsGo k l1 l0_0 (3 * l1.length + 1 - b.toNat) b.toNat else none else none
theorem bsGo_mono (k : Nat) (ord : List Int) (tab : List (List Int)) : ∀ (j d : Nat), LeO (bsGo k ord tab j d) (bsGo (k + 1) ord tab j d)
  | 0, _ => LeO.refl _
  | j + 1, d => LeO.bind (impl_ownYard.mono _ _) fun t2 => LeO.ite (LeO.bind (plSearch_mono k ord _ _ _) fun r => by
    cases r with
    | some l => exact LeO.refl _
    | none => exact bsGo_mono k ord tab j _) (LeO.refl _)
theorem impl_bestSteps.mono : ∀ a0 a1 k, LeO (impl_bestSteps.f k a0 a1) (impl_bestSteps.f (k + 1) a0 a1) := fun a0 a1 k => LeO.ite (LeO.bind (impl_relocationBound.mono _ _ _) fun b => LeO.ite (bsGo_mono k a1 a0 _ _) (LeO.refl _)) (LeO.refl _)
/-- How many keys all searches may add. -/
def plSum : Nat → Nat
  | 0 => 0
  | d + 1 => plSum d + plCost (d + 1)
theorem plSum_le : ∀ {d e : Nat}, d ≤ e → plSum d ≤ plSum e
  | d, 0, h => by rw [Nat.le_zero.1 h]; exact Nat.le_refl _
  | d, e + 1, h => by
    rcases Nat.lt_or_ge d (e + 1) with h1 | h1
    · exact Nat.le_trans (plSum_le (Nat.le_of_lt_succ h1)) (Nat.le_add_right _ _)
    · rw [Nat.le_antisymm h h1]; exact Nat.le_refl _
theorem plSum_25 : plSum 25 ≤ 9000000000000000000 := by decide +kernel
theorem impl_bestSteps.bnd (k : Nat) (A0_0 : Option Addr) (n c0_0 : Nat) (l0_0 : List (List Int)) (A1 : Option Addr) (m c1 : Nat) (l1 : List Int) (r : Int) (w : World) (hn : l0_0.length = n) (hm : l1.length = m) (hr0_0 : Kd.C (Kd.slice 3 (Kd.int .i64)) w A0_0 l0_0.length l0_0) (hc0_0 : l0_0.length ≤ c0_0) (hr1 : Kd.C (Kd.int .i64) w A1 l1.length l1) (hc1 : l1.length ≤ c1) (h : impl_relocationBound.f k l0_0 l1 = some r) :
    Calls Tryd.prog 38 #[.agg #[.slice A0_0 n c0_0], .slice A1 m c1] w fun e w' => e = .returned (.int .i64 r) ∧ Below w.heap.size w w' := by
  subst hn hm
  exact impl_relocationBound.calls k A0_0 c0_0 l0_0 A1 c1 l1 r w hr0_0 hc0_0 hr1 hc1 h
set_option maxHeartbeats 8000000 in
set_option maxRecDepth 100000 in
/-- THE CALL -/
theorem impl_bestSteps.calls (k : Nat) (A0_0 : Option Addr) (c0_0 : Nat) (l0_0 : List (List Int)) (A1 : Option Addr) (c1 : Nat) (l1 : List Int) (r1 : List S47) (r2 : Bool) (w : World) (hr0_0 : Kd.C (Kd.slice 3 (Kd.int .i64)) w A0_0 l0_0.length l0_0) (hc0_0 : l0_0.length ≤ c0_0) (hr1 : Kd.C (Kd.int .i64) w A1 l1.length l1) (hc1 : l1.length ≤ c1) (h : impl_bestSteps.f k l0_0 l1 = some (r1, r2)) :
    Calls Tryd.prog 24 #[.agg #[.slice A0_0 l0_0.length c0_0], .slice A1 l1.length c1] w fun e w' => ∃ v0_ : Value, e = .returned (.tuple #[v0_, .bool r2]) ∧ Kd.R k47 47 w' w.heap.size (fun _ => True) v0_ r1 ∧ Below w.heap.size w w' := by
  have hu := Tryd.underlying30
  have hu2 := Tryd.underlying47
  have hu3 := Tryd.underlying59
  have hmk := @run_makeMap Tryd.prog
  unfold impl_bestSteps.f at h
  split at h
  case isFalse => cases h
  case isTrue hpos =>
  obtain ⟨b, hb, h2⟩ := Option.bind_eq_some_iff.1 h
  clear h
  split at h2
  case isFalse => cases h2
  case isTrue hb0 =>
  obtain ⟨b, rfl⟩ := Int.eq_ofNat_of_zero_le hb0
  rw [Int.toNat_natCast] at h2
  obtain ⟨m, hm⟩ : ∃ m : Nat, l1.length = m := ⟨_, rfl⟩
  obtain ⟨tl, htl⟩ : ∃ n : Nat, l0_0.length = n := ⟨_, rfl⟩
  have hm8 : m ≤ 8 := by omega
  have HPos := Aside0.mk (show 0 < tl by omega)
  have HR0 := Aside0.mk hr0_0
  have HC0 := Aside0.mk hc0_0
  have HR1 := Aside0.mk hr1
  have HC1 := Aside0.mk hc1
  have HBd := Aside0.mk hb
  have HG := Aside0.mk (show bsGo k l1 l0_0 (3 * m + 1 - b) b = some (r1, r2) by rw [← hm]; exact h2)
  have HM := Aside0.mk hm
  have HTl := Aside0.mk htl
  rw [hm, htl]
  clear hr0_0 hc0_0 hr1 hc1 hb h2 hb0 hpos hm htl
  go_enter Tryd.func24, Tryd.ntmps24
  go_upto_region 2 with (first | ((with_reducible refine gate_dst (N := 2) rfl ?_); (try (refine gate_guard (by rfl) ?_; dsimp only)); refine box_event ?hg (N := 2) ?hd (cs := #[.slice A0_0 tl c0_0]) (t := 30) ?hr ?_; (case hd => rfl); (case hg => rfl); (case hr => first | (go_simp; done) | (go_simp; rfl)); intro gy hgy w1 hbox hb; have BY1 := Aside0.mk hbox; have HB1 := Aside0.mk hb; clear hb hbox hgy) | ((with_reducible refine gate_dst (N := 13) rfl ?_); (try (refine gate_guard (by rfl) ?_; dsimp only)); refine box_event ?hg (N := 13) ?hd (cs := #[.slice A1 m c1, .map (some w1.heap.size)]) (t := 59) ?hr ?_; (case hd => rfl); (case hg => rfl); (case hr => first | (go_simp; done) | (go_simp; rfl)); intro pb hpb w3 hbox hb; have BP3 := Aside0.mk hbox; have HB3 := Aside0.mk hb; clear hb hbox hpb))
  have HW3 := Aside0.mk (show PlW w pb w1.heap.size A1 m c1 l1 0 w3 from ⟨BP3.out, ⟨[], ownsMap_at (World.ownsMap_made w1 Tryd.prog 9 (plainElem Tryd.prog 4)) (HB3.out.block _ (by simp)), fun key hk => by cases hk⟩, (below_alloc HB1.out _).trans (HB3.out.mono (by have := HB1.out.size; simp; omega))⟩)
  have BY3 := Aside0.mk (show w3.heap[gy]? = some (.cells #[.slice A0_0 tl c0_0] 30 (0, 0)) from blk_below (blk_alloc BY1.out _) HB3.out)
  have HMb := Aside0.mk (show w.heap.size ≤ w1.heap.size from HB1.out.size)
  generalize w1.heap.size = mb at HW3 HMb ⊢
  have hbx3 : w3.cell? ⟨gy, 0, none⟩ = some (.slice A0_0 tl c0_0) := (blk_cell BY3.out 0).trans rfl
  clear BP3 HB3 BY1 HB1
  go_wp2_with (first | (go_at_call 38; refine (impl_bestSteps.bnd k _ tl _ l0_0 _ m _ l1 b _ HTl.out HM.out (Kd.C_below HR0.out HW3.out.2.2) HC0.out (Kd.C_below HR1.out HW3.out.2.2) HC1.out HBd.out).mono ?_; rintro e w4 ⟨rfl, hb⟩; have HW4 := Aside0.mk (HW3.out.below hb); have BY4 := Aside0.mk (blk_below BY3.out hb); clear hb HW3 BY3 hbx3))
  have HWs := Aside0.mk (HW4.out.mono (n' := plSum b) (Nat.zero_le _))
  go_loopw [7] (fun v7 wr => ∃ d : Nat, v7 = .int .i64 (d : Int) ∧ Aside0 (bsGo k l1 l0_0 (3 * m + 1 - d) d = some (r1, r2)) ∧ Aside0 (PlW w pb mb A1 m c1 l1 (plSum d) wr) ∧ Aside0 (wr.heap[gy]? = some (.cells #[.slice A0_0 tl c0_0] 30 (0, 0)))) (fun v7 wr => 3 * m + 1 - (intOf v7).toNat)
  case atStart => exact ⟨b, rfl, HG, HWs, BY4⟩
  case round =>
    clear HWs HW4 BY4 HG
    obtain ⟨d, rfl, HG, HW, BY⟩ := hrel
    have hbx : wr.cell? ⟨gy, 0, none⟩ = some (.slice A0_0 tl c0_0) := (blk_cell BY.out 0).trans rfl
    by_cases hd : d ≤ 3 * m
    · have h1 : decide ((d : Int) ≤ 3 * (m : Int)) = true := decide_eq_true (by omega)
      have h2 : decide (d ≤ 3 * m) = true := decide_eq_true hd
      have h3 : (d : Int) ≤ 3 * (m : Int) := by omega
      have hg := HG.out
      rw [show 3 * m + 1 - d = (3 * m + 1 - (d + 1)) + 1 by omega, bsGo] at hg
      obtain ⟨t2, ht2, hg2⟩ := Option.bind_eq_some_iff.1 hg
      split at hg2
      case isFalse => cases hg2
      case isTrue hlen =>
      obtain ⟨r3, hr3, hg3⟩ := Option.bind_eq_some_iff.1 hg2
      have HT2 := Aside0.mk ht2
      have HLen := Aside0.mk hlen
      have HR3 := Aside0.mk hr3
      have HG3 := Aside0.mk hg3
      clear hg hg2 hg3 hr3 hlen ht2 HG
      have HCost := Aside0.mk (show plSum d + plCost (d + 1) ≤ 9000000000000000000 from Nat.le_trans (plSum_le (show d + 1 ≤ 25 by omega)) plSum_25)
      cases r3 with
      | some l =>
        have hg3 := HG3.out
        injection hg3 with hg3
        injection hg3 with e1 e2
        subst e1 e2
        clear HG3
        go_wp2_with (first | (go_at_call 40; refine (impl_search.own k _ tl _ l0_0 t2 _ w (below_size HW.out.2.2) HTl.out (HLen.out.trans HTl.out) HPos.out (Kd.C_below HR0.out HW.out.2.2) HC0.out HT2.out).mono ?_; rintro e w5 ⟨g2, cap2, rfl, hS, hb⟩; have HW5 := Aside0.mk (HW.out.below hb); have HC5 := Aside0.mk (by have hc := impl_search.all w pb mb A1 m c1 l1 k HM.out (by omega) HR1.out HC1.out HMb.out (d + 1) g2 cap2 0 (plSum d) t2 (some l) (fun q => wr.heap.size ≤ q) w5 HW5.out (by rw [HLen.out, HTl.out]; exact hS) (fun q hq => Nat.le_trans hb.size hq) (Nat.zero_le _) HCost.out HR3.out; rw [HLen.out, HTl.out, show (((d + 1 : Nat) : Int) - 1) = (d : Int) by omega, show ((0 : Nat) : Int) = 0 from rfl] at hc; exact hc); clear hS hb hbx) | (go_at_call 39; refine HC5.out.mono ?_; rintro e w6 ⟨v6, rfl, hV, hW, hsz, hk⟩; have HV := Aside0.mk (show Kd.R k47 47 w6 w.heap.size (fun _ => True) v6 l from Kd.R_mono hV (fun _ _ => trivial)); have HW6 := Aside0.mk hW; clear hV hW hsz hk))
        go_ret2
        exact ⟨_, rfl, HV.out, HW6.out.2.2⟩
      | none =>
        have HG4 := Aside0.mk (show bsGo k l1 l0_0 (3 * m + 1 - (d + 1)) (d + 1) = some (r1, r2) from HG3.out)
        clear HG3
        go_wp2_with (first | (go_at_call 40; refine (impl_search.own k _ tl _ l0_0 t2 _ w (below_size HW.out.2.2) HTl.out (HLen.out.trans HTl.out) HPos.out (Kd.C_below HR0.out HW.out.2.2) HC0.out HT2.out).mono ?_; rintro e w5 ⟨g2, cap2, rfl, hS, hb⟩; have HW5 := Aside0.mk (HW.out.below hb); have BY5 := Aside0.mk (blk_below BY.out hb); have HGy := Aside0.mk (show gy < wr.heap.size from blk_lt BY.out); have HC5 := Aside0.mk (by have hc := impl_search.all w pb mb A1 m c1 l1 k HM.out (by omega) HR1.out HC1.out HMb.out (d + 1) g2 cap2 0 (plSum d) t2 none (fun q => wr.heap.size ≤ q) w5 HW5.out (by rw [HLen.out, HTl.out]; exact hS) (fun q hq => Nat.le_trans hb.size hq) (Nat.zero_le _) HCost.out HR3.out; rw [HLen.out, HTl.out, show (((d + 1 : Nat) : Int) - 1) = (d : Int) by omega, show ((0 : Nat) : Int) = 0 from rfl] at hc; exact hc); clear hS hb hbx) | (go_at_call 39; refine HC5.out.mono ?_; rintro e w6 ⟨v6, rfl, hV, hW, hsz, hk⟩; have BY6 := Aside0.mk ((hk gy (blk_lt BY5.out) (fun h => by have := HGy.out; omega) (HW5.out.ne BY5.out).1).trans BY5.out); have HW6 := Aside0.mk (show PlW w pb mb A1 m c1 l1 (plSum (d + 1)) w6 from hW); clear hV hW hsz hk))
        go_roundw
        case rel => exact ⟨d + 1, by go_num, HG4, HW6, BY6⟩
        case measure => simp [intOf]; omega
    · have h1 : decide ((d : Int) ≤ 3 * (m : Int)) = false := decide_eq_false (by omega)
      have h2 : decide (d ≤ 3 * m) = false := decide_eq_false hd
      have h3 : ¬ ((d : Int) ≤ 3 * (m : Int)) := by omega
      have hg := HG.out
      rw [show 3 * m + 1 - d = 0 by omega, bsGo] at hg
      injection hg with hg
      injection hg with e1 e2
      subst e1 e2
      clear HG
      go_wp2
      go_ret2
      exact ⟨_, rfl, Kd.R_nil _ _ _ _ _, HW.out.2.2⟩


end Go.Proofs.YtfcbdfedolnkfaaDoor.P
