-- Written by a program of this session over the translation (a variant of the printer, see wip/gen); Lean checks it.
import Derived.Test.YtfcbdfedolnkfaaDoorPx0
import Derived.Test.YtfcbdfedolnkfaaDoorPx8
import Derived.Test.YtfcbdfedolnkfaaDoorPx9
import Derived.Test.YtfcbdfedolnkfaaDoorU
import Derived.BigQuiet
import Derived.Deep.QuietTactic
namespace Go.Proofs.YtfcbdfedolnkfaaDoor.P
open Go.RowKit Go.Proofs.YtfcbdfedolnkfaaDoorW.PrintWords Go.Proofs.YtfcbdfedolnkfaaDoorW.PrintLast Go.Proofs.YtfcbdfedolnkfaaDoorW.PrintMore
attribute [local go_sem] Go.Proofs.YtfcbdfedolnkfaaDoor.V.isSome_setCell max2_int min2_int max_two min_two max_three min_three max_four min_four   -- for this text's walks alone
set_option linter.unusedVariables false
set_option linter.unusedSimpArgs false

/-! ### impl_relocationBound: function 38 -/
/-- The place of a number in an order, or the order's length. -/
def rbRank (k : Nat) (ord : List Int) (n : Int) : Option Int := (slices_Index_int_int.f k ord n).bind fun i => some (if 0 ≤ i then i else (ord.length : Int))
/-- The containers of a stack that stand above earlier ones, added to c; t: the earliest rank so far. -/
def rbIn (k : Nat) (ord : List Int) : List Int → Int → Int → Option Int
  | [], _, c => some c
  | n :: l, t, c => (rbRank k ord n).bind fun r => if 0 ≤ c ∧ c ≤ 4000000 then (if t < r then rbIn k ord l t (c + 1) else rbIn k ord l r c) else none
def rbOut (k : Nat) (ord : List Int) : List (List Int) → Int → Option Int
  | [], c => some c
  | s :: l, c => (rbIn k ord s (ord.length : Int) c).bind fun c2 => rbOut k ord l c2
def impl_relocationBound.f (k : Nat) (l0_0 : List (List Int)) (l1 : List Int) : Option Int := rbOut k l1 l0_0 0
theorem rbRank_mono (k : Nat) (ord : List Int) (n : Int) : LeO (rbRank k ord n) (rbRank (k + 1) ord n) := LeO.bind (slices_Index_int_int.mono _ _ _) (fun _ => LeO.refl _)
theorem rbIn_mono (k : Nat) (ord : List Int) : ∀ (l : List Int) (t c : Int), LeO (rbIn k ord l t c) (rbIn (k + 1) ord l t c)
  | [], _, _ => LeO.refl _
  | n :: l, t, c => by
    rw [rbIn, rbIn]
    exact LeO.bind (rbRank_mono k ord n) (fun r => LeO.ite (LeO.ite (rbIn_mono k ord l _ _) (rbIn_mono k ord l _ _)) (LeO.refl _))
theorem rbOut_mono (k : Nat) (ord : List Int) : ∀ (l : List (List Int)) (c : Int), LeO (rbOut k ord l c) (rbOut (k + 1) ord l c)
  | [], _ => LeO.refl _
  | s :: l, c => by
    rw [rbOut, rbOut]
    exact LeO.bind (rbIn_mono k ord s _ _) (fun r => rbOut_mono k ord l _)
theorem impl_relocationBound.mono : ∀ a0 a1 k, LeO (impl_relocationBound.f k a0 a1) (impl_relocationBound.f (k + 1) a0 a1) := fun a0 a1 k => rbOut_mono k a1 a0 0
set_option maxHeartbeats 8000000 in
set_option maxRecDepth 100000 in
theorem impl_relocationBound.rank (k : Nat) (A : Option Addr) (n c : Nat) (ord : List Int) (hn : ord.length = n) (b : Nat) (x r : Int) (W : World) (hb : W.cell? ⟨b, 0, none⟩ = some (.slice A n c)) (hC : Kd.C (Kd.int .i64) W A ord.length ord) (hc : ord.length ≤ c) (h : rbRank k ord x = some r) :
    Calls Tryd.prog 48 #[.int .i64 x, .pointer (some ⟨b, 0, none⟩)] W fun e W' => e = .returned (.int .i64 r) ∧ Drawn0 W W' := by
  subst hn
  have hln : ord.length ≤ 9223372036854775807 := hC.2.1
  obtain ⟨i, hi, hr⟩ := Option.bind_eq_some_iff.1 h
  injection hr with hr
  have HI := Aside0.mk hi
  have HC := Aside0.mk hC
  have Hc := Aside0.mk hc
  clear h hi hC hc
  by_cases h0 : 0 ≤ i
  · rw [if_pos h0] at hr
    subst hr
    have h0b : decide (0 ≤ i) = true := decide_eq_true h0
    go_enter Tryd.func48, Tryd.ntmps48
    go_wp2_with (first | (go_at_call 47; (refine (slices_Index_int_int.calls k A c ord x i _ HC.out Hc.out HI.out).mono ?_); rintro e w' ⟨rfl, ⟨nd, rfl⟩⟩))
    go_ret
    exact ⟨rfl, (Drawn0.refl _).step nd⟩
  · rw [if_neg h0] at hr
    subst hr
    have h0b : decide (0 ≤ i) = false := decide_eq_false h0
    go_enter Tryd.func48, Tryd.ntmps48
    go_wp2_with (first | (go_at_call 47; (refine (slices_Index_int_int.calls k A c ord x i _ HC.out Hc.out HI.out).mono ?_); rintro e w' ⟨rfl, ⟨nd, rfl⟩⟩))
    go_ret
    exact ⟨rfl, (Drawn0.refl _).step nd⟩
theorem impl_relocationBound.rankq (k : Nat) (A : Option Addr) (n c : Nat) (ord : List Int) (hn : ord.length = n) (b : Nat) (x r : Int) (W : World) (hb : W.cell? ⟨b, 0, none⟩ = some (.slice A n c)) (hC : Kd.C (Kd.int .i64) W A ord.length ord) (hc : ord.length ≤ c) (h : rbRank k ord x = some r) (j : Nat) :
    Calls Tryd.prog 48 #[.int .i64 x, .pointer (some ⟨b, 0, none⟩)] (W.drewN j) fun e W' => e = .returned (.int .i64 r) ∧ ∃ m, W' = W.drewN m :=
  Calls.quiet_of ((impl_relocationBound.rank k A n c ord hn b x r (W.drewN j) hb (Kd.C_below hC (pw_below_drewN (Below.refl _ _) j)) hc h).mono fun _ _ ⟨he, n, hn⟩ => ⟨he, n, hn⟩)
set_option maxHeartbeats 8000000 in
set_option maxRecDepth 100000 in
/-- THE CALL -/
theorem impl_relocationBound.calls (k : Nat) (A0_0 : Option Addr) (c0_0 : Nat) (l0_0 : List (List Int)) (A1 : Option Addr) (c1 : Nat) (l1 : List Int) (r : Int) (w : World) (hr0_0 : Kd.C (Kd.slice 3 (Kd.int .i64)) w A0_0 l0_0.length l0_0) (hc0_0 : l0_0.length ≤ c0_0) (hr1 : Kd.C (Kd.int .i64) w A1 l1.length l1) (hc1 : l1.length ≤ c1) (h : impl_relocationBound.f k l0_0 l1 = some r) :
    Calls Tryd.prog 38 #[.agg #[.slice A0_0 l0_0.length c0_0], .slice A1 l1.length c1] w fun e w' => e = .returned (.int .i64 r) ∧ Below w.heap.size w w' := by
  have hu := Tryd.underlying30
  have hln : l0_0.length ≤ 9223372036854775807 := hr0_0.2.1
  obtain ⟨m, hm⟩ : ∃ m : Nat, l1.length = m := ⟨_, rfl⟩
  have hlm : m ≤ 9223372036854775807 := hm ▸ hr1.2.1
  unfold impl_relocationBound.f at h
  have HR := Aside0.mk hr0_0
  have HR1 := Aside0.mk hr1
  have Hc1 := Aside0.mk hc1
  have HG := Aside0.mk h
  have HB0 := Aside0.mk (Below.refl w.heap.size w)
  have hcf : ∀ (args : Array Value) (W : World), (callFunc 48 args).run Tryd.prog W = .ok (.enter 48 args) W := fun args W => enters_ Tryd.func48 (by kernel_rfl) rfl args W
  have HM := Aside0.mk hm
  rw [hm]
  clear hr0_0 hr1 hc1 h hm
  have hb1 : Below w.heap.size w (w.alloc (.cells #[.slice A0_0 l0_0.length c0_0] 30)) := below_alloc HB0.out _
  have HB1 := Aside0.mk (below_alloc hb1 (.cells #[.slice A1 m c1] 25))
  clear hb1
  go_enter Tryd.func38, Tryd.ntmps38
  go_wp2
  go_loopw [6, 16] (fun v6 v16 wr => ∃ (i : Nat) (c : Int), v16 = .int .i64 (i : Int) ∧ v6 = .int .i64 c ∧ Aside0 (i ≤ l0_0.length) ∧ Aside0 (rbOut k l1 (l0_0.drop i) c = some r) ∧ Aside0 (wr.cell? ⟨w.heap.size + 1, 0, none⟩ = some (.slice A1 m c1)) ∧ Aside0 (Below w.heap.size w wr)) (fun v6 v16 wr => l0_0.length - (intOf v16).toNat)
  case atStart => exact ⟨0, 0, rfl, rfl, ⟨Nat.zero_le _⟩, HG, ⟨by simp [go_sem]⟩, HB1⟩
  case round =>
    clear HG
    obtain ⟨i, c, rfl, rfl, HLe, HG, HO, HB⟩ := hrel
    by_cases hlt : i < l0_0.length
    · have hltb : decide (i < l0_0.length) = true := decide_eq_true hlt
      obtain ⟨ad, A0, c0, eA, hcell, hcr, hCr⟩ := impl_IsValidYard.atRow HR.out i hlt
      cases eA
      replace hcell := (HB.out.cell (World.block_lt_of_cell? w _ hcell)).trans hcell
      have hG := HG.out
      rw [show l0_0.drop i = l0_0.getD i [] :: l0_0.drop (i + 1) by rw [List.drop_eq_getElem_cons hlt, Go.Proofs.YtfcbdfedolnkfaaDoor.U.getD_at _ _ _ hlt], rbOut] at hG
      obtain ⟨c2, hin, hG2⟩ := Option.bind_eq_some_iff.1 hG
      clear hG HG
      generalize l0_0.getD i [] = row at *
      have HC := Aside0.mk hCr
      have hrn : row.length ≤ 9223372036854775807 := hCr.2.1
      have HIn := Aside0.mk hin
      have HG := Aside0.mk hG2
      clear hin hG2 hCr
      have ho := HO.out
      go_wp2
      clear ho hcell
      obtain ⟨wo, rfl⟩ : ∃ wo : World, wo = wr := ⟨_, rfl⟩
      go_loopw [6, 9, 24] (fun v6 v9 v24 wr => ∃ (j : Nat) (c t : Int), v24 = .int .i64 (j : Int) ∧ v6 = .int .i64 c ∧ v9 = .int .i64 t ∧ Aside0 (j ≤ row.length) ∧ Aside0 (rbIn k l1 (row.drop j) t c = some c2) ∧ Aside0 (wr.cell? ⟨w.heap.size + 1, 0, none⟩ = some (.slice A1 m c1)) ∧ Aside0 (Below w.heap.size w wr)) (fun v6 v9 v24 wr => row.length - (intOf v24).toNat)
      case atStart => exact ⟨0, c, m, rfl, rfl, rfl, ⟨Nat.zero_le _⟩, ⟨by have h := HIn.out; rw [HM.out] at h; exact h⟩, HO, HB⟩
      case round =>
        clear HIn HO HB
        obtain ⟨j, c, t, rfl, rfl, rfl, HLe2, HI, HO, HB⟩ := hrel
        by_cases hlt2 : j < row.length
        · have hlt2b : decide (j < row.length) = true := decide_eq_true hlt2
          obtain ⟨ad2, eA2, hcell2⟩ := impl_IsValidYard.atInt HC.out j hlt2
          cases eA2
          replace hcell2 := (HB.out.cell (World.block_lt_of_cell? w _ hcell2)).trans hcell2
          have hI := HI.out
          rw [show row.drop j = row.getD j 0 :: row.drop (j + 1) by rw [List.drop_eq_getElem_cons hlt2, Go.Proofs.YtfcbdfedolnkfaaDoor.U.getD_at _ _ _ hlt2], rbIn] at hI
          obtain ⟨q, hq, hI2⟩ := Option.bind_eq_some_iff.1 hI
          clear hI HI
          generalize row.getD j 0 = x at *
          have HQ := Aside0.mk hq
          clear hq
          split at hI2
          case isFalse => cases hI2
          case isTrue hc =>
          have ho := HO.out
          have HCw := Aside0.mk (Kd.C_below HR1.out HB.out)
          have hc0 := hc.1
          have hc4 := hc.2
          clear hc
          by_cases htq : t < q
          · rw [if_pos htq] at hI2
            have htb : decide (t < q) = true := decide_eq_true htq
            have HI := Aside0.mk hI2
            clear hI2
            go_wp2
            go_quiet ((exact impl_relocationBound.rankq k A1 m c1 l1 HM.out (w.heap.size + 1) x q wr HO.out HCw.out Hc1.out HQ.out _))
            have HO2 := Aside0.mk (show (wr.drewN nq).cell? ⟨w.heap.size + 1, 0, none⟩ = some (.slice A1 m c1) from HO.out)
            have HB2 := Aside0.mk (pw_below_drewN HB.out nq)
            go_wp2_with (first | (refine (impl_relocationBound.rank k A1 m c1 l1 HM.out (w.heap.size + 1) x q _ HO2.out (Kd.C_below HR1.out HB2.out) Hc1.out HQ.out).mono ?_; rintro e w' ⟨rfl, ⟨nd, rfl⟩⟩))
            go_roundw
            case rel => exact ⟨j + 1, c + 1, t, by go_num, rfl, rfl, ⟨hlt2⟩, HI, ⟨HO2.out⟩, ⟨pw_below_drewN HB.out _⟩⟩
            case measure => simp [intOf]; omega
          · rw [if_neg htq] at hI2
            have htb : decide (t < q) = false := decide_eq_false htq
            have HI := Aside0.mk hI2
            clear hI2
            by_cases hqm : q = (m : Int)
            · have hqb : (q == (m : Int)) = true := beq_iff_eq.mpr hqm
              have htm : decide (t < (m : Int)) = false := decide_eq_false (by omega)
              have hqd : decide (q = (m : Int)) = true := decide_eq_true hqm
              have HQm := Aside0.mk hqm
              clear hqm
              go_wp2
              go_quiet ((exact impl_relocationBound.rankq k A1 m c1 l1 HM.out (w.heap.size + 1) x q wr HO.out HCw.out Hc1.out HQ.out _))
              have HO2 := Aside0.mk (show (wr.drewN nq).cell? ⟨w.heap.size + 1, 0, none⟩ = some (.slice A1 m c1) from HO.out)
              have HB2 := Aside0.mk (pw_below_drewN HB.out nq)
              go_wp2_with (first | (refine (impl_relocationBound.rank k A1 m c1 l1 HM.out (w.heap.size + 1) x q _ HO2.out (Kd.C_below HR1.out HB2.out) Hc1.out HQ.out).mono ?_; rintro e w' ⟨rfl, ⟨nd, rfl⟩⟩))
              go_roundw
              case rel => exact ⟨j + 1, c, q, by go_num, rfl, by rw [show (if q < t then q else t) = q by split <;> omega], ⟨hlt2⟩, HI, ⟨HO2.out⟩, ⟨pw_below_drewN HB.out _⟩⟩
              case measure => simp [intOf]; omega
            · have hqb : (q == (m : Int)) = false := beq_eq_false_iff_ne.mpr hqm
              have hqd : decide (q = (m : Int)) = false := decide_eq_false hqm
              go_wp2
              go_quiet ((exact impl_relocationBound.rankq k A1 m c1 l1 HM.out (w.heap.size + 1) x q wr HO.out HCw.out Hc1.out HQ.out _))
              have HO2 := Aside0.mk (show (wr.drewN nq).cell? ⟨w.heap.size + 1, 0, none⟩ = some (.slice A1 m c1) from HO.out)
              have HB2 := Aside0.mk (pw_below_drewN HB.out nq)
              go_wp2_with (first | (refine (impl_relocationBound.rank k A1 m c1 l1 HM.out (w.heap.size + 1) x q _ HO2.out (Kd.C_below HR1.out HB2.out) Hc1.out HQ.out).mono ?_; rintro e w' ⟨rfl, ⟨nd, rfl⟩⟩))
              go_roundw
              case rel => exact ⟨j + 1, c, q, by go_num, rfl, by rw [show (if q < t then q else t) = q by split <;> omega], ⟨hlt2⟩, HI, ⟨HO2.out⟩, ⟨pw_below_drewN HB.out _⟩⟩
              case measure => simp [intOf]; omega
        · have hlt2b : decide (j < row.length) = false := decide_eq_false hlt2
          have hI := HI.out
          rw [List.drop_of_length_le (by omega), rbIn] at hI
          injection hI with hI
          subst hI
          go_wp2
          go_roundw
          case rel => exact ⟨i + 1, _, by go_num, rfl, ⟨hlt⟩, HG, HO, HB⟩
          case measure => simp [intOf]; omega
    · have hltb : decide (i < l0_0.length) = false := decide_eq_false hlt
      have hG := HG.out
      rw [List.drop_of_length_le (by omega), rbOut] at hG
      injection hG with hG
      subst hG
      clear HG
      go_wp2
      go_ret
      exact ⟨rfl, HB.out⟩


end Go.Proofs.YtfcbdfedolnkfaaDoor.P
