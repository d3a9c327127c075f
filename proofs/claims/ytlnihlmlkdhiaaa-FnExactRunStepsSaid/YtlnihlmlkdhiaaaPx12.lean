-- Written by a program of this session over the translation (a variant of the printer, see wip/gen); Lean checks it.
import Derived.Test.YtlnihlmlkdhiaaaPx0
import Derived.Test.YtlnihlmlkdhiaaaPx7
import Derived.Test.YtlnihlmlkdhiaaaPx9
import Derived.Test.YtlnihlmlkdhiaaaPx10
import Derived.Test.YtlnihlmlkdhiaaaPx11
import Derived.Test.YtlnihlmlkdhiaaaU
namespace Go.Proofs.Ytlnihlmlkdhiaaa.P
open Go.RowKit Go.Proofs.YtlnihlmlkdhiaaaW.PrintWords Go.Proofs.YtlnihlmlkdhiaaaW.PrintLast Go.Proofs.YtlnihlmlkdhiaaaW.PrintMore
attribute [local go_sem] Go.Proofs.Ytlnihlmlkdhiaaa.V.isSome_setCell max2_int min2_int max_two min_two max_three min_three max_four min_four   -- for this text's walks alone
set_option linter.unusedVariables false
set_option linter.unusedSimpArgs false

/-! ### impl_RunSteps: function 10 -/
def rsGo (k : Nat) : List S51 → List (List Int) → List Int → Option (List (List Int) × List Int × Bool)
  | [], tab, rem => some (tab, rem, true)
  | s :: l, tab, rem => (impl_placeOf.f k tab s.f0).bind fun q => if q.1 < (tab.length : Int) ∧ (0 ≤ q.1 → 0 ≤ q.2) ∧ (∀ row, row ∈ tab → row.length ≤ 1000) ∧ rem.length ≤ 1000 then (match stepF tab q.1 q.2 s.f1 with | none => some ([], [], false) | some t2 => rsGo k l t2 (if s.f1 = -1 then rem ++ [s.f0] else rem)) else none
def impl_RunSteps.g (k : Nat) (l1 : List S51) (tab : List (List Int)) : Option (List (List Int) × List Int × Bool) := if 0 < tab.length then rsGo k l1 tab [] else none
def impl_RunSteps.f (k : Nat) (l0_0 : List (List Int)) (l1 : List S51) : Option (List (List Int) × List Int × Bool) :=
  (impl_IsValidYard.f l0_0).bind fun v => if v = false ∨ (l1.length : Int) > 60 then some ([], [], false) else (impl_ownYard.f k l0_0).bind (impl_RunSteps.g k l1)
theorem rsGo_mono (k : Nat) : ∀ (l : List S51) (tab : List (List Int)) (rem : List Int), LeO (rsGo k l tab rem) (rsGo (k + 1) l tab rem)
  | [], _, _ => fun r h => h
  | s :: l, tab, rem => fun r h => by
    rw [rsGo] at h ⊢
    obtain ⟨q, h1, h2⟩ := Option.bind_eq_some_iff.1 h
    refine Option.bind_eq_some_iff.2 ⟨q, impl_placeOf.mono _ _ _ _ h1, ?_⟩
    split at h2
    case isFalse => cases h2
    case isTrue hc =>
    rw [if_pos hc]
    cases hs : stepF tab q.1 q.2 s.f1 with
    | none => rw [hs] at h2; exact h2
    | some t2 => rw [hs] at h2; exact rsGo_mono k l _ _ _ h2
theorem impl_RunSteps.mono : ∀ a0 a1 k, LeO (impl_RunSteps.f k a0 a1) (impl_RunSteps.f (k + 1) a0 a1) := by
  intro a0 a1 k r h
  unfold impl_RunSteps.f at h ⊢
  obtain ⟨v, h1, h2⟩ := Option.bind_eq_some_iff.1 h
  refine Option.bind_eq_some_iff.2 ⟨v, h1, ?_⟩
  split at h2
  case isTrue hc => rw [if_pos hc]; exact h2
  case isFalse hc =>
  rw [if_neg hc]
  obtain ⟨tab, h3, h4⟩ := Option.bind_eq_some_iff.1 h2
  refine Option.bind_eq_some_iff.2 ⟨tab, impl_ownYard.mono _ _ _ h3, ?_⟩
  unfold impl_RunSteps.g at h4 ⊢
  split at h4
  case isTrue hc => rw [if_pos hc]; exact rsGo_mono k _ _ _ _ h4
  case isFalse => cases h4
theorem stepF_len {tab : List (List Int)} {i j dd : Int} {t2 : List (List Int)} (h : stepF tab i j dd = some t2) : t2.length = tab.length := by
  unfold stepF at h
  split at h
  · cases h
  split at h
  · injection h with h; rw [← h]; unfold mvCut; rw [List.length_set]
  split at h
  · cases h
  · injection h with h; rw [← h]; unfold mvTab mvCut; rw [List.length_set, List.length_set]
theorem impl_RunSteps.stp (gt n cap base k : Nat) (ok : Nat → Prop) (tab : List (List Int)) (b dd i j : Int) (w : World) (hn : tab.length = n) (h : Kd.S (Kd.slice 3 (Kd.int .i64)) 29 w base ok (.slice (some ⟨gt, 0, none⟩) n cap) tab) (hbase : base ≤ w.heap.size) (hfr : ∀ k, w.heap.size ≤ k → ok k) (hp : impl_placeOf.f k tab b = some (i, j)) (hi : i < (tab.length : Int)) (hj : 0 ≤ i → 0 ≤ j) (h4 : ∀ row, row ∈ tab → row.length ≤ 1000) :
    Calls Try.prog 31 #[.agg #[.slice (some ⟨gt, 0, none⟩) n cap], .agg #[.int .i64 b, .int .i64 dd]] w fun e w' => e = .returned (.bool (stepF tab i j dd).isSome) ∧ Kd.S (Kd.slice 3 (Kd.int .i64)) 29 w' base ok (.slice (some ⟨gt, 0, none⟩) n cap) ((stepF tab i j dd).getD tab) ∧ Below base w w' ∧ ∀ k, k < w.heap.size → ¬ ok k → w'.heap[k]? = w.heap[k]? := by
  subst hn
  exact impl_step.calls gt cap base k ok tab b dd i j w h hbase hfr hp hi hj h4
set_option maxHeartbeats 8000000 in
set_option maxRecDepth 100000 in
/-- THE CALL -/
theorem impl_RunSteps.calls (k : Nat) (A0_0 : Option Addr) (c0_0 : Nat) (l0_0 : List (List Int)) (A1 : Option Addr) (c1 : Nat) (l1 : List S51) (r1 : List (List Int)) (r2 : List Int) (r3 : Bool) (w : World) (hr0_0 : Kd.C (Kd.slice 3 (Kd.int .i64)) w A0_0 l0_0.length l0_0) (hc0_0 : l0_0.length ≤ c0_0) (hr1 : Kd.C k51 w A1 l1.length l1) (hc1 : l1.length ≤ c1) (h : impl_RunSteps.f k l0_0 l1 = some (r1, r2, r3)) :
    Calls Try.prog 10 #[.agg #[.slice A0_0 l0_0.length c0_0], .slice A1 l1.length c1] w fun e w' => ∃ v0_ v1_ : Value, e = .returned (.tuple #[.agg #[v0_], v1_, .bool r3]) ∧ Kd.S (Kd.slice 3 (Kd.int .i64)) 29 w' w.heap.size (fun k_ => some k_ ≠ (v1_ : Value).ownBlock) v0_ r1 ∧ Kd.R (Kd.int .i64) 3 w' w.heap.size (fun _ => True) v1_ r2 ∧ Below w.heap.size w w' := by
  have hu := Try.underlying28
  have hu2 := Try.underlying51
  have hln : l1.length ≤ 9223372036854775807 := hr1.2.1
  unfold impl_RunSteps.f at h
  obtain ⟨v, hv, h⟩ := Option.bind_eq_some_iff.1 h
  have HR0 := Aside0.mk hr0_0
  have HC0 := Aside0.mk hc0_0
  have HR1 := Aside0.mk hr1
  have HV := Aside0.mk hv
  have HB0 := Aside0.mk (Below.refl w.heap.size w)
  clear hr0_0 hc0_0 hr1 hv
  go_enter Try.func10, Try.ntmps10
  go_upto_region 1 with (first | ((with_reducible refine gate_dst (N := 2) rfl ?_); (try (refine gate_guard (by rfl) ?_; dsimp only)); refine box_event ?hg (N := 2) ?hd (cs := #[.slice A0_0 l0_0.length c0_0]) (t := 28) ?hr ?_; (case hd => rfl); (case hg => rfl); (case hr => first | (go_simp; done) | (go_simp; rfl)); intro gb hgb w1 hbox hb; have BK1 := Aside0.mk hbox; have HB1 := Aside0.mk (below_step (bel HB0) hb); clear hb hbox hgb) | ((with_reducible refine gate_dst (N := 4) rfl ?_); (try (refine gate_guard (by rfl) ?_; dsimp only)); refine box_event ?hg (N := 4) ?hd (cs := #[.slice none 0 0]) (t := 28) ?hr ?_; (case hd => rfl); (case hg => rfl); (case hr => first | (go_simp; done) | (go_simp; rfl)); intro gr hgr w2 hbox hb; have BK2 := Aside0.mk (blk_below BK1.out hb); have BR2 := Aside0.mk hbox; have GR := Aside0.mk (show w.heap.size ≤ gr by rw [hgr]; exact below_size HB1.out); have HB2 := Aside0.mk (below_step HB1.out hb); clear hb hbox hgr))
  clear BK1 HB1
  have hyb2 : w2.cell? ⟨gb, 0, none⟩ = some (.slice A0_0 l0_0.length c0_0) := (blk_cell BK2.out 0).trans rfl
  cases v with
  | false =>
    rw [if_pos (Or.inl rfl)] at h
    injection h with h
    injection h with h1 h
    injection h with h2 h3
    subst h1 h2 h3
    go_wp2_with (first | (go_at_call 29; refine (impl_IsValidYard.calls A0_0 c0_0 l0_0 _ _ (Kd.C_below HR0.out HB2.out) HC0.out HV.out).mono ?_; rintro e w3 ⟨rfl, hb⟩; have BR3 := Aside0.mk (blk_below BR2.out hb); have BK3 := Aside0.mk (blk_below BK2.out hb); have HB3 := Aside0.mk (below_step HB2.out hb); clear hb; have hcr3 : w3.cell? ⟨gr, 0, none⟩ = some (.slice none 0 0) := (blk_cell BR3.out 0).trans rfl; have hfr3 := blk_frozen BR3.out 0; have hcb3 : w3.cell? ⟨gb, 0, none⟩ = some (.slice A0_0 l0_0.length c0_0) := (blk_cell BK3.out 0).trans rfl))
    refine bodyPost_ret (results_ctt rfl _ _ gr 28 #[.slice none 0 0] (0, 0) _ rfl (by (with_reducible repeat (first | refine blk_drewN ?_ _ | refine blk_drew ?_ | refine blk_alloc ?_ _)); refine blk_put (cs := #[.slice none 0 0]) ?_ 0 _ rfl; (with_reducible repeat (first | refine blk_drewN ?_ _ | refine blk_drew ?_ | refine blk_alloc ?_ _)); exact BR3.out) Try.underlying28 rfl (by kernel_rfl)) rfl ?_
    exact ⟨_, _, rfl, Kd.S_nil _ _ _ _ _, Kd.R_nil _ _ _ _ _, below_set HB3.out GR.out⟩
  | true =>
  by_cases h60 : (l1.length : Int) > 60
  · rw [if_pos (Or.inr h60)] at h
    injection h with h
    injection h with h1 h
    injection h with h2 h3
    subst h1 h2 h3
    have h60b : decide (60 < (l1.length : Int)) = true := decide_eq_true h60
    have h60c : decide (60 < l1.length) = true := decide_eq_true (by omega)
    go_wp2_with (first | (go_at_call 29; refine (impl_IsValidYard.calls A0_0 c0_0 l0_0 _ _ (Kd.C_below HR0.out HB2.out) HC0.out HV.out).mono ?_; rintro e w3 ⟨rfl, hb⟩; have BR3 := Aside0.mk (blk_below BR2.out hb); have BK3 := Aside0.mk (blk_below BK2.out hb); have HB3 := Aside0.mk (below_step HB2.out hb); clear hb; have hcr3 : w3.cell? ⟨gr, 0, none⟩ = some (.slice none 0 0) := (blk_cell BR3.out 0).trans rfl; have hfr3 := blk_frozen BR3.out 0; have hcb3 : w3.cell? ⟨gb, 0, none⟩ = some (.slice A0_0 l0_0.length c0_0) := (blk_cell BK3.out 0).trans rfl))
    refine bodyPost_ret (results_ctt rfl _ _ gr 28 #[.slice none 0 0] (0, 0) _ rfl (by (with_reducible repeat (first | refine blk_drewN ?_ _ | refine blk_drew ?_ | refine blk_alloc ?_ _)); refine blk_put (cs := #[.slice none 0 0]) ?_ 0 _ rfl; (with_reducible repeat (first | refine blk_drewN ?_ _ | refine blk_drew ?_ | refine blk_alloc ?_ _)); exact BR3.out) Try.underlying28 rfl (by kernel_rfl)) rfl ?_
    exact ⟨_, _, rfl, Kd.S_nil _ _ _ _ _, Kd.R_nil _ _ _ _ _, below_set HB3.out GR.out⟩
  rw [if_neg (by rintro (h1 | h1); exact absurd h1 (by decide); exact h60 h1)] at h
  have h60b : decide (60 < (l1.length : Int)) = false := decide_eq_false h60
  have h60c : decide (60 < l1.length) = false := decide_eq_false (by omega)
  obtain ⟨tab0, hown, hg⟩ := Option.bind_eq_some_iff.1 h
  clear h
  unfold impl_RunSteps.g at hg
  split at hg
  case isFalse => cases hg
  case isTrue hpos =>
  have HOwn := Aside0.mk hown
  have HGo := Aside0.mk hg
  clear hown hg
  go_upto_region 4 with (first | (go_at_call 29; refine (impl_IsValidYard.calls A0_0 c0_0 l0_0 _ _ (Kd.C_below HR0.out HB2.out) HC0.out HV.out).mono ?_; rintro e w3 ⟨rfl, hb⟩; have BR3 := Aside0.mk (blk_below BR2.out hb); have BK3 := Aside0.mk (blk_below BK2.out hb); have HB3 := Aside0.mk (below_step HB2.out hb); clear hb; have hcr3 : w3.cell? ⟨gr, 0, none⟩ = some (.slice none 0 0) := (blk_cell BR3.out 0).trans rfl; have hfr3 := blk_frozen BR3.out 0; have hcb3 : w3.cell? ⟨gb, 0, none⟩ = some (.slice A0_0 l0_0.length c0_0) := (blk_cell BK3.out 0).trans rfl) | (go_at_call 30; refine (impl_ownYard.calls k _ _ l0_0 tab0 _ (Kd.C_below HR0.out HB3.out) HC0.out HOwn.out).mono ?_; rintro e w4 ⟨v0, rfl, hS, hb⟩; obtain ⟨gt, cap, e15, hgb, hgl, _⟩ := Kd.S_form hS (by omega); subst e15; have HS4 := Aside0.mk (Kd.S_lower hS (below_size HB3.out)); have BR4 := Aside0.mk (blk_below BR3.out hb); have HB4 := Aside0.mk (below_step HB3.out hb); clear hS hb hgb hgl))
  obtain ⟨n, hn⟩ : ∃ n : Nat, tab0.length = n := ⟨_, rfl⟩
  rw [hn] at HS4 ⊢
  have HN0 := Aside0.mk hn
  have HS5 := Aside0.mk (Kd.S_alloc HS4.out (.cells #[.slice (some ⟨gt, 0, none⟩) n cap] 28))
  have BY5 := Aside0.mk (blk_new w4 (.cells #[.slice (some ⟨gt, 0, none⟩) n cap] 28 (0, 0)))
  have BR5 := Aside0.mk (blk_alloc BR4.out (.cells #[.slice (some ⟨gt, 0, none⟩) n cap] 28))
  have HB5 := Aside0.mk (below_alloc HB4.out (.cells #[.slice (some ⟨gt, 0, none⟩) n cap] 28))
  have NRY := Aside0.mk (show gr ≠ w4.heap.size by have := blk_lt BR4.out; omega)
  have GY := Aside0.mk (show w.heap.size ≤ w4.heap.size from below_size HB4.out)
  clear HS4 BR4 HB4 hn
  generalize w4.alloc (.cells #[.slice (some ⟨gt, 0, none⟩) n cap] 28) = w5 at HS5 BY5 BR5 HB5 ⊢
  generalize w4.heap.size = gy at BY5 NRY GY ⊢
  go_wp2_with (first | ((with_reducible refine gate_dst (N := 22) rfl ?_); refine Kd.R_lit (Kd.int .i64) (w0 := w) w.heap.size 3 ?hg (N := 22) ?hd (xs := ([] : List Int)) (inner := []) (ok := fun _ => True) (okp := fun _ => True) ?hr ?hp (fun _ hk => hk) trivial (bel HB5) (below_size (bel HB5)) (by simp) ?_; (case hd => rfl); (case hg => rfl); (case hr => first | (go_simp; done) | (go_simp; rfl)); (case hp => exact (Reps.none _ _)); intro v22 w6 ho hb hg_ hnew_; have HT6 := Aside0.mk (Kd.S_mono (Kd.S_grown (Kd.S_bound HS5.out) hg_ (fun _ _ => by simp)) (ok' := fun k => True ∧ some k ≠ v22.ownBlock) (fun k hk => ⟨trivial, fun e => by obtain ⟨b, hb1, hb2⟩ := hnew_; rw [hb1] at e; injection e with e; have h3 := hk.2.2.1; omega⟩)); have HO6 := Aside0.mk ho; have HB6 := Aside0.mk hb; have BY6 := Aside0.mk (blk_grown BY5.out hg_ (by simp)); have BR6 := Aside0.mk (blk_grown BR5.out hg_ (by simp)); clear ho hb hg_ hnew_))
  clear HS5 BY5 BR5 HB5
  go_loopw [8, 25] (fun v8 v25 wr => ∃ (i : Nat) (tab : List (List Int)) (rem : List Int), v25 = .int .i64 (i : Int) ∧ Aside0 (i ≤ l1.length) ∧ Aside0 (rsGo k (l1.drop i) tab rem = some (r1, r2, r3)) ∧ Aside0 (tab.length = n) ∧ Aside0 (Kd.S (Kd.slice 3 (Kd.int .i64)) 29 wr w.heap.size (fun k => True ∧ some k ≠ v8.ownBlock) (.slice (some ⟨gt, 0, none⟩) n cap) tab) ∧ Aside0 (Kd.R (Kd.int .i64) 3 wr w.heap.size (fun _ => True) v8 rem) ∧ Aside0 (wr.heap[gy]? = some (.cells #[.slice (some ⟨gt, 0, none⟩) n cap] 28 (0, 0))) ∧ Aside0 (wr.heap[gr]? = some (.cells #[.slice none 0 0] 28 (0, 0))) ∧ Aside0 (Below w.heap.size w wr)) (fun v8 v25 wr => l1.length - (intOf v25).toNat)
  case atStart => exact ⟨0, tab0, [], rfl, ⟨Nat.zero_le _⟩, HGo, HN0, HT6, HO6, BY6, BR6, HB6⟩
  case round =>
    clear HT6 HO6 BY6 BR6 HB6 HGo HN0
    obtain ⟨i, tab, rem, rfl, HLe, HG, HN, HT, HO, BY, BR, HB⟩ := hrel
    by_cases hlt : i < l1.length
    · have hltb : decide (i < l1.length) = true := decide_eq_true hlt
      have hdrop : l1.drop i = rd_T51 l1 (i : Int) :: l1.drop (i + 1) := by
        unfold rd_T51
        rw [Int.toNat_natCast, List.drop_eq_getElem_cons hlt, Go.Proofs.Ytlnihlmlkdhiaaa.U.getD_at _ _ _ hlt]
      have hG := HG.out
      rw [hdrop, rsGo] at hG
      obtain ⟨q, hq1, hq2⟩ := Option.bind_eq_some_iff.1 hG
      split at hq2
      case isFalse => cases hq2
      case isTrue hcond =>
      obtain ⟨ad, eA, hx0, hx1⟩ := at_T51 HR1.out (i : Int) (by omega) (by omega)
      subst eA
      replace hx0 := cel HB hx0
      replace hx1 := cel HB hx1
      rw [Int.toNat_natCast] at hx0 hx1
      generalize rd_T51 l1 (i : Int) = s at *
      obtain ⟨b, dd⟩ := s
      dsimp only at hx0 hx1 hq1 hq2
      have HP := Aside0.mk hq1
      have HQ := Aside0.mk hq2
      have HCn := Aside0.mk hcond
      clear hG hdrop hq1 hq2 hcond HG
      go_upto_region 8 with (fail)
      clear hx0 hx1
      have BY1 := Aside0.mk (blk_alloc BY.out (.cells #[.int .i64 b, .int .i64 dd] 51))
      have BR1 := Aside0.mk (blk_alloc BR.out (.cells #[.int .i64 b, .int .i64 dd] 51))
      have BS1 := Aside0.mk (blk_new wr (.cells #[.int .i64 b, .int .i64 dd] 51 (0, 0)))
      have HB1 := Aside0.mk (below_alloc HB.out (.cells #[.int .i64 b, .int .i64 dd] 51))
      have HO1 := Aside0.mk (Kd.R_alloc HO.out (.cells #[.int .i64 b, .int .i64 dd] 51))
      have HT1 := Aside0.mk (Kd.S_alloc HT.out (.cells #[.int .i64 b, .int .i64 dd] 51))
      have GS := Aside0.mk (show w.heap.size ≤ wr.heap.size from below_size HB.out)
      clear HT HO BY BR HB
      generalize wr.alloc (.cells #[.int .i64 b, .int .i64 dd] 51) = wq at HT1 HO1 BY1 BR1 BS1 HB1 ⊢
      generalize wr.heap.size = gs at BS1 GS ⊢
      have HT2 := Aside0.mk (Kd.S_mono (Kd.S_types (Kd.S_types (Kd.S_types HT1.out BY1.out (by decide)) BR1.out (by decide)) BS1.out (by decide)) (ok' := fun k => some k ≠ u8.ownBlock ∧ k ≠ gy ∧ k ≠ gr ∧ k ≠ gs) (fun k hk => ⟨hk.1.1.1.2, hk.1.1.2, hk.1.2, hk.2⟩))
      clear HT1
      have hcy : wq.cell? ⟨gy, 0, none⟩ = some (.slice (some ⟨gt, 0, none⟩) n cap) := (blk_cell BY1.out 0).trans rfl
      have hcs0 : wq.cell? ⟨gs, 0, none⟩ = some (.int .i64 b) := (blk_cell BS1.out 0).trans rfl
      have hcs1 : wq.cell? ⟨gs, 1, none⟩ = some (.int .i64 dd) := (blk_cell BS1.out 1).trans rfl
      have HST := Aside0.mk (impl_RunSteps.stp gt n cap w.heap.size k _ tab b dd q.1 q.2 wq HN.out HT2.out (below_size HB1.out) (fun k hk => ⟨fun e => absurd (Kd.R_lt HO1.out k e.symm) (Nat.not_lt.mpr hk), fun e => absurd (blk_lt BY1.out) (by omega), fun e => absurd (blk_lt BR1.out) (by omega), fun e => absurd (blk_lt BS1.out) (by omega)⟩) HP.out HCn.out.1 HCn.out.2.1 HCn.out.2.2.1)
      obtain ⟨t, ht⟩ : ∃ t, t = stepF tab q.1 q.2 dd := ⟨_, rfl⟩
      rw [← ht] at HST HQ
      cases t with
      | none =>
        have hQ := HQ.out
        injection hQ with hQ
        injection hQ with h1 hQ
        injection hQ with h2 h3
        subst h1 h2 h3
        clear ht
        go_wp2_with (first | (go_at_call 31; refine HST.out.mono ?_; rintro e w7 ⟨rfl, hS, hb, hk⟩; have BR7 := Aside0.mk ((hk gr (blk_lt BR1.out) (fun h => h.2.2.1 rfl)).trans BR1.out); have HB7 := Aside0.mk (HB1.out.trans hb); clear hS hb hk; have hcr7 : w7.cell? ⟨gr, 0, none⟩ = some (.slice none 0 0) := (blk_cell BR7.out 0).trans rfl; have hfr7 := blk_frozen BR7.out 0))
        refine bodyPost_ret (results_ctt rfl _ _ gr 28 #[.slice none 0 0] (0, 0) _ rfl (by (with_reducible repeat (first | refine blk_drewN ?_ _ | refine blk_drew ?_ | refine blk_alloc ?_ _)); refine blk_put (cs := #[.slice none 0 0]) ?_ 0 _ rfl; (with_reducible repeat (first | refine blk_drewN ?_ _ | refine blk_drew ?_ | refine blk_alloc ?_ _)); exact BR7.out) Try.underlying28 rfl (by kernel_rfl)) rfl ?_
        exact ⟨_, _, rfl, Kd.S_nil _ _ _ _ _, Kd.R_nil _ _ _ _ _, below_set HB7.out GR.out⟩
      | some t2 =>
        have HLt := Aside0.mk ((stepF_len ht.symm).trans HN.out)
        clear ht
        by_cases hdd : dd = -1
        · have HGo := Aside0.mk (show rsGo k (l1.drop (i + 1)) t2 (rem ++ [b]) = some (r1, r2, r3) from by have h := HQ.out; dsimp only at h; rwa [if_pos hdd] at h)
          have hdb : (dd == -1) = true := beq_iff_eq.mpr hdd
          have hdc : decide (dd = -1) = true := decide_eq_true hdd
          clear HQ hdd
          go_wp2_with (first | (go_at_call 31; refine HST.out.mono ?_; rintro e w7 ⟨rfl, hS, hb, hk⟩; have BR7 := Aside0.mk ((hk gr (blk_lt BR1.out) (fun h => h.2.2.1 rfl)).trans BR1.out); have BY7 := Aside0.mk ((hk gy (blk_lt BY1.out) (fun h => h.2.1 rfl)).trans BY1.out); have BS7 := Aside0.mk ((hk gs (blk_lt BS1.out) (fun h => h.2.2.2 rfl)).trans BS1.out); have HB7 := Aside0.mk (HB1.out.trans hb); have HT7 := Aside0.mk hS; have HO7 := Aside0.mk (Kd.R_mono (Kd.R_step (Kd.R_tight rfl HO1.out) (fun k hk1 hlt_ => hk k hlt_ (fun h => h.1 hk1))) (ok' := fun _ => True) (fun _ _ => trivial)); clear hS hb hk; have hcs70 : w7.cell? ⟨gs, 0, none⟩ = some (.int .i64 b) := (blk_cell BS7.out 0).trans rfl; have hcs71 : w7.cell? ⟨gs, 1, none⟩ = some (.int .i64 dd) := (blk_cell BS7.out 1).trans rfl) | ((with_reducible refine gate_builtin (b := .append) (xs := #[.tmp 37, .tmp 40]) rfl ?_); at_builtin; refine Kd.R_append (Kd.int .i64) (w0 := w) w.heap.size rfl (.tmp 37) (.tmp 40) 29 3 (.int .i64 0) 8 rfl Try.underlying29 info3 rfl (by decide) (by omega) u8 rem b [.int .i64 b] (fun _ => True) (fun _ => False) rfl (by show Value.slice (some ⟨w7.heap.size, 0, none⟩) 1 1 = _; simp) ?aP (fun _ hk => hk.elim) ?aF ?aO ?aB ?aS ?aL ?_; (case aP => exact rfl); (case aB => exact bel HB7); (case aF => exact fun _ _ => trivial); (case aO => exact HO7.out); (case aS => exact below_size (bel HB7)); (case aL => have := HCn.out.2.2.2; omega); intro v47 w9 ho hb hg hat; have n0_ := Aside0.mk (Kd.S_mono (Kd.S_after (ok := fun k => k ≠ gy ∧ k ≠ gr ∧ k ≠ gs) (Kd.S_mono HT7.out (fun k hk => ⟨hk.2, hk.1⟩)) hg hat) (ok' := fun k => True ∧ some k ≠ v47.ownBlock) (fun k hk => ⟨trivial, hk.2⟩)); have n2_ := Aside0.mk (blk_grown BY7.out hg (Kd.R_ne HO7.out BY7.out (by decide))); have n4_ := Aside0.mk (blk_grown BR7.out hg (Kd.R_ne HO7.out BR7.out (by decide))); have n1_ := Aside0.mk ho; have n3_ := Aside0.mk hb; clear HT7 HO7 BS7 HB7 BY7 BR7 ho hb hg hat))
          go_roundw
          case rel => exact ⟨i + 1, t2, rem ++ [b], by go_num, ⟨hlt⟩, HGo, HLt, n0_, n1_, n2_, n4_, n3_⟩
          case measure => simp [intOf]; omega
        · have HGo := Aside0.mk (show rsGo k (l1.drop (i + 1)) t2 rem = some (r1, r2, r3) from by have h := HQ.out; dsimp only at h; rwa [if_neg hdd] at h)
          clear HQ
          have hdb : (dd == -1) = false := beq_eq_false_iff_ne.mpr hdd
          have hdc : decide (dd = -1) = false := decide_eq_false hdd
          go_wp2_with (first | (go_at_call 31; refine HST.out.mono ?_; rintro e w7 ⟨rfl, hS, hb, hk⟩; have BR7 := Aside0.mk ((hk gr (blk_lt BR1.out) (fun h => h.2.2.1 rfl)).trans BR1.out); have BY7 := Aside0.mk ((hk gy (blk_lt BY1.out) (fun h => h.2.1 rfl)).trans BY1.out); have BS7 := Aside0.mk ((hk gs (blk_lt BS1.out) (fun h => h.2.2.2 rfl)).trans BS1.out); have HB7 := Aside0.mk (HB1.out.trans hb); have HT7 := Aside0.mk hS; have HO7 := Aside0.mk (Kd.R_mono (Kd.R_step (Kd.R_tight rfl HO1.out) (fun k hk1 hlt_ => hk k hlt_ (fun h => h.1 hk1))) (ok' := fun _ => True) (fun _ _ => trivial)); clear hS hb hk; have hcs70 : w7.cell? ⟨gs, 0, none⟩ = some (.int .i64 b) := (blk_cell BS7.out 0).trans rfl; have hcs71 : w7.cell? ⟨gs, 1, none⟩ = some (.int .i64 dd) := (blk_cell BS7.out 1).trans rfl))
          go_roundw
          case rel => exact ⟨i + 1, t2, rem, by go_num, ⟨hlt⟩, HGo, HLt, ⟨Kd.S_mono HT7.out (fun k hk => ⟨trivial, hk.1⟩)⟩, HO7, BY7, BR7, HB7⟩
          case measure => simp [intOf]; omega
    · have hltb : decide (i < l1.length) = false := decide_eq_false hlt
      have hG := HG.out
      rw [List.drop_of_length_le (by omega), rsGo] at hG
      injection hG with hG
      injection hG with h1 hG
      injection hG with h2 h3
      subst h1 h2 h3
      have hcy : wr.cell? ⟨gy, 0, none⟩ = some (.slice (some ⟨gt, 0, none⟩) n cap) := (blk_cell BY.out 0).trans rfl
      have hcr : wr.cell? ⟨gr, 0, none⟩ = some (.slice none 0 0) := (blk_cell BR.out 0).trans rfl
      have hfr := blk_frozen BR.out 0
      clear HG
      go_wp2
      refine bodyPost_ret (results_ctt rfl _ _ gr 28 #[.slice (some ⟨gt, 0, none⟩) n cap] (0, 0) _ rfl (by (with_reducible repeat (first | refine blk_drewN ?_ _ | refine blk_drew ?_ | refine blk_alloc ?_ _)); refine blk_put (cs := #[.slice none 0 0]) ?_ 0 _ rfl; (with_reducible repeat (first | refine blk_drewN ?_ _ | refine blk_drew ?_ | refine blk_alloc ?_ _)); exact BR.out) Try.underlying28 rfl (by kernel_rfl)) rfl ?_
      refine ⟨_, _, rfl, ?_, ?_, below_set HB.out GR.out⟩
      · exact Kd.S_mono (Kd.S_far (p := ⟨gr, 0, none⟩) (Kd.S_types (Kd.S_bound HT.out) BR.out (by decide)) (fun k hk => hk.2) _) (fun k hk => hk.1.1.2)
      · exact Kd.R_mono (Kd.R_far (p := ⟨gr, 0, none⟩) (Kd.R_types (Kd.R_bound HO.out) BR.out (by decide)) (fun k hk => hk.2) _) (fun _ _ => trivial)


end Go.Proofs.Ytlnihlmlkdhiaaa.P
