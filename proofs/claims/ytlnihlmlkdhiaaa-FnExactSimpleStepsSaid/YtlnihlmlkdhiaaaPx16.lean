-- Written by a program of this session over the translation (a variant of the printer, see wip/gen); Lean checks it.
import Derived.Test.YtlnihlmlkdhiaaaPx0
import Derived.Test.YtlnihlmlkdhiaaaPx13
import Derived.Test.YtlnihlmlkdhiaaaPx14
import Derived.Test.YtlnihlmlkdhiaaaPx15
import Derived.Test.YtlnihlmlkdhiaaaU
import Derived.StillTailTactics
namespace Go.Proofs.Ytlnihlmlkdhiaaa.P
open Go.RowKit Go.Proofs.YtlnihlmlkdhiaaaW.PrintWords Go.Proofs.YtlnihlmlkdhiaaaW.PrintLast Go.Proofs.YtlnihlmlkdhiaaaW.PrintMore
attribute [local go_sem] Go.Proofs.Ytlnihlmlkdhiaaa.V.isSome_setCell max2_int min2_int max_two min_two max_three min_three max_four min_four   -- for this text's walks alone
set_option linter.unusedVariables false
set_option linter.unusedSimpArgs false

/-! ### impl_Yard_step: function 31 -/
/-- What a step makes of a table; none: it cannot be made. i, j: where the container lies. -/
def stepF (tab : List (List Int)) (i j dd : Int) : Option (List (List Int)) :=
  if i < 0 ∨ ¬ j = ((tab.getD i.toNat []).length : Int) - 1 then none
  else if dd = -1 then some (mvCut tab i.toNat)
  else if ¬ (0 ≤ dd ∧ dd ≤ (tab.length : Int) - 1) ∨ dd = i ∨ ((tab.getD dd.toNat []).length : Int) = 4 then none
  else some (mvTab tab i.toNat dd.toNat)
theorem stepF_len {tab : List (List Int)} {i j dd : Int} {t2 : List (List Int)} (h : stepF tab i j dd = some t2) : t2.length = tab.length := by
  unfold stepF at h
  split at h
  · cases h
  split at h
  · injection h with h; rw [← h]; unfold mvCut; rw [List.length_set]
  split at h
  · cases h
  · injection h with h; rw [← h]; unfold mvTab mvCut; rw [List.length_set, List.length_set]
set_option maxHeartbeats 8000000 in
set_option maxRecDepth 100000 in
/-- THE CALL -/
theorem impl_step.calls (gt cap base k : Nat) (ok : Nat → Prop) (tab : List (List Int)) (b dd i j : Int) (w : World) (h : Kd.S (Kd.slice 3 (Kd.int .i64)) 29 w base ok (.slice (some ⟨gt, 0, none⟩) tab.length cap) tab) (hbase : base ≤ w.heap.size) (hfr : ∀ k, w.heap.size ≤ k → ok k) (hp : impl_placeOf.f k tab b = some (i, j)) (hi : i < (tab.length : Int)) (hj : 0 ≤ i → 0 ≤ j) (h4 : ∀ row, row ∈ tab → row.length ≤ 1000) :
    Calls Try.prog 31 #[.agg #[.slice (some ⟨gt, 0, none⟩) tab.length cap], .agg #[.int .i64 b, .int .i64 dd]] w fun e w' => e = .returned (.bool (stepF tab i j dd).isSome) ∧ Kd.S (Kd.slice 3 (Kd.int .i64)) 29 w' base ok (.slice (some ⟨gt, 0, none⟩) tab.length cap) ((stepF tab i j dd).getD tab) ∧ Below base w w' ∧ ∀ k, k < w.heap.size → ¬ ok k → w'.heap[k]? = w.heap[k]? := by
  have hu := Try.underlying28
  have hu2 := Try.underlying51
  have hn5 : tab.length ≤ 9223372036854775807 := (Kd.S_reads' h).2.2.2.1
  have hgt : base ≤ gt := Kd.S_base h gt (by simp [Value.ownBlock])
  have hokgt : ok gt := (Kd.S_R h).1 gt (by simp [Value.ownBlock])
  have HS0 := Aside0.mk h
  have HB0 := Aside0.mk (Below.refl base w)
  have HG := Aside0.mk hgt
  have HOG := Aside0.mk hokgt
  have HFr := Aside0.mk hfr
  have HBs := Aside0.mk hbase
  have H4 := Aside0.mk h4
  have HP := Aside0.mk hp
  have HI := Aside0.mk hi
  have HJ := Aside0.mk hj
  clear h hgt hokgt hfr hbase h4 hp hi hj
  go_enter Try.func31, Try.ntmps31
  go_upto_region 1 with (first | ((with_reducible refine gate_dst (N := 2) rfl ?_); (try (refine gate_guard (by rfl) ?_; dsimp only)); refine box_event ?hg (N := 2) ?hd (cs := #[.slice (some ⟨gt, 0, none⟩) tab.length cap]) (t := 28) ?hr ?_; (case hd => rfl); (case hg => rfl); (case hr => first | (go_simp; done) | (go_simp; rfl)); intro gb hgb w1 hbox hb; have HS1 := Aside0.mk (Kd.S_below HS0.out hb); have BK1 := Aside0.mk hbox; have HB1 := Aside0.mk (hb.mono HBs.out); have HK1 := Aside0.mk (show w.heap.size ≤ w1.heap.size ∧ ∀ k, k < w.heap.size → w1.heap[k]? = w.heap[k]? from ⟨hb.size, fun k hk => hb.block k hk⟩); have HGb := Aside0.mk (show w.heap.size ≤ gb by rw [hgb]; exact Nat.le_refl _); clear hb hbox hgb) | ((with_reducible refine gate_dst (N := 3) rfl ?_); (try (refine gate_guard (by rfl) ?_; dsimp only)); refine box_event ?hg (N := 3) ?hd (cs := #[.int .i64 b, .int .i64 dd]) (t := 51) ?hr ?_; (case hd => rfl); (case hg => rfl); (case hr => first | (go_simp; done) | (go_simp; rfl)); intro gs hgs w2 hbox hb; have HS2 := Aside0.mk (Kd.S_below HS1.out hb); have BK2 := Aside0.mk (blk_below BK1.out hb); have BS2 := Aside0.mk hbox; have HB2 := Aside0.mk (HB1.out.trans (hb.mono (Nat.le_trans HBs.out HB1.out.size))); have HK2 := Aside0.mk (show w.heap.size ≤ w2.heap.size ∧ ∀ k, k < w.heap.size → w2.heap[k]? = w.heap[k]? from ⟨Nat.le_trans HK1.out.1 hb.size, fun k hk => (hb.block k (Nat.lt_of_lt_of_le hk HK1.out.1)).trans (HK1.out.2 k hk)⟩); have HGs := Aside0.mk (show w.heap.size ≤ gs by rw [hgs]; exact HK1.out.1); clear hb hbox hgs))
  have hyd2 : w2.cell? ⟨gb, 0, none⟩ = some (.slice (some ⟨gt, 0, none⟩) tab.length cap) := (blk_cell BK2.out 0).trans rfl
  have hst20 : w2.cell? ⟨gs, 0, none⟩ = some (.int .i64 b) := (blk_cell BS2.out 0).trans rfl
  go_upto_region 2 with (first | (go_at_call 39; refine (impl_placeOf.calls k _ _ tab b i j _ (Kd.S_reads' HS2.out).2.2 (Kd.S_reads' HS2.out).2.1 HP.out).mono ?_; rintro e w3 ⟨rfl, hb⟩; have HS3 := Aside0.mk (Kd.S_below HS2.out hb); have BK3 := Aside0.mk (blk_below BK2.out hb); have BS3 := Aside0.mk (blk_below BS2.out hb); have HB3 := Aside0.mk (HB2.out.trans (hb.mono (Nat.le_trans HBs.out HB2.out.size))); have HK3 := Aside0.mk (show w.heap.size ≤ w3.heap.size ∧ ∀ k, k < w.heap.size → w3.heap[k]? = w.heap[k]? from ⟨Nat.le_trans HK2.out.1 hb.size, fun k hk => (hb.block k (Nat.lt_of_lt_of_le hk HK2.out.1)).trans (HK2.out.2 k hk)⟩); clear hb))
  clear hyd2 hst20 HS1 BK1 HB1 HK1 HS2 BK2 BS2 HB2 HK2
  by_cases hneg : i < 0
  · have hnb : decide (i < 0) = true := decide_eq_true hneg
    have e : stepF tab i j dd = none := by unfold stepF; rw [if_pos (Or.inl hneg)]
    go_wp2
    go_ret
    (try rw [e])
    exact ⟨rfl, HS3.out, HB3.out, fun k hk _ => HK3.out.2 k hk⟩
  have hnb : decide (i < 0) = false := decide_eq_false hneg
  obtain ⟨f, rfl⟩ := Int.eq_ofNat_of_zero_le (show 0 ≤ i by omega)
  have hf : f < tab.length := by have := HI.out; omega
  have hfb : decide (f < tab.length) = true := decide_eq_true hf
  have hfi : (f : Int) < (tab.length : Int) := by omega
  obtain ⟨A3, c3, oki3, hcel3, hR3, _, _⟩ := impl_moveTop.elem HS3.out f hf
  clear hR3
  obtain ⟨row, hrow⟩ : ∃ r : List Int, r = tab.getD f [] := ⟨_, rfl⟩
  rw [← hrow] at hcel3
  have HRow := Aside0.mk hrow
  have hrl : row.length ≤ 1000 := H4.out row (by rw [hrow, Go.Proofs.Ytlnihlmlkdhiaaa.U.getD_at _ _ _ hf]; exact List.getElem_mem hf)
  clear hrow
  have hwm : IntKind.i64.wrap ((row.length : Int) - 1) = (row.length : Int) - 1 := (i64_w _).trans (Go.Proofs.Ytlnihlmlkdhiaaa.U.wr (by omega) (by omega))
  have hyd3 : w3.cell? ⟨gb, 0, none⟩ = some (.slice (some ⟨gt, 0, none⟩) tab.length cap) := (blk_cell BK3.out 0).trans rfl
  have hst3 : w3.cell? ⟨gs, 1, none⟩ = some (.int .i64 dd) := (blk_cell BS3.out 1).trans rfl
  by_cases hjm : j = (row.length : Int) - 1
  case neg =>
    have hjb : (j != (row.length : Int) - 1) = true := bne_iff_ne.mpr hjm
    have e : stepF tab (f : Int) j dd = none := by unfold stepF; rw [if_pos (Or.inr (by rw [Int.toNat_natCast, ← HRow.out]; exact hjm))]
    go_wp2
    go_ret
    (try rw [e])
    exact ⟨rfl, HS3.out, HB3.out, fun k hk _ => HK3.out.2 k hk⟩
  subst hjm
  have hjb : ((row.length : Int) - 1 != (row.length : Int) - 1) = false := by simp
  have hm1 : row.length ≤ 1000 := hrl
  have hjp : 0 ≤ (row.length : Int) - 1 := HJ.out (by omega)
  obtain ⟨m, hm⟩ : ∃ m : Nat, row.length = m + 1 := ⟨row.length - 1, by omega⟩
  have HM := Aside0.mk hm
  clear hm
  have hwi : stepF tab (f : Int) ((row.length : Int) - 1) dd = if dd = -1 then some (mvCut tab f) else if ¬ (0 ≤ dd ∧ dd ≤ (tab.length : Int) - 1) ∨ dd = (f : Int) ∨ ((tab.getD dd.toNat []).length : Int) = 4 then none else some (mvTab tab f dd.toNat) := by
    unfold stepF
    rw [Int.toNat_natCast, if_neg (by rw [← HRow.out]; omega)]
  by_cases hd1 : dd = -1
  · subst hd1
    have e : stepF tab (f : Int) ((row.length : Int) - 1) (-1) = some (mvCut tab f) := by rw [hwi, if_pos rfl]
    have He := Aside0.mk e
    clear e hwi
    go_upto_region 5 with (fail)
    clear hyd3 hst3 hcel3 hwm
    have HS4 := Aside0.mk (Kd.S_drew HS3.out)
    have hcd := impl_moveTop.elem HS4.out f hf
    obtain ⟨A4, c4, oki4, hcel4, hR4, _, hst4⟩ := hcd
    have hfz4 := (hst4 _ _ _ (World.grownBy.refl _ _) (Kd.R_mono hR4 (fun _ hk => Or.inl hk))).2.1
    have hmc : m ≤ c4 := by
      have h1 := (Kd.R_reads' hR4).2.1
      have h2 := HM.out
      rw [← HRow.out] at h1
      omega
    have hcut4 := impl_moveTop.cut HS4.out (f : Int) (by omega) (by omega) (m := m) (by rw [Int.toNat_natCast]; exact hcel4) (by rw [Int.toNat_natCast, ← HRow.out]; have := HM.out; omega)
    rw [Int.toNat_natCast] at hcut4
    rw [← HRow.out] at hcel4 hcut4
    clear hR4 hst4
    have hmb : decide (m ≤ c4) = true := decide_eq_true hmc
    have hmi : (m : Int) ≤ (c4 : Int) := by omega
    have hmj : (row.length : Int) - 1 = (m : Int) := by have := HM.out; omega
    have HCut := Aside0.mk hcut4
    have HFz := Aside0.mk hfz4
    have HCel := Aside0.mk hcel4
    have hcd3 : w3.cell? ⟨gt, f, none⟩ = some (.slice A4 row.length c4) := hcel4
    have hyd3 : w3.cell? ⟨gb, 0, none⟩ = some (.slice (some ⟨gt, 0, none⟩) tab.length cap) := (blk_cell BK3.out 0).trans rfl
    have HB4 := Aside0.mk (show Below base w w3.drew from HB3.out.trans ((below_drew1 (Below.refl w3.heap.size w3)).mono (Nat.le_trans HBs.out HB3.out.size)))
    have HK4 := Aside0.mk (show ∀ k, k < w.heap.size → w3.drew.heap[k]? = w.heap[k]? from HK3.out.2)
    clear hcel4 hfz4 hcut4
    have He2 := He.out
    rw [hmj] at He2
    have He3 := Aside0.mk He2
    clear He2
    rw [hmj]
    go_still_tail 11, (by kernel_rfl)
    clear hcd3 hyd3
    change wpList _ _ _ _ _ w3.drew
    generalize w3.drew = w4 at HS4 HB4 HK4 HCut HCel HFz ⊢
    have hcel4 := HCel.out
    have hfz4 := HFz.out
    go_wp2
    go_ret
    (first | rw [He3.out] | rw [He.out])
    have e1 : mvCut tab f = tab.set f (row.take m) := by
      unfold mvCut
      rw [← HRow.out, show row.length - 1 = m by have := HM.out; omega]
    refine ⟨rfl, ?_, HB4.out.setCell (p := ⟨gt, f, none⟩) HG.out _, fun k hk hno => (Below.heap_setCell w4 ⟨gt, f, none⟩ _ k (fun e => hno (by rw [show k = gt from e]; exact HOG.out))).trans (HK4.out k hk)⟩
    show Kd.S _ _ _ _ _ _ (mvCut tab f)
    rw [e1]
    exact HCut.out
  have hd1b : decide (dd = -1) = false := decide_eq_false hd1
  have hd1c : (dd == -1) = false := beq_eq_false_iff_ne.mpr hd1
  have hwt : IntKind.i64.wrap ((tab.length : Int) - 1) = (tab.length : Int) - 1 := (i64_w _).trans (Go.Proofs.Ytlnihlmlkdhiaaa.U.wr (by omega) (by omega))
  rw [if_neg hd1] at hwi
  by_cases hin : 0 ≤ dd ∧ dd ≤ (tab.length : Int) - 1
  case neg =>
    have e : stepF tab (f : Int) ((row.length : Int) - 1) dd = none := by rw [hwi, if_pos (Or.inl hin)]
    have HW := Aside0.mk (show impl_within.f dd 0 ((tab.length : Int) - 1) = some false by
      unfold impl_within.f
      by_cases h0 : dd ≥ 0
      · rw [if_pos h0, decide_eq_false (by omega)]
      · rw [if_neg h0])
    have He := Aside0.mk e
    clear e hwi
    go_wp2_with (first | (go_at_call 47; refine (impl_within.calls _ _ _ _ _ HW.out).mono ?_; rintro e w4 ⟨rfl, hd⟩; have HS4 := Aside0.mk (Kd.S_below HS3.out hd.below); have HB4 := Aside0.mk (HB3.out.trans (hd.below.mono (Nat.le_trans HBs.out HB3.out.size))); have HK4 := Aside0.mk (show ∀ k, k < w.heap.size → w4.heap[k]? = w.heap[k]? from fun k hk => (hd.below.block k (Nat.lt_of_lt_of_le hk HK3.out.1)).trans (HK3.out.2 k hk)); clear hd))
    go_ret
    (try rw [He.out])
    exact ⟨rfl, HS4.out, HB4.out, fun k hk _ => HK4.out k hk⟩
  obtain ⟨t, rfl⟩ := Int.eq_ofNat_of_zero_le hin.1
  have htl : t < tab.length := by omega
  have htb : decide (t < tab.length) = true := decide_eq_true htl
  have hti : (t : Int) < (tab.length : Int) := by omega
  have HTt := Aside0.mk htl
  clear htl
  have HW := Aside0.mk (show impl_within.f (t : Int) 0 ((tab.length : Int) - 1) = some true by
    unfold impl_within.f
    rw [if_pos (by omega), decide_eq_true hin.2])
  rw [Int.toNat_natCast] at hwi
  obtain ⟨rt, hrt⟩ : ∃ r : List Int, r = tab.getD t [] := ⟨_, rfl⟩
  rw [← hrt] at hwi
  have HRt := Aside0.mk hrt
  have hrt4 : rt.length ≤ 1000 := H4.out rt (by rw [hrt, Go.Proofs.Ytlnihlmlkdhiaaa.U.getD_at _ _ _ HTt.out]; exact List.getElem_mem HTt.out)
  clear hrt
  have HIn := Aside0.mk hin
  clear hin
  by_cases htf : (t : Int) = (f : Int)
  case pos =>
    have htfb : decide ((t : Int) = (f : Int)) = true := decide_eq_true htf
    have htfc : ((t : Int) == (f : Int)) = true := beq_iff_eq.mpr htf
    have e : stepF tab (f : Int) ((row.length : Int) - 1) (t : Int) = none := by rw [hwi, if_pos (Or.inr (Or.inl htf))]
    have He := Aside0.mk e
    have htn : t = f := by omega
    have htd : decide (t = f) = true := decide_eq_true htn
    clear e hwi htf htn
    go_wp2_with (first | (go_at_call 47; refine (impl_within.calls _ _ _ _ _ HW.out).mono ?_; rintro e w4 ⟨rfl, hd⟩; have HS4 := Aside0.mk (Kd.S_below HS3.out hd.below); have BK4 := Aside0.mk (blk_below BK3.out hd.below); have BS4 := Aside0.mk (blk_below BS3.out hd.below); have HB4 := Aside0.mk (HB3.out.trans (hd.below.mono (Nat.le_trans HBs.out HB3.out.size))); have HK4 := Aside0.mk (show w.heap.size ≤ w4.heap.size ∧ ∀ k, k < w.heap.size → w4.heap[k]? = w.heap[k]? from ⟨Nat.le_trans HK3.out.1 hd.below.size, fun k hk => (hd.below.block k (Nat.lt_of_lt_of_le hk HK3.out.1)).trans (HK3.out.2 k hk)⟩); clear hd; have hyd4 : w4.cell? ⟨gb, 0, none⟩ = some (.slice (some ⟨gt, 0, none⟩) tab.length cap) := (blk_cell BK4.out 0).trans rfl; have hst4 : w4.cell? ⟨gs, 1, none⟩ = some (.int .i64 (t : Int)) := (blk_cell BS4.out 1).trans rfl; obtain ⟨A5, c5, oki5, hcel5, hR5, _, _⟩ := impl_moveTop.elem HS4.out t HTt.out; rw [← HRt.out] at hcel5; clear hR5))
    go_ret
    (try rw [He.out])
    exact ⟨rfl, HS4.out, HB4.out, fun k hk _ => HK4.out.2 k hk⟩
  have htfb : decide ((t : Int) = (f : Int)) = false := decide_eq_false htf
  have htfc : ((t : Int) == (f : Int)) = false := beq_eq_false_iff_ne.mpr htf
  have htd : decide (t = f) = false := decide_eq_false (by omega)
  by_cases hr4 : (rt.length : Int) = 4
  case pos =>
    have hr4b : decide ((rt.length : Int) = 4) = true := decide_eq_true hr4
    have hr4c : ((rt.length : Int) == 4) = true := beq_iff_eq.mpr hr4
    have hr4d : decide (rt.length = 4) = true := decide_eq_true (by omega)
    have e : stepF tab (f : Int) ((row.length : Int) - 1) (t : Int) = none := by rw [hwi, if_pos (Or.inr (Or.inr hr4))]
    have He := Aside0.mk e
    clear e hwi hr4
    go_wp2_with (first | (go_at_call 47; refine (impl_within.calls _ _ _ _ _ HW.out).mono ?_; rintro e w4 ⟨rfl, hd⟩; have HS4 := Aside0.mk (Kd.S_below HS3.out hd.below); have BK4 := Aside0.mk (blk_below BK3.out hd.below); have BS4 := Aside0.mk (blk_below BS3.out hd.below); have HB4 := Aside0.mk (HB3.out.trans (hd.below.mono (Nat.le_trans HBs.out HB3.out.size))); have HK4 := Aside0.mk (show w.heap.size ≤ w4.heap.size ∧ ∀ k, k < w.heap.size → w4.heap[k]? = w.heap[k]? from ⟨Nat.le_trans HK3.out.1 hd.below.size, fun k hk => (hd.below.block k (Nat.lt_of_lt_of_le hk HK3.out.1)).trans (HK3.out.2 k hk)⟩); clear hd; have hyd4 : w4.cell? ⟨gb, 0, none⟩ = some (.slice (some ⟨gt, 0, none⟩) tab.length cap) := (blk_cell BK4.out 0).trans rfl; have hst4 : w4.cell? ⟨gs, 1, none⟩ = some (.int .i64 (t : Int)) := (blk_cell BS4.out 1).trans rfl; obtain ⟨A5, c5, oki5, hcel5, hR5, _, _⟩ := impl_moveTop.elem HS4.out t HTt.out; rw [← HRt.out] at hcel5; clear hR5))
    go_ret
    (try rw [He.out])
    exact ⟨rfl, HS4.out, HB4.out, fun k hk _ => HK4.out.2 k hk⟩
  have hr4b : decide ((rt.length : Int) = 4) = false := decide_eq_false hr4
  have hr4c : ((rt.length : Int) == 4) = false := beq_eq_false_iff_ne.mpr hr4
  have hr4d : decide (rt.length = 4) = false := decide_eq_false (by omega)
  have e : stepF tab (f : Int) ((row.length : Int) - 1) (t : Int) = some (mvTab tab f t) := by rw [hwi, if_neg (by intro h; rcases h with h | h | h; exact h HIn.out; exact htf h; exact hr4 h)]
  have He := Aside0.mk e
  have h0r : 0 < (tab.getD f []).length := by rw [← HRow.out]; have := HM.out; omega
  have H0R := Aside0.mk h0r
  clear e hwi hr4 htf h0r
  go_wp2_with (first | (go_at_call 47; refine (impl_within.calls _ _ _ _ _ HW.out).mono ?_; rintro e w4 ⟨rfl, hd⟩; have HS4 := Aside0.mk (Kd.S_below HS3.out hd.below); have BK4 := Aside0.mk (blk_below BK3.out hd.below); have BS4 := Aside0.mk (blk_below BS3.out hd.below); have HB4 := Aside0.mk (HB3.out.trans (hd.below.mono (Nat.le_trans HBs.out HB3.out.size))); have HK4 := Aside0.mk (show w.heap.size ≤ w4.heap.size ∧ ∀ k, k < w.heap.size → w4.heap[k]? = w.heap[k]? from ⟨Nat.le_trans HK3.out.1 hd.below.size, fun k hk => (hd.below.block k (Nat.lt_of_lt_of_le hk HK3.out.1)).trans (HK3.out.2 k hk)⟩); clear hd; have hyd4 : w4.cell? ⟨gb, 0, none⟩ = some (.slice (some ⟨gt, 0, none⟩) tab.length cap) := (blk_cell BK4.out 0).trans rfl; have hst4 : w4.cell? ⟨gs, 1, none⟩ = some (.int .i64 (t : Int)) := (blk_cell BS4.out 1).trans rfl; obtain ⟨A5, c5, oki5, hcel5, hR5, _, _⟩ := impl_moveTop.elem HS4.out t HTt.out; rw [← HRt.out] at hcel5; clear hR5) | (go_at_call 41; refine (impl_moveTop.calls gt tab.length cap f t base ok tab _ HS4.out (Nat.le_trans HBs.out HB4.out.size) (fun k hk => HFr.out k (Nat.le_trans HK4.out.1 hk)) hf HTt.out H0R.out H4.out).mono ?_; rintro e w5 ⟨rfl, hS, hb, hk⟩; have HS5 := Aside0.mk hS; have HB5 := Aside0.mk (HB4.out.trans hb); have HK5 := Aside0.mk (show ∀ k, k < w.heap.size → ¬ ok k → w5.heap[k]? = w.heap[k]? from fun k hk1 hno => (hk k (Nat.lt_of_lt_of_le hk1 HK4.out.1) hno).trans (HK4.out.2 k hk1)); clear hS hb hk))
  go_ret
  (try rw [He.out])
  exact ⟨rfl, HS5.out, HB5.out, HK5.out⟩


end Go.Proofs.Ytlnihlmlkdhiaaa.P
