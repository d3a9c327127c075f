-- Written by a program of this session over the translation (a variant of the printer, see wip/gen); Lean checks it.
import Derived.Test.YtlnihlmlkdhiaaaPx0
import Derived.Test.YtlnihlmlkdhiaaaPx13
import Derived.Test.YtlnihlmlkdhiaaaPx14
import Derived.Test.YtlnihlmlkdhiaaaPx16
import Derived.Test.YtlnihlmlkdhiaaaPx18
import Derived.Test.YtlnihlmlkdhiaaaU
namespace Go.Proofs.Ytlnihlmlkdhiaaa.P
open Go.RowKit Go.Proofs.YtlnihlmlkdhiaaaW.PrintWords Go.Proofs.YtlnihlmlkdhiaaaW.PrintLast Go.Proofs.YtlnihlmlkdhiaaaW.PrintMore
attribute [local go_sem] Go.Proofs.Ytlnihlmlkdhiaaa.V.isSome_setCell max2_int min2_int max_two min_two max_three min_three max_four min_four   -- for this text's walks alone
set_option linter.unusedVariables false
set_option linter.unusedSimpArgs false

/-! ### impl_SimpleSteps: function 21 -/
/-- The lowest stack that has room, from stack i on; t: the one found so far. -/
def smLow (tab : List (List Int)) (f : Nat) : Nat → Nat → Int → Int
  | 0, _, t => t
  | d + 1, i, t => smLow tab f d (i + 1) (if i ≠ f ∧ (tab.getD i []).length < 4 ∧ (t < 0 ∨ (tab.getD i []).length < (tab.getD t.toNat []).length) then (i : Int) else t)
theorem smLow_range (tab : List (List Int)) (f : Nat) : ∀ (d i : Nat) (t : Int), i + d = tab.length → -1 ≤ t → t < (tab.length : Int) → -1 ≤ smLow tab f d i t ∧ smLow tab f d i t < (tab.length : Int)
  | 0, _, t, _, h1, h2 => ⟨h1, h2⟩
  | d + 1, i, t, hi, h1, h2 => by
    rw [smLow]
    refine smLow_range tab f d (i + 1) _ (by omega) ?_ ?_
    · split <;> omega
    · split <;> omega
def smRows (tab : List (List Int)) : Prop := ∀ row, row ∈ tab → row.length ≤ 1000
instance (tab : List (List Int)) : Decidable (smRows tab) := by unfold smRows; infer_instance
/-- Containers are moved away until n is on top. -/
def smIn (n : Int) (f : Nat) : Nat → List (List Int) → List S51 → Option (List (List Int) × List S51 × Bool)
  | 0, tab, out => if mvTop tab f = n then some (tab, out, true) else none
  | d + 1, tab, out => if mvTop tab f = n then some (tab, out, true) else if smLow tab f tab.length 0 (-1) < 0 then some (tab, out, false) else if 0 < (tab.getD f []).length ∧ smRows tab ∧ out.length ≤ 1000 then smIn n f d (mvTab tab f (smLow tab f tab.length 0 (-1)).toNat) (out ++ [⟨mvTop tab f, smLow tab f tab.length 0 (-1)⟩]) else none
def smGo (k : Nat) : List Int → List (List Int) → List S51 → Option (List S51 × Bool)
  | [], _, out => some (out, true)
  | n :: l, tab, out => (impl_placeOf.f k tab n).bind fun q => if 0 ≤ q.1 ∧ q.1 < (tab.length : Int) ∧ smRows tab then (smIn n q.1.toNat (tab.getD q.1.toNat []).length tab out).bind fun r => if r.2.2 = false then some ([], false) else (impl_placeOf.f k r.1 n).bind fun p => if p.1 < (r.1.length : Int) ∧ (0 ≤ p.1 → 0 ≤ p.2) ∧ smRows r.1 ∧ r.2.1.length ≤ 1000 then smGo k l ((stepF r.1 p.1 p.2 (-1)).getD r.1) (r.2.1 ++ [⟨n, -1⟩]) else none else none
def impl_SimpleSteps.g (k : Nat) (l1 : List Int) (tab : List (List Int)) : Option (List S51 × Bool) := if 0 < tab.length then smGo k l1 tab [] else none
def impl_SimpleSteps.f (k : Nat) (l0_0 : List (List Int)) (l1 : List Int) : Option (List S51 × Bool) :=
  (impl_isOrder.f k l0_0 l1).bind fun v => if v = false then some ([], false) else (impl_ownYard.f k l0_0).bind (impl_SimpleSteps.g k l1)
theorem smGo_mono (k : Nat) : ∀ (l : List Int) (tab : List (List Int)) (out : List S51), LeO (smGo k l tab out) (smGo (k + 1) l tab out)
  | [], _, _ => fun r h => h
  | n :: l, tab, out => fun r h => by
    rw [smGo] at h ⊢
    obtain ⟨q, h1, h2⟩ := Option.bind_eq_some_iff.1 h
    refine Option.bind_eq_some_iff.2 ⟨q, impl_placeOf.mono _ _ _ _ h1, ?_⟩
    split at h2
    case isFalse => cases h2
    case isTrue hc =>
    rw [if_pos hc]
    obtain ⟨s, h3, h4⟩ := Option.bind_eq_some_iff.1 h2
    refine Option.bind_eq_some_iff.2 ⟨s, h3, ?_⟩
    split at h4
    case isTrue hf => rw [if_pos hf]; exact h4
    case isFalse hf =>
    rw [if_neg hf]
    obtain ⟨p, h5, h6⟩ := Option.bind_eq_some_iff.1 h4
    refine Option.bind_eq_some_iff.2 ⟨p, impl_placeOf.mono _ _ _ _ h5, ?_⟩
    split at h6
    case isFalse => cases h6
    case isTrue hd => rw [if_pos hd]; exact smGo_mono k l _ _ _ h6
theorem impl_SimpleSteps.mono : ∀ a0 a1 k, LeO (impl_SimpleSteps.f k a0 a1) (impl_SimpleSteps.f (k + 1) a0 a1) := by
  intro a0 a1 k r h
  unfold impl_SimpleSteps.f at h ⊢
  obtain ⟨v, h1, h2⟩ := Option.bind_eq_some_iff.1 h
  refine Option.bind_eq_some_iff.2 ⟨v, impl_isOrder.mono _ _ _ _ h1, ?_⟩
  split at h2
  case isTrue hc => rw [if_pos hc]; exact h2
  case isFalse hc =>
  rw [if_neg hc]
  obtain ⟨tab, h3, h4⟩ := Option.bind_eq_some_iff.1 h2
  refine Option.bind_eq_some_iff.2 ⟨tab, impl_ownYard.mono _ _ _ h3, ?_⟩
  unfold impl_SimpleSteps.g at h4 ⊢
  split at h4
  case isTrue hc => rw [if_pos hc]; exact smGo_mono k _ _ _ _ h4
  case isFalse => cases h4
theorem impl_SimpleSteps.stp (gt n cap base k : Nat) (ok : Nat → Prop) (tab : List (List Int)) (b dd i j : Int) (w : World) (hn : tab.length = n) (h : Kd.S (Kd.slice 3 (Kd.int .i64)) 29 w base ok (.slice (some ⟨gt, 0, none⟩) n cap) tab) (hbase : base ≤ w.heap.size) (hfr : ∀ k, w.heap.size ≤ k → ok k) (hp : impl_placeOf.f k tab b = some (i, j)) (hi : i < (tab.length : Int)) (hj : 0 ≤ i → 0 ≤ j) (h4 : ∀ row, row ∈ tab → row.length ≤ 1000) :
    Calls Try.prog 31 #[.agg #[.slice (some ⟨gt, 0, none⟩) n cap], .agg #[.int .i64 b, .int .i64 dd]] w fun e w' => e = .returned (.bool (stepF tab i j dd).isSome) ∧ Kd.S (Kd.slice 3 (Kd.int .i64)) 29 w' base ok (.slice (some ⟨gt, 0, none⟩) n cap) ((stepF tab i j dd).getD tab) ∧ Below base w w' ∧ ∀ k, k < w.heap.size → ¬ ok k → w'.heap[k]? = w.heap[k]? := by
  subst hn
  exact impl_step.calls gt cap base k ok tab b dd i j w h hbase hfr hp hi hj h4
theorem impl_SimpleSteps.plc (k : Nat) (A0_0 : Option Addr) (n c0_0 : Nat) (l0_0 : List (List Int)) (a1 : Int) (r1 : Int) (r2 : Int) (w : World) (hn : l0_0.length = n) (hr0_0 : Kd.C (Kd.slice 3 (Kd.int .i64)) w A0_0 l0_0.length l0_0) (hc0_0 : l0_0.length ≤ c0_0) (h : impl_placeOf.f k l0_0 a1 = some (r1, r2)) :
    Calls Try.prog 39 #[.agg #[.slice A0_0 n c0_0], .int .i64 a1] w fun e w' => e = .returned (.tuple #[.int .i64 r1, .int .i64 r2]) ∧ Below w.heap.size w w' := by
  subst hn
  exact impl_placeOf.calls k A0_0 c0_0 l0_0 a1 r1 r2 w hr0_0 hc0_0 h
theorem smIn_eq {n : Int} {f d : Nat} {tab : List (List Int)} {out : List S51} (h : mvTop tab f = n) : smIn n f d tab out = some (tab, out, true) := by
  cases d <;> rw [smIn, if_pos h]
theorem impl_SimpleSteps.top (row : List Int) (h : row.length ≤ 9223372036854775807) : impl_topOf.f row = some (row.getD (row.length - 1) 0) := by
  unfold impl_topOf.f
  by_cases h0 : (row.length : Int) = 0
  · rw [if_pos h0, show row = [] from List.length_eq_zero_iff.1 (by omega)]; rfl
  · rw [if_neg h0, Go.Proofs.Ytlnihlmlkdhiaaa.U.wr (by omega) (by omega), if_pos (by omega), if_pos (by omega)]
    rw [show ((row.length : Int) - 1) = ((row.length - 1 : Nat) : Int) by omega]; rfl
set_option maxHeartbeats 8000000 in
set_option maxRecDepth 100000 in
/-- THE CALL -/
theorem impl_SimpleSteps.calls (k : Nat) (A0_0 : Option Addr) (c0_0 : Nat) (l0_0 : List (List Int)) (A1 : Option Addr) (c1 : Nat) (l1 : List Int) (r1 : List S51) (r2 : Bool) (w : World) (hr0_0 : Kd.C (Kd.slice 3 (Kd.int .i64)) w A0_0 l0_0.length l0_0) (hc0_0 : l0_0.length ≤ c0_0) (hr1 : Kd.C (Kd.int .i64) w A1 l1.length l1) (hc1 : l1.length ≤ c1) (h : impl_SimpleSteps.f k l0_0 l1 = some (r1, r2)) :
    Calls Try.prog 21 #[.agg #[.slice A0_0 l0_0.length c0_0], .slice A1 l1.length c1] w fun e w' => ∃ v0_ : Value, e = .returned (.tuple #[v0_, .bool r2]) ∧ Kd.R k51 51 w' w.heap.size (fun _ => True) v0_ r1 ∧ Below w.heap.size w w' := by
  have hu := Try.underlying28
  have hu2 := Try.underlying51
  have hln : l1.length ≤ 9223372036854775807 := hr1.2.1
  unfold impl_SimpleSteps.f at h
  obtain ⟨v, hv, h⟩ := Option.bind_eq_some_iff.1 h
  have HR0 := Aside0.mk hr0_0
  have HC0 := Aside0.mk hc0_0
  have HR1 := Aside0.mk hr1
  have HC1 := Aside0.mk hc1
  have HV := Aside0.mk hv
  have HB0 := Aside0.mk (Below.refl w.heap.size w)
  clear hr0_0 hc0_0 hr1 hv hc1
  go_enter Try.func21, Try.ntmps21
  go_upto_region 1 with (first | ((with_reducible refine gate_dst (N := 2) rfl ?_); (try (refine gate_guard (by rfl) ?_; dsimp only)); refine box_event ?hg (N := 2) ?hd (cs := #[.slice A0_0 l0_0.length c0_0]) (t := 28) ?hr ?_; (case hd => rfl); (case hg => rfl); (case hr => first | (go_simp; done) | (go_simp; rfl)); intro gb hgb w1 hbox hb; have BK1 := Aside0.mk hbox; have HB1 := Aside0.mk (below_step (bel HB0) hb); clear hb hbox hgb))
  have hyb1 : w1.cell? ⟨gb, 0, none⟩ = some (.slice A0_0 l0_0.length c0_0) := (blk_cell BK1.out 0).trans rfl
  cases v with
  | false =>
    rw [if_pos rfl] at h
    injection h with h
    injection h with h1 h2
    subst h1 h2
    go_wp2_with (first | (go_at_call 38; refine (impl_isOrder.calls k A0_0 c0_0 l0_0 A1 c1 l1 _ _ (Kd.C_below HR0.out HB1.out) HC0.out (Kd.C_below HR1.out HB1.out) HC1.out HV.out).mono ?_; rintro e w3 ⟨rfl, hb⟩; have HB3 := Aside0.mk (below_step HB1.out hb); clear hb))
    go_ret2
    exact ⟨_, rfl, Kd.R_nil _ _ _ _ _, HB3.out⟩
  | true =>
  rw [if_neg (by decide)] at h
  obtain ⟨tab0, hown, hg⟩ := Option.bind_eq_some_iff.1 h
  clear h
  unfold impl_SimpleSteps.g at hg
  split at hg
  case isFalse => cases hg
  case isTrue hpos =>
  have HOwn := Aside0.mk hown
  have HGo := Aside0.mk hg
  clear hown hg
  go_upto_region 4 with (first | (go_at_call 38; refine (impl_isOrder.calls k A0_0 c0_0 l0_0 A1 c1 l1 _ _ (Kd.C_below HR0.out HB1.out) HC0.out (Kd.C_below HR1.out HB1.out) HC1.out HV.out).mono ?_; rintro e w3 ⟨rfl, hb⟩; have BK3 := Aside0.mk (blk_below BK1.out hb); have HB3 := Aside0.mk (below_step HB1.out hb); clear hb; have hcb3 : w3.cell? ⟨gb, 0, none⟩ = some (.slice A0_0 l0_0.length c0_0) := (blk_cell BK3.out 0).trans rfl) | (go_at_call 30; refine (impl_ownYard.calls k _ _ l0_0 tab0 _ (Kd.C_below HR0.out HB3.out) HC0.out HOwn.out).mono ?_; rintro e w4 ⟨v0, rfl, hS, hb⟩; obtain ⟨gt, cap, e15, hgb, hgl, _⟩ := Kd.S_form hS (by omega); subst e15; have HS4 := Aside0.mk (Kd.S_lower hS (below_size HB3.out)); have HB4 := Aside0.mk (below_step HB3.out hb); clear hS hb hgb hgl))
  obtain ⟨n, hn⟩ : ∃ n : Nat, tab0.length = n := ⟨_, rfl⟩
  rw [hn] at HS4 ⊢
  have HN0 := Aside0.mk hn
  have HS5 := Aside0.mk (Kd.S_alloc HS4.out (.cells #[.slice (some ⟨gt, 0, none⟩) n cap] 28))
  have BY5 := Aside0.mk (blk_new w4 (.cells #[.slice (some ⟨gt, 0, none⟩) n cap] 28 (0, 0)))
  have HB5 := Aside0.mk (below_alloc HB4.out (.cells #[.slice (some ⟨gt, 0, none⟩) n cap] 28))
  have GY := Aside0.mk (show w.heap.size ≤ w4.heap.size from below_size HB4.out)
  clear HS4 HB4 hn BK1 HB1 hyb1 hcb3
  generalize w4.alloc (.cells #[.slice (some ⟨gt, 0, none⟩) n cap] 28) = w5 at HS5 BY5 HB5 ⊢
  generalize w4.heap.size = gy at BY5 GY ⊢
  go_wp2_with (first | ((with_reducible refine gate_dst (N := 21) rfl ?_); refine Kd.R_lit k51 (w0 := w) w.heap.size 51 ?hg (N := 21) ?hd (xs := ([] : List S51)) (inner := []) (ok := fun _ => True) (okp := fun _ => True) ?hr ?hp (fun _ hk => hk) trivial (bel HB5) (below_size (bel HB5)) (by simp) ?_; (case hd => rfl); (case hg => rfl); (case hr => first | (go_simp; done) | (go_simp; rfl)); (case hp => exact (Reps.none _ _)); intro v21 w6 ho hb hg_ hnew_; have HT6 := Aside0.mk (Kd.S_mono (Kd.S_grown HS5.out hg_ (fun _ _ => by simp)) (ok' := fun _ => True) (fun _ _ => trivial)); have HO6 := Aside0.mk ho; have HB6 := Aside0.mk hb; have BY6 := Aside0.mk (blk_grown BY5.out hg_ (by simp)); clear ho hb hg_ hnew_))
  clear HS5 BY5 HB5
  go_loopw [7, 24] (fun v7 v24 wr => ∃ (i : Nat) (tab : List (List Int)) (out : List S51), v24 = .int .i64 (i : Int) ∧ Aside0 (i ≤ l1.length) ∧ Aside0 (smGo k (l1.drop i) tab out = some (r1, r2)) ∧ Aside0 (tab.length = n) ∧ Aside0 (Kd.S (Kd.slice 3 (Kd.int .i64)) 29 wr w.heap.size (fun _ => True) (.slice (some ⟨gt, 0, none⟩) n cap) tab) ∧ Aside0 (Kd.R k51 51 wr w.heap.size (fun _ => True) v7 out) ∧ Aside0 (wr.heap[gy]? = some (.cells #[.slice (some ⟨gt, 0, none⟩) n cap] 28 (0, 0))) ∧ Aside0 (Below w.heap.size w wr)) (fun v7 v24 wr => l1.length - (intOf v24).toNat)
  case atStart => exact ⟨0, tab0, [], rfl, ⟨Nat.zero_le _⟩, HGo, HN0, HT6, HO6, BY6, HB6⟩
  case round =>
    clear HT6 HO6 BY6 HB6 HGo HN0
    obtain ⟨i, tab, out, rfl, HLe, HG, HN, HT, HO, BY, HB⟩ := hrel
    by_cases hlt : i < l1.length
    · have hltb : decide (i < l1.length) = true := decide_eq_true hlt
      have hdrop : l1.drop i = rd l1 (i : Int) :: l1.drop (i + 1) := by
        unfold rd
        rw [Int.toNat_natCast, List.drop_eq_getElem_cons hlt, Go.Proofs.Ytlnihlmlkdhiaaa.U.getD_at _ _ _ hlt]
      have hG := HG.out
      rw [hdrop, smGo] at hG
      obtain ⟨q, hq1, hG1⟩ := Option.bind_eq_some_iff.1 hG
      clear hG
      split at hG1
      case isFalse => cases hG1
      case isTrue hcond =>
      obtain ⟨s, hs, hG⟩ := Option.bind_eq_some_iff.1 hG1
      clear hG1
      obtain ⟨ad, eA, hx0⟩ := Kd.at_int HR1.out (i : Int) (by omega) (by omega)
      subst eA
      replace hx0 := cel HB hx0
      rw [Int.toNat_natCast] at hx0
      generalize rd l1 (i : Int) = b at *
      obtain ⟨q1, q2⟩ := q
      dsimp only at hs hcond
      obtain ⟨f, rfl⟩ := Int.eq_ofNat_of_zero_le hcond.1
      rw [Int.toNat_natCast] at hs
      have HP := Aside0.mk hq1
      have HS := Aside0.mk hs
      have HCn := Aside0.mk hcond.2
      have HGo := Aside0.mk hG
      have hcy : wr.cell? ⟨gy, 0, none⟩ = some (.slice (some ⟨gt, 0, none⟩) n cap) := (blk_cell BY.out 0).trans rfl
      clear hG hdrop hq1 hs hcond HG
      have hfn : f < n := by have := HCn.out.1; rw [HN.out] at this; omega
      go_wp2_with (first | (go_at_call 39; refine (impl_SimpleSteps.plc k _ n _ tab b f q2 _ HN.out (Kd.S_reads' HT.out).2.2 (by rw [HN.out]; exact (Kd.S_reads' HT.out).2.1) HP.out).mono ?_; rintro e w7 ⟨rfl, hb⟩; have n0_ := Aside0.mk (Kd.S_below HT.out hb); have n1_ := Aside0.mk (Kd.R_below HO.out hb); have n2_ := Aside0.mk (blk_below BY.out hb); have n3_ := Aside0.mk (below_step HB.out hb); clear HT HO BY HB hb; have HT := n0_; have HO := n1_; have BY := n2_; have HB := n3_; clear n0_ n1_ n2_ n3_))
      clear hcy hx0
      go_loopg [7] (tab.getD f []).length (fun dq v7 wr => ∃ (tab2 : List (List Int)) (out2 : List S51), Aside0 (smIn b f dq tab2 out2 = some s) ∧ Aside0 (tab2.length = n) ∧ Aside0 (Kd.S (Kd.slice 3 (Kd.int .i64)) 29 wr w.heap.size (fun _ => True) (.slice (some ⟨gt, 0, none⟩) n cap) tab2) ∧ Aside0 (Kd.R k51 51 wr w.heap.size (fun _ => True) v7 out2) ∧ Aside0 (wr.heap[gy]? = some (.cells #[.slice (some ⟨gt, 0, none⟩) n cap] 28 (0, 0))) ∧ Aside0 (Below w.heap.size w wr))
      case atStart => exact ⟨tab, out, HS, HN, HT, HO, BY, HB⟩
      case round =>
        clear HT HO BY HB HS HN HCn
        obtain ⟨tab2, out2, HS, HN, HT, HO, BY, HB⟩ := hrel
        have hft : f < tab2.length := by have := HN.out; omega
        obtain ⟨A2, c2, oki2, hcel2, hR2, _, _⟩ := impl_moveTop.elem HT.out f hft
        obtain ⟨row, hrow⟩ : ∃ r : List Int, r = tab2.getD f [] := ⟨_, rfl⟩
        rw [← hrow] at hcel2 hR2
        have HR2 := Aside0.mk (Kd.R_reads' hR2)
        have HRow := Aside0.mk hrow
        have hrl : row.length ≤ 9223372036854775807 := HR2.out.2.2.2.1
        obtain ⟨x, hx⟩ : ∃ x : Int, x = mvTop tab2 f := ⟨_, rfl⟩
        have HX := Aside0.mk hx
        have HTop := Aside0.mk (show impl_topOf.f row = some x from by rw [hx, impl_SimpleSteps.top row hrl, hrow]; rfl)
        clear hR2 hrow hx
        have hcy : wr.cell? ⟨gy, 0, none⟩ = some (.slice (some ⟨gt, 0, none⟩) n cap) := (blk_cell BY.out 0).trans rfl
        have hfb : decide (f < n) = true := decide_eq_true hfn
        have hfi : (f : Int) < (n : Int) := by omega
        have HFt := Aside0.mk hft
        clear hft
        by_cases hxb : x = b
        · have hbd : (x != b) = false := by simp [hxb]
          have hbc : decide (x = b) = true := decide_eq_true hxb
          have es := HS.out
          rw [smIn_eq (by rw [← HX.out]; exact hxb)] at es
          injection es with es
          have hG := HGo.out
          rw [← es] at hG
          rw [if_neg (by simp)] at hG
          obtain ⟨p, hp, hG2⟩ := Option.bind_eq_some_iff.1 hG
          clear hG
          split at hG2
          case isFalse => cases hG2
          case isTrue hcond =>
          have hG := hG2
          clear hG2
          obtain ⟨p1, p2⟩ := p
          dsimp only at hcond hG hp
          obtain ⟨tab3, ht3⟩ : ∃ t, t = (stepF tab2 p1 p2 (-1)).getD tab2 := ⟨_, rfl⟩
          rw [← ht3] at hG
          have HT3 := Aside0.mk ht3
          have HGn := Aside0.mk hG
          have HP2 := Aside0.mk hp
          have HC2 := Aside0.mk hcond
          have HLn := Aside0.mk hcond.2.2.2
          have HL3 := Aside0.mk (show tab3.length = n from by rw [ht3]; cases e : stepF tab2 p1 p2 (-1) with
            | none => exact HN.out
            | some t2 => exact (stepF_len e).trans HN.out)
          clear es hG hp hcond ht3 HGo HS
          go_wp2_with (first | (go_at_call 40; refine (impl_topOf.calls A2 c2 row x _ HR2.out.2.2 HR2.out.2.1 HTop.out).mono ?_; rintro e w7 ⟨rfl, hd⟩; have n0_ := Aside0.mk (Kd.S_below HT.out hd.below); have n1_ := Aside0.mk (Kd.R_below HO.out hd.below); have n2_ := Aside0.mk (blk_below BY.out hd.below); have n3_ := Aside0.mk (below_step HB.out hd.below); clear HT HO BY HB hd; have HT := n0_; have HO := n1_; have BY := n2_; have HB := n3_; clear n0_ n1_ n2_ n3_) | ((with_reducible refine gate_builtin (b := .append) (xs := #[.tmp 86, .tmp 89]) rfl ?_); at_builtin; refine Kd.R_append k51 (w0 := w) w.heap.size rfl (.tmp 86) (.tmp 89) 33 51 (.agg #[.int .i64 0, .int .i64 0]) 16 rfl Try.underlying33 info51 rfl (by decide) (by omega) u7 out2 (⟨b, -1⟩ : S51) [.int .i64 b, .int .i64 (-1)] (fun _ => True) (fun _ => False) rfl (by first | (go_simp; done) | (go_simp; rfl)) ?aP (fun _ hk => hk.elim) ?aF ?aO ?aB ?aS ?aL ?_; (case aP => exact k51_mkM _ _ _ (⟨b, -1⟩ : S51)); (case aB => exact bel HB); (case aF => exact fun _ _ => trivial); (case aO => exact HO.out); (case aS => exact below_size (bel HB)); (case aL => have := HLn.out; omega); intro v85 w9 ho hb hg hat; have n0_ := Aside0.mk (Kd.S_over' HT.out (Kd.R_typed HO.out) (by decide) hg); have n1_ := Aside0.mk ho; have n2_ := Aside0.mk (blk_grown BY.out hg (Kd.R_ne HO.out BY.out (by decide))); have n3_ := Aside0.mk hb; clear HT HO BY HB ho hb hg hat; have HT := n0_; have HO := n1_; have BY := n2_; have HB := n3_; clear n0_ n1_ n2_ n3_; have hcy9 : w9.cell? ⟨gy, 0, none⟩ = some (.slice (some ⟨gt, 0, none⟩) n cap) := (blk_cell BY.out 0).trans rfl; have HST := Aside0.mk (impl_SimpleSteps.stp gt n cap w.heap.size k (fun k => some k ≠ v85.ownBlock ∧ k ≠ gy) tab2 b (-1) p1 p2 w9 HN.out (Kd.S_mono (Kd.S_types (Kd.S_apart' HT.out (Kd.R_typed HO.out) (by decide)) BY.out (by decide)) (fun k hk => ⟨hk.1.2, hk.2⟩)) (below_size HB.out) (fun k hk => ⟨fun e => absurd (Kd.R_lt HO.out k e.symm) (Nat.not_lt.mpr hk), fun e => absurd (blk_lt BY.out) (by omega)⟩) HP2.out HC2.out.1 HC2.out.2.1 HC2.out.2.2.1)) | (go_at_call 31; refine HST.out.mono ?_; rw [← HT3.out]; rintro e w10 ⟨rfl, hS, hb, hk⟩; have n0_ := Aside0.mk (Kd.S_mono hS (ok' := fun _ => True) (fun _ _ => trivial)); have n1_ := Aside0.mk (Kd.R_mono (Kd.R_step (Kd.R_tight rfl HO.out) (fun k hk1 hlt_ => hk k hlt_ (fun h => h.1 hk1))) (ok' := fun _ => True) (fun _ _ => trivial)); have n2_ := Aside0.mk ((hk gy (blk_lt BY.out) (fun h => h.2 rfl)).trans BY.out); have n3_ := Aside0.mk (HB.out.trans hb); clear HT HO BY HB hS hb hk HST; have HT := n0_; have HO := n1_; have BY := n2_; have HB := n3_; clear n0_ n1_ n2_ n3_))
          go_roundw
          case rel => exact ⟨i + 1, tab3, out2 ++ [⟨b, -1⟩], by go_num, ⟨hlt⟩, HGn, HL3, HT, HO, BY, HB⟩
          case measure => simp [intOf]; omega
        · have hbd : (x != b) = true := bne_iff_ne.mpr hxb
          have hbc : decide (x = b) = false := decide_eq_false hxb
          cases gk with
          | zero => have es := HS.out; rw [smIn, if_neg (by rw [← HX.out]; exact hxb)] at es; cases es
          | succ d =>
          have es := HS.out
          rw [smIn, if_neg (by rw [← HX.out]; exact hxb)] at es
          obtain ⟨t, ht⟩ : ∃ t, t = smLow tab2 f tab2.length 0 (-1) := ⟨_, rfl⟩
          rw [← ht] at es
          have HE := Aside0.mk es
          have HSm := Aside0.mk ht.symm
          clear es ht HS
          have hlow := smLow_range tab2 f tab2.length 0 (-1) (by omega) (by omega) (by omega)
          have HRg := Aside0.mk hlow
          clear hlow
          go_wp2_with (first | (go_at_call 40; refine (impl_topOf.calls A2 c2 row x _ HR2.out.2.2 HR2.out.2.1 HTop.out).mono ?_; rintro e w7 ⟨rfl, hd⟩; have n0_ := Aside0.mk (Kd.S_below HT.out hd.below); have n1_ := Aside0.mk (Kd.R_below HO.out hd.below); have n2_ := Aside0.mk (blk_below BY.out hd.below); have n3_ := Aside0.mk (below_step HB.out hd.below); clear HT HO BY HB hd hcy hcel2; have HT := n0_; have HO := n1_; have BY := n2_; have HB := n3_; clear n0_ n1_ n2_ n3_; have hcy : w7.cell? ⟨gy, 0, none⟩ = some (.slice (some ⟨gt, 0, none⟩) n cap) := (blk_cell BY.out 0).trans rfl))
          have HNn := Aside0.mk (show n ≤ 9223372036854775807 by have := (Kd.S_reads' HT.out).2.2.2.1; have := HN.out; omega)
          go_loop [12, 45] (fun v12 v45 => ∃ (j : Nat) (m : Int), v12 = .int .i64 m ∧ v45 = .int .i64 (j : Int) ∧ Aside0 (j ≤ n) ∧ Aside0 (-1 ≤ m ∧ m < (n : Int)) ∧ Aside0 (smLow tab2 f (n - j) j m = t)) (fun v12 v45 => n - (intOf v45).toNat)
          case atStart => exact ⟨0, -1, rfl, rfl, ⟨Nat.zero_le _⟩, ⟨by omega⟩, ⟨by rw [Nat.sub_zero, ← HN.out]; exact HSm.out⟩⟩
          case round =>
            clear HSm
            obtain ⟨j, m, rfl, rfl, HJ, HM, HSm⟩ := hrel
            by_cases hjn : j < n
            · have hjb : decide (j < n) = true := decide_eq_true hjn
              have hji : (j : Int) < (n : Int) := by omega
              obtain ⟨A3, c3, oki3, hcel3, hR3, _, _⟩ := impl_moveTop.elem HT.out j (by have := HN.out; omega)
              have hr3 := (Kd.R_reads' hR3).2.2.2.1
              clear hR3
              have HNb := Aside0.mk (show (j : Int) + 1 ≤ 9223372036854775807 by have := HNn.out; omega)
              generalize hrj : tab2.getD j [] = row3 at hcel3 hr3
              have HR3 := Aside0.mk hrj
              clear hrj
              have hjs : (j : Int) + 1 ≤ 9223372036854775807 := HNb.out
              by_cases c1 : j = f
              · have c1b : ((j : Int) != (f : Int)) = false := by simp [c1]
                have c1c : (j != f) = false := by simp [c1]
                have c1d : decide ((j : Int) = (f : Int)) = true := decide_eq_true (by omega)
                have HC1 := Aside0.mk c1
                clear c1
                have HS2 := Aside0.mk (show smLow tab2 f (n - (j + 1)) (j + 1) (m) = t from by have h := HSm.out; rw [show n - j = (n - (j + 1)) + 1 by omega, smLow, if_neg (fun h => h.1 HC1.out)] at h; exact h)
                clear HSm
                go_wp2
                go_round
                case rel => exact ⟨j + 1, m, by first | rfl | go_num, by go_num, ⟨by omega⟩, ⟨HM.out⟩, HS2⟩
                case measure => simp [intOf]; omega
              have c1b : ((j : Int) != (f : Int)) = true := bne_iff_ne.mpr (by omega)
              have c1c : (j != f) = true := bne_iff_ne.mpr c1
              have c1d : decide ((j : Int) = (f : Int)) = false := decide_eq_false (by omega)
              by_cases c2 : row3.length < 4
              case neg =>
                have c2b : decide (row3.length < 4) = false := decide_eq_false c2
                have c2c : decide ((row3.length : Int) < 4) = false := decide_eq_false (by omega)
                have HS2 := Aside0.mk (show smLow tab2 f (n - (j + 1)) (j + 1) (m) = t from by have h := HSm.out; rw [show n - j = (n - (j + 1)) + 1 by omega, smLow, if_neg (fun h => c2 (by rw [← HR3.out]; exact h.2.1))] at h; exact h)
                clear HSm
                go_wp2
                go_round
                case rel => exact ⟨j + 1, m, by first | rfl | go_num, by go_num, ⟨by omega⟩, ⟨HM.out⟩, HS2⟩
                case measure => simp [intOf]; omega
              have c2b : decide (row3.length < 4) = true := decide_eq_true c2
              have c2c : decide ((row3.length : Int) < 4) = true := decide_eq_true (by omega)
              by_cases c3 : m < 0
              · have c3b : decide (m < 0) = true := decide_eq_true c3
                have HS2 := Aside0.mk (show smLow tab2 f (n - (j + 1)) (j + 1) ((j : Int)) = t from by have h := HSm.out; rw [show n - j = (n - (j + 1)) + 1 by omega, smLow, if_pos ⟨c1, by rw [HR3.out]; exact c2, Or.inl c3⟩] at h; exact h)
                clear HSm
                go_wp2
                go_round
                case rel => exact ⟨j + 1, (j : Int), by first | rfl | go_num, by go_num, ⟨by omega⟩, ⟨by omega⟩, HS2⟩
                case measure => simp [intOf]; omega
              have c3b : decide (m < 0) = false := decide_eq_false c3
              obtain ⟨m, rfl⟩ := Int.eq_ofNat_of_zero_le (show 0 ≤ m by omega)
              have hmn : m < n := by have := HM.out; omega
              have hmb : decide (m < n) = true := decide_eq_true hmn
              have hmi : (m : Int) < (n : Int) := by omega
              obtain ⟨A4, c4, oki4, hcel4, hR4, _, _⟩ := impl_moveTop.elem HT.out m (by have := HN.out; omega)
              have hr4 := (Kd.R_reads' hR4).2.2.2.1
              clear hR4
              generalize hrm : tab2.getD m [] = row4 at hcel4 hr4
              have HR4 := Aside0.mk hrm
              clear hrm
              by_cases d4 : row3.length < row4.length
              · have d4b : decide (row3.length < row4.length) = true := decide_eq_true d4
                have d4c : decide ((row3.length : Int) < (row4.length : Int)) = true := decide_eq_true (by omega)
                have HS2 := Aside0.mk (show smLow tab2 f (n - (j + 1)) (j + 1) ((j : Int)) = t from by have h := HSm.out; rw [show n - j = (n - (j + 1)) + 1 by omega, smLow, if_pos ⟨c1, by rw [HR3.out]; exact c2, Or.inr (by rw [Int.toNat_natCast, HR3.out, HR4.out]; exact d4)⟩] at h; exact h)
                clear HSm
                go_wp2
                go_round
                case rel => exact ⟨j + 1, (j : Int), by first | rfl | go_num, by go_num, ⟨by omega⟩, ⟨by omega⟩, HS2⟩
                case measure => simp [intOf]; omega
              · have d4b : decide (row3.length < row4.length) = false := decide_eq_false d4
                have d4c : decide ((row3.length : Int) < (row4.length : Int)) = false := decide_eq_false (by omega)
                have HS2 := Aside0.mk (show smLow tab2 f (n - (j + 1)) (j + 1) ((m : Int)) = t from by have h := HSm.out; rw [show n - j = (n - (j + 1)) + 1 by omega, smLow, if_neg (fun h => h.2.2.elim c3 (fun h5 => d4 (by rw [Int.toNat_natCast, HR3.out, HR4.out] at h5; exact h5)))] at h; exact h)
                clear HSm
                go_wp2
                go_round
                case rel => exact ⟨j + 1, (m : Int), by first | rfl | go_num, by go_num, ⟨by omega⟩, ⟨HM.out⟩, HS2⟩
                case measure => simp [intOf]; omega
            · have hjb : decide (j < n) = false := decide_eq_false hjn
              have hmt : m = t := by have h := HSm.out; rw [show n - j = 0 by omega, smLow] at h; exact h
              subst hmt
              clear HSm
              by_cases c3 : m < 0
              · have c3b : decide (m < 0) = true := decide_eq_true c3
                have es := HE.out
                rw [if_pos c3] at es
                injection es with es
                have hG := HGo.out
                rw [← es, if_pos rfl] at hG
                injection hG with hG
                injection hG with h1 h2
                subst h1 h2
                clear es HE HGo
                go_wp2
                go_ret2
                exact ⟨_, rfl, Kd.R_nil _ _ _ _ _, HB.out⟩
              have c3b : decide (m < 0) = false := decide_eq_false c3
              obtain ⟨m, rfl⟩ := Int.eq_ofNat_of_zero_le (show 0 ≤ m by omega)
              have hmn : m < n := by have := HM.out; omega
              have hE := HE.out
              rw [if_neg c3] at hE
              split at hE
              case isFalse => cases hE
              case isTrue hc4 =>
              rw [Int.toNat_natCast, ← HX.out] at hE
              have HS := Aside0.mk hE
              have HLn := Aside0.mk hc4.2.2
              have HLm := Aside0.mk (show (mvTab tab2 f m).length = n from by unfold mvTab mvCut; rw [List.length_set, List.length_set]; exact HN.out)
              have HMv := Aside0.mk (impl_moveTop.calls gt n cap f m w.heap.size (fun k => some k ≠ u7.ownBlock ∧ k ≠ gy) tab2 w7 (Kd.S_mono (Kd.S_types (Kd.S_apart' HT.out (Kd.R_typed HO.out) (by decide)) BY.out (by decide)) (fun k hk => ⟨hk.1.2, hk.2⟩)) (below_size HB.out) (fun k hk => ⟨fun e => absurd (Kd.R_lt HO.out k e.symm) (Nat.not_lt.mpr hk), fun e => absurd (blk_lt BY.out) (by omega)⟩) hfn hmn hc4.1 hc4.2.1)
              rw [← HX.out] at HMv
              clear hE hc4 HE hmn
              go_wp2_with (first | (go_at_call 41; refine HMv.out.mono ?_; rintro e w8 ⟨rfl, hS, hb, hk⟩; have n0_ := Aside0.mk (Kd.S_mono hS (ok' := fun _ => True) (fun _ _ => trivial)); have n1_ := Aside0.mk (Kd.R_mono (Kd.R_step (Kd.R_tight rfl HO.out) (fun k hk1 hlt_ => hk k hlt_ (fun h => h.1 hk1))) (ok' := fun _ => True) (fun _ _ => trivial)); have n2_ := Aside0.mk ((hk gy (blk_lt BY.out) (fun h => h.2 rfl)).trans BY.out); have n3_ := Aside0.mk (HB.out.trans hb); clear HT HO BY HB hS hb hk HMv; have HT := n0_; have HO := n1_; have BY := n2_; have HB := n3_; clear n0_ n1_ n2_ n3_) | ((with_reducible refine gate_builtin (b := .append) (xs := #[.tmp 77, .tmp 84]) rfl ?_); at_builtin; refine Kd.R_append k51 (w0 := w) w.heap.size rfl (.tmp 77) (.tmp 84) 33 51 (.agg #[.int .i64 0, .int .i64 0]) 16 rfl Try.underlying33 info51 rfl (by decide) (by omega) u7 out2 (⟨x, (m : Int)⟩ : S51) [.int .i64 x, .int .i64 (m : Int)] (fun _ => True) (fun _ => False) rfl (by first | (go_simp; done) | (go_simp; rfl)) ?aP (fun _ hk => hk.elim) ?aF ?aO ?aB ?aS ?aL ?_; (case aP => exact k51_mkM _ _ _ (⟨x, (m : Int)⟩ : S51)); (case aB => exact bel HB); (case aF => exact fun _ _ => trivial); (case aO => exact HO.out); (case aS => exact below_size (bel HB)); (case aL => have := HLn.out; omega); intro v85 w9 ho hb hg hat; have n0_ := Aside0.mk (Kd.S_over' HT.out (Kd.R_typed HO.out) (by decide) hg); have n1_ := Aside0.mk ho; have n2_ := Aside0.mk (blk_grown BY.out hg (Kd.R_ne HO.out BY.out (by decide))); have n3_ := Aside0.mk hb; clear HT HO BY HB ho hb hg hat; have HT := n0_; have HO := n1_; have BY := n2_; have HB := n3_; clear n0_ n1_ n2_ n3_))
              go_roundg d
              case rel => exact ⟨mvTab tab2 f m, out2 ++ [⟨x, (m : Int)⟩], HS, HLm, HT, HO, BY, HB⟩
              case measure => omega
    · have hltb : decide (i < l1.length) = false := decide_eq_false hlt
      have hG := HG.out
      rw [List.drop_of_length_le (by omega), smGo] at hG
      injection hG with hG
      injection hG with h1 h2
      subst h1 h2
      clear HG
      go_wp2
      go_ret2
      exact ⟨_, rfl, HO.out, HB.out⟩


end Go.Proofs.Ytlnihlmlkdhiaaa.P
