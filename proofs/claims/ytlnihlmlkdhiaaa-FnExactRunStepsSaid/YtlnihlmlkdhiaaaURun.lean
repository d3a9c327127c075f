/- Steps in a yard: the reference's beside the program's. -/
import Derived.Test.YtlnihlmlkdhiaaaPx0
import Derived.Test.YtlnihlmlkdhiaaaPx1
import Derived.Test.YtlnihlmlkdhiaaaPx10
import Derived.Test.YtlnihlmlkdhiaaaPx11
import Derived.Test.YtlnihlmlkdhiaaaPx12
import Derived.Test.YtlnihlmlkdhiaaaPx3
import Derived.Test.YtlnihlmlkdhiaaaPx4
import Derived.Test.YtlnihlmlkdhiaaaPx5
import Derived.Test.YtlnihlmlkdhiaaaPx6
import Derived.Test.YtlnihlmlkdhiaaaPx7
import Derived.Test.YtlnihlmlkdhiaaaUArr0
import Derived.Test.YtlnihlmlkdhiaaaUOwn
import Derived.Test.YtlnihlmlkdhiaaaUStepS
namespace Go.Proofs.Ytlnihlmlkdhiaaa.UY
open Go.RowKit Go.Proofs.YtlnihlmlkdhiaaaW.PrintWords Go.Proofs.YtlnihlmlkdhiaaaW.PrintMore Go.Proofs.Ytlnihlmlkdhiaaa.P Go.Proofs.Ytlnihlmlkdhiaaa.U Go.Proofs.Ytlnihlmlkdhiaaa.UT Go.Proofs.Ytlnihlmlkdhiaaa.UQ
set_option linter.unusedVariables false

theorem sz_yardb (l : List (List Int)) (hl : l.length ≤ 9223372036854775807) (hx : ∀ x, x ∈ l → x.length ≤ 9223372036854775807) :
    ∃ n, Ev (fun k => laws_szYard.f k l 1048576) n ∧ (0 ≤ n → n ≤ 1048576 ∧ l.length ≤ 1048576 ∧ ∀ x, x ∈ l → x.length ≤ 1048576) := by
  obtain ⟨n, h1, h2, h3⟩ := sz_ev l hl hx
  unfold laws_szYard.f
  by_cases hn : n < 0
  · exact ⟨-1, Ev.bind h1 (ev_pos hn (ev_const rfl)), fun h => by omega⟩
  · exact ⟨n, Ev.bind h1 (ev_neg hn (ev_const rfl)), fun h => ⟨h2, h3 h⟩⟩
/-- A yard in which steps are made: six stacks at most, four numbers in each. -/
def low (l : List (List Int)) : Prop := 1 ≤ l.length ∧ l.length ≤ 6 ∧ ∀ x, x ∈ l → x.length ≤ 4
theorem low_big {l : List (List Int)} (h : low l) : l.length ≤ 1048576 ∧ ∀ x, x ∈ l → x.length ≤ 1048576 := ⟨by have := h.2.1; omega, fun x hx => by have := h.2.2 x hx; omega⟩
theorem low_ok {l : List (List Int)} (h : okYard l = true) : low l := ⟨(okYard_mem h).1.1, (okYard_mem h).1.2, fun x hx => ((okYard_mem h).2 x hx).1⟩
theorem findR_bound (v : Int) : ∀ (l : List (List Int)) (i : Nat), findR v l i = (-1, -1) ∨ ∃ (f j : Nat) (r : List Int), findR v l i = ((f : Int), (j : Int)) ∧ i ≤ f ∧ l[f - i]? = some r ∧ j < r.length ∧ r[j]? = some v
  | [], i => Or.inl rfl
  | r :: l, i => by
    unfold findR
    by_cases h : r.contains v = true
    · rw [if_pos h]
      have hm : v ∈ r := by simpa using h
      have hj := List.idxOf_lt_length_iff.2 hm
      exact Or.inr ⟨i, r.idxOf v, r, rfl, Nat.le_refl _, by simp, hj, by rw [List.getElem?_eq_getElem hj]; simp⟩
    · rw [if_neg h]
      rcases findR_bound v l (i + 1) with h1 | ⟨f, j, r', h1, h2, h3, h4⟩
      · exact Or.inl h1
      · exact Or.inr ⟨f, j, r', h1, by omega, by rw [show f - i = (f - (i + 1)) + 1 by omega]; exact h3, h4⟩
theorem rd1_getD (l : List (List Int)) (i : Int) : rd_L1 l i = l.getD i.toNat [] := rfl
theorem cut_low {l : List (List Int)} (h : low l) (f : Nat) : low (mvCut l f) := by
  unfold mvCut
  refine ⟨by rw [List.length_set]; exact h.1, by rw [List.length_set]; exact h.2.1, fun x hx => ?_⟩
  rcases List.mem_or_eq_of_mem_set hx with hx | hx
  · exact h.2.2 x hx
  · rw [hx, List.length_take]
    by_cases hf : f < l.length
    · have := h.2.2 _ (List.getElem_mem hf); rw [getD_at _ _ _ hf]; omega
    · rw [show l.getD f [] = [] by simp [List.getD, List.getElem?_eq_none (show l.length ≤ f by omega)]]; simp
theorem mv_low {l : List (List Int)} (h : low l) (f t : Nat) (hft : t ≠ f) (ht : (l.getD t []).length ≤ 3) : low (mvTab l f t) := by
  have hc := cut_low h f
  unfold mvTab
  refine ⟨by rw [List.length_set]; exact hc.1, by rw [List.length_set]; exact hc.2.1, fun x hx => ?_⟩
  rcases List.mem_or_eq_of_mem_set hx with hx | hx
  · exact hc.2.2 x hx
  · have e : (mvCut l f).getD t [] = l.getD t [] := by unfold mvCut; simp [List.getD, Ne.symm hft]
    rw [hx, e, List.length_append, List.length_singleton]; omega
/-- A step. -/
def stepY (l : List (List Int)) (b dd : Int) : Option (List (List Int)) := stepF l (findR b l 0).1 (findR b l 0).2 dd
theorem stepY_low {l : List (List Int)} (h : low l) {b dd : Int} {t : List (List Int)} (ht : stepY l b dd = some t) : low t := by
  unfold stepY stepF at ht
  split at ht
  · cases ht
  split at ht
  · injection ht with ht; rw [← ht]; exact cut_low h _
  split at ht
  · cases ht
  rename_i h1 h2 h3
  injection ht with ht
  rw [← ht]
  have h3a : 0 ≤ dd ∧ dd ≤ (l.length : Int) - 1 := Decidable.byContradiction fun hn => h3 (Or.inl hn)
  have h3b : ¬ dd = (findR b l 0).1 := fun hn => h3 (Or.inr (Or.inl hn))
  have h3c : ¬ ((l.getD dd.toNat []).length : Int) = 4 := fun hn => h3 (Or.inr (Or.inr hn))
  refine mv_low h _ _ (fun e => h3b (by omega)) ?_
  have hl : dd.toNat < l.length := by omega
  have := h.2.2 _ (List.getElem_mem hl)
  rw [getD_at _ _ _ hl] at h3c ⊢
  omega
theorem mv_eq (l : List (List Int)) (f t : Nat) : l5Mv l f t = mvTab l f t := rfl
theorem step_spec {l : List (List Int)} (h : low l) (b dd : Int) : Ev (fun k => spec_l6Step.f k l b dd) ((stepY l b dd).getD l, (stepY l b dd).isSome) := by
  obtain ⟨hn, hx⟩ := low_big h
  unfold spec_l6Step.f
  refine Ev.bind (find_spec l b hn hx) ?_
  unfold stepY stepF
  rcases findR_bound b l 0 with e | ⟨f, j, r, e, _, hr, hj, _⟩
  · rw [e]
    refine ev_pos (by decide) (Ev.step (fun k => by simp only [spec_l6Step.j0]; rfl) (ev_pos (c := true = true) rfl (ev_const ?_)))
    rw [if_pos (Or.inl (by decide))]; rfl
  rw [e]
  rw [Nat.sub_zero] at hr
  obtain ⟨hf, hfr⟩ := List.getElem?_eq_some_iff.1 hr
  have hr4 := h.2.2 r (by rw [← hfr]; exact List.getElem_mem hf)
  have hrd : rd_L1 l (f : Int) = r := by rw [show rd_L1 l (f : Int) = l[f] from rd_l1 l f hf]; exact hfr
  have hgd : l.getD f [] = r := by rw [getD_at _ _ _ hf]; exact hfr
  refine ev_neg (by omega) (ev_pos (by omega) (ev_pos (by omega) ?_))
  dsimp only
  rw [hrd, wr (by omega) (by omega), Int.toNat_natCast, hgd]
  refine Ev.step (fun k => by simp only [spec_l6Step.j0]; rfl) ?_
  by_cases hjl : (j : Int) = (r.length : Int) - 1
  case neg => 
    refine ev_pos (bne_iff_ne.mpr hjl) (ev_const ?_)
    rw [if_pos (Or.inr hjl)]; rfl
  rw [if_neg (by omega)]
  refine ev_neg (by rw [hjl]; simp) ?_
  by_cases hd : dd = -1
  · rw [if_pos hd]
    refine ev_pos hd (Ev.bind (own_spec l hn hx) (ev_pos (by omega) (ev_pos (by omega) (ev_pos (by omega) (ev_pos ?_ (ev_const ?_))))))
    · rw [hrd]; omega
    · rw [hrd, Int.toNat_natCast, Int.toNat_natCast]
      unfold mvCut
      rw [hgd, show r.length - 1 = j by omega]; rfl
  rw [if_neg hd]
  refine ev_neg hd ?_
  rw [wr (x := (l.length : Int) - 1) (by omega) (by omega)]
  refine ev_call (in_spec _ _ _) ?_
  by_cases hin : 0 ≤ dd ∧ dd ≤ (l.length : Int) - 1
  case neg =>
    rw [if_pos (Or.inl hin), inr_not.2 hin]
    exact ev_neg (by simp) (ev_const rfl)
  rw [inr_iff.2 hin]
  refine ev_pos rfl ?_
  by_cases hs : dd = (f : Int)
  · rw [if_pos (Or.inr (Or.inl hs))]
    exact ev_pos hs (ev_const rfl)
  refine ev_neg hs (ev_pos hin.1 (ev_pos (by omega) ?_))
  rw [rd1_getD]
  by_cases h4 : ((l.getD dd.toNat []).length : Int) = 4
  · rw [if_pos (Or.inr (Or.inr h4))]
    exact ev_pos h4 (ev_const rfl)
  rw [if_neg (by rintro (h1 | h1 | h1); exact h1 hin; exact hs h1; exact h4 h1)]
  refine ev_neg h4 (Ev.bind (a := mvTab l f dd.toNat) ?_ (ev_const rfl))
  unfold spec_l5Move.f
  refine Ev.bind (own_spec l hn hx) (ev_const ?_)
  unfold spec_l5Move.g
  rw [if_pos ⟨by omega, by omega, hin.1, by omega, by rw [Int.toNat_natCast, hgd]; omega, fun x hx => by have := h.2.2 x hx; omega⟩, Int.toNat_natCast, mv_eq]
/-- Steps, one behind another. -/
def runY : List Q → List (List Int) → List Int → List (List Int) × List Int × Bool
  | [], t, r => (t, r, true)
  | s :: l, t, r => match stepY t s.f0 s.f1 with
    | none => ([], [], false)
    | some t2 => runY l t2 (if s.f1 = -1 then r ++ [s.f0] else r)
theorem run_spec (l : List Q) (hl : l.length ≤ 60) : ∀ d i (t : List (List Int)) (r : List Int), i + d = l.length → low t → r.length ≤ i → Ev (fun k => spec_l6Run.l0 k l r (i : Int) t) (runY (l.drop i) t r) := by
  intro d
  induction d with
  | zero =>
    intro i t r hi ht hr
    refine Ev.step (fun k => by simp only [spec_l6Run.l0]; rfl) (ev_neg (by omega) (ev_const ?_))
    rw [List.drop_of_length_le (by omega)]; rfl
  | succ d ih =>
    intro i t r hi ht hr
    have hlt : i < l.length := by omega
    refine Ev.step (fun k => by simp only [spec_l6Run.l0]; rfl) (ev_pos (by omega) (ev_pos (by omega) ?_))
    rw [rd_q l i hlt, wsucc hlt (by omega), List.drop_eq_getElem_cons hlt]
    generalize l[i] = s
    refine Ev.bind (step_spec ht s.f0 s.f1) ?_
    unfold runY
    cases hs : stepY t s.f0 s.f1 with
    | none => exact ev_neg (by simp) (ev_const rfl)
    | some t2 =>
      refine ev_pos rfl ?_
      have hl2 := stepY_low ht hs
      by_cases hd : s.f1 = -1
      · refine ev_pos hd (ev_pos (by omega) ?_)
        dsimp only [Option.getD]
        rw [if_pos hd]
        exact ih (i + 1) t2 _ (by omega) hl2 (by rw [List.length_append, List.length_singleton]; omega)
      · refine ev_neg hd ?_
        dsimp only [Option.getD]
        rw [if_neg hd]
        exact ih (i + 1) t2 r (by omega) hl2 (by omega)
theorem run_impl : ∀ (l : List Q) (t : List (List Int)) (r : List Int), low t → r.length + l.length ≤ 60 → Ev (fun k => rsGo k l t r) (runY l t r)
  | [], t, r, ht, hr => by
    exact ⟨0, fun k _ => by simp only [rsGo]; rfl⟩
  | s :: l, t, r, ht, hr => by
    rw [List.length_cons] at hr
    refine Ev.congr (fun k => by rw [rsGo]) (Ev.bind (place_impl t s.f0 (low_big ht).1 (low_big ht).2) (ev_pos ?_ ?_))
    · refine ⟨?_, fun h => ?_, fun row hrow => by have := ht.2.2 row hrow; omega, by omega⟩
      · rcases findR_bound s.f0 t 0 with e | ⟨f, j, q, e, _, hq, hj, _⟩
        · rw [e]; have := ht.1; show (-1 : Int) < _; omega
        · rw [e]; obtain ⟨hf, _⟩ := List.getElem?_eq_some_iff.1 hq; show (f : Int) < _; omega
      · rcases findR_bound s.f0 t 0 with e | ⟨f, j, q, e, _, hq, hj, _⟩
        · rw [e] at h; exact absurd h (by decide)
        · rw [e]; show (0 : Int) ≤ (j : Int); omega
    · unfold runY stepY
      cases hs : stepF t (findR s.f0 t 0).1 (findR s.f0 t 0).2 s.f1 with
      | none => exact ev_const rfl
      | some t2 => exact run_impl l t2 _ (stepY_low ht hs) (by split <;> (try rw [List.length_append, List.length_singleton]) <;> omega)
theorem runY_low : ∀ (l : List Q) (t : List (List Int)) (r : List Int), low t → r.length + l.length ≤ 60 → (runY l t r).1.length ≤ 6 ∧ (∀ x, x ∈ (runY l t r).1 → x.length ≤ 4) ∧ (runY l t r).2.1.length ≤ 60
  | [], t, r, ht, hr => ⟨ht.2.1, ht.2.2, by show r.length ≤ 60; simp at hr; omega⟩
  | s :: l, t, r, ht, hr => by
    rw [List.length_cons] at hr
    unfold runY
    cases hs : stepY t s.f0 s.f1 with
    | none => exact ⟨by simp, (fun x hx => by cases hx), by simp⟩
    | some t2 => exact runY_low l t2 _ (stepY_low ht hs) (by split <;> (try rw [List.length_append, List.length_singleton]) <;> omega)
theorem run_same (l : List (List Int)) (hn : l.length ≤ 1048576) (hx : ∀ x, x ∈ l → x.length ≤ 1048576) (a : List Q) (ha : a.length ≤ 1048576) :
    ∃ (r : List (List Int)) (q : List Int) (b : Bool), Ev (fun k => spec_RunSteps.f k l a) (r, q, b) ∧ Ev (fun k => impl_RunSteps.f k l a) (r, q, b) ∧ r.length ≤ 1048576 ∧ (∀ x, x ∈ r → x.length ≤ 1048576) ∧ q.length ≤ 1048576 := by
  unfold spec_RunSteps.f impl_RunSteps.f
  have hi : impl_IsValidYard.f l = some (okYard l) := rfl
  cases h : okYard l
  · refine ⟨[], [], false, Ev.bind (h ▸ good_spec l hn hx) (ev_neg (by simp) (Ev.step (fun k => by simp only [spec_RunSteps.j0]; rfl) (ev_pos (c := true = true) rfl (ev_const rfl)))), ev_call (h ▸ hi) (ev_pos (Or.inl rfl) (ev_const rfl)), by simp, (fun x hx => by cases hx), by simp⟩
  by_cases h60 : (a.length : Int) > 60
  · refine ⟨[], [], false, Ev.bind (h ▸ good_spec l hn hx) (ev_pos rfl (Ev.step (fun k => by simp only [spec_RunSteps.j0]; rfl) (ev_pos (decide_eq_true h60) (ev_const rfl)))), ev_call (h ▸ hi) (ev_pos (Or.inr h60) (ev_const rfl)), by simp, (fun x hx => by cases hx), by simp⟩
  have ht := low_ok h
  have hb := runY_low a l [] ht (by simp; omega)
  refine ⟨(runY a l []).1, (runY a l []).2.1, (runY a l []).2.2, Ev.bind (h ▸ good_spec l hn hx) (ev_pos rfl (Ev.step (fun k => by simp only [spec_RunSteps.j0]; rfl) (ev_neg (by simpa using h60) (Ev.bind (own_spec l hn hx) (Ev.bind (a := runY a l []) ?_ (ev_const rfl)))))), ev_call (h ▸ hi) (ev_neg (by rintro (h1 | h1); cases h1; exact h60 h1) (Ev.bind (own_impl l hn hx) ?_)), by omega, fun x hx => by have := hb.2.1 x hx; omega, by omega⟩
  · unfold spec_l6Run.f
    exact run_spec a (by omega) a.length 0 l [] (by omega) ht (by simp)
  · unfold impl_RunSteps.g
    exact ev_pos (by have := ht.1; omega) (run_impl a l [] ht (by simp; omega))
end Go.Proofs.Ytlnihlmlkdhiaaa.UY
