/- Findings in a yard of containers: the reference's and the program's. -/
import Derived.Test.YtgeakpogmjbjkaaPx0
import Derived.Test.YtgeakpogmjbjkaaPx1
import Derived.Test.YtgeakpogmjbjkaaPx12
import Derived.Test.YtgeakpogmjbjkaaPx13
import Derived.Test.YtgeakpogmjbjkaaPx7
import Derived.Test.YtgeakpogmjbjkaaPx8
import Derived.Test.YtgeakpogmjbjkaaPx9
import Derived.Test.YtgeakpogmjbjkaaUYardMem
import Derived.Test.YtgeakpogmjbjkaaUCont
namespace Go.Proofs.Ytgeakpogmjbjkaa.UF
open Go.RowKit Go.Proofs.YtgeakpogmjbjkaaW.PrintWords Go.Proofs.YtgeakpogmjbjkaaW.PrintMore Go.Proofs.Ytgeakpogmjbjkaa.P Go.Proofs.Ytgeakpogmjbjkaa.U Go.Proofs.Ytgeakpogmjbjkaa.UT Go.Proofs.Ytgeakpogmjbjkaa.UY Go.Proofs.Ytgeakpogmjbjkaa.UC
set_option linter.unusedVariables false

abbrev F := S59
/-! What is asked. -/
def boxIn (l : List (List Int)) (n : Int) : Bool := l.all fun r => r.all fun x => decide (x ≤ n)
def okAsk (l : List (List Int)) (cs : List C) (a : Int) : Bool := okYard l && (okList cs && (inr a 0 6 && boxIn l (cs.length : Int)))
theorem box_spec (l : List (List Int)) (cs : List C) (hn : l.length ≤ 1048576) (hx : ∀ x, x ∈ l → x.length ≤ 1048576) : ∀ d i, i + d = l.length → Ev (fun k => spec_l7Asked.l0 k cs (i : Int) l) (boxIn (l.drop i) (cs.length : Int)) := by
  intro d
  induction d with
  | zero =>
    intro i hi
    refine Ev.step (fun k => by simp only [spec_l7Asked.l0]; rfl) ?_
    refine ev_neg (by omega) (ev_const ?_)
    rw [List.drop_of_length_le (by omega)]; rfl
  | succ d ih =>
    intro i hi
    have hlt : i < l.length := by omega
    have hxi := hx _ (List.getElem_mem hlt)
    refine Ev.step (fun k => by simp only [spec_l7Asked.l0]; rfl) ?_
    refine ev_pos (by omega) ?_
    rw [List.drop_eq_getElem_cons hlt]
    have inner : ∀ e j, j + e = l[i].length → Ev (fun k => spec_l7Asked.l1 k cs (i : Int) (j : Int) l) (((l[i].drop j).all fun x => decide (x ≤ (cs.length : Int))) && boxIn (l.drop (i + 1)) (cs.length : Int)) := by
      intro e
      induction e with
      | zero =>
        intro j hj
        refine Ev.step (fun k => by simp only [spec_l7Asked.l1]; rfl) ?_
        refine ev_pos (by omega) (ev_pos (by omega) ?_)
        rw [rd_l1 l i hlt, wsucc hlt (by omega), List.drop_of_length_le (show l[i].length ≤ j by omega)]
        exact ev_neg (by omega) (ev_eq (ih (i + 1) (by omega)) (by simp))
      | succ e ihe =>
        intro j hj
        have hjt : j < l[i].length := by omega
        refine Ev.step (fun k => by simp only [spec_l7Asked.l1]; rfl) ?_
        refine ev_pos (by omega) (ev_pos (by omega) ?_)
        rw [rd_l1 l i hlt, rd_at _ j hjt, wsucc hjt (by omega), List.drop_eq_getElem_cons hjt, List.all_cons]
        refine ev_pos (by omega) (ev_pos (by omega) ?_)
        by_cases hc : l[i][j] > (cs.length : Int)
        · exact ev_eq (ev_pos hc (ev_const rfl)) (by rw [decide_eq_false (by omega)]; rfl)
        · exact ev_eq (ev_neg hc (ihe (j + 1) (by omega))) (by rw [decide_eq_true (by omega)]; rfl)
    have h := inner l[i].length 0 (by omega)
    rw [List.drop_zero] at h
    exact h
theorem ask_spec (l : List (List Int)) (cs : List C) (a : Int) (hn : l.length ≤ 1048576) (hx : ∀ x, x ∈ l → x.length ≤ 1048576) (hc : cs.length ≤ 1048576) : Ev (fun k => spec_l7Asked.f k l cs a) (okAsk l cs a) := by
  unfold spec_l7Asked.f okAsk
  refine Ev.bind (good_spec l hn hx) ?_
  cases okYard l
  · refine ev_neg (by simp) (Ev.step (fun k => by simp only [spec_l7Asked.j0]; rfl) ?_)
    exact ev_pos (by simp) (ev_const rfl)
  refine ev_pos rfl (Ev.bind (list_spec cs hc) ?_)
  cases okList cs
  · refine ev_neg (by simp) (Ev.step (fun k => by simp only [spec_l7Asked.j0]; rfl) ?_)
    exact ev_pos (by simp) (ev_const rfl)
  refine ev_pos rfl (ev_call (in_spec _ _ _) (Ev.step (fun k => by simp only [spec_l7Asked.j0]; rfl) ?_))
  cases inr a 0 6
  · exact ev_pos (by simp) (ev_const rfl)
  · exact ev_neg (by simp) (box_spec l cs hn hx l.length 0 (by omega))
theorem box_impl (l : List (List Int)) (cs : List C) (hn : l.length ≤ 1048576) (hx : ∀ x, x ∈ l → x.length ≤ 1048576) : ∀ d i, i + d = l.length → Ev (fun k => impl_areYard.l0 k cs l (l.length : Int) (i : Int)) (boxIn (l.drop i) (cs.length : Int)) := by
  intro d
  induction d with
  | zero =>
    intro i hi
    refine Ev.step (fun k => by simp only [impl_areYard.l0]; rfl) ?_
    refine ev_neg (by omega) (ev_const ?_)
    rw [List.drop_of_length_le (by omega)]; rfl
  | succ d ih =>
    intro i hi
    have hlt : i < l.length := by omega
    have hxi := hx _ (List.getElem_mem hlt)
    refine Ev.step (fun k => by simp only [impl_areYard.l0]; rfl) ?_
    refine ev_pos (by omega) (ev_pos (by omega) (ev_pos (by omega) ?_))
    rw [rd_l1 l i hlt, List.drop_eq_getElem_cons hlt]
    have inner : ∀ e j, j + e = l[i].length → Ev (fun k => impl_areYard.l1 k cs l (l.length : Int) (i : Int) l[i] (l[i].length : Int) (j : Int)) (((l[i].drop j).all fun x => decide (x ≤ (cs.length : Int))) && boxIn (l.drop (i + 1)) (cs.length : Int)) := by
      intro e
      induction e with
      | zero =>
        intro j hj
        refine Ev.step (fun k => by simp only [impl_areYard.l1]; rfl) ?_
        rw [wsucc hlt (by omega), List.drop_of_length_le (show l[i].length ≤ j by omega)]
        exact ev_neg (by omega) (ev_eq (ih (i + 1) (by omega)) (by simp))
      | succ e ihe =>
        intro j hj
        have hjt : j < l[i].length := by omega
        refine Ev.step (fun k => by simp only [impl_areYard.l1]; rfl) ?_
        refine ev_pos (by omega) (ev_pos (by omega) (ev_pos (by omega) ?_))
        rw [rd_at _ j hjt, wsucc hjt (by omega), List.drop_eq_getElem_cons hjt, List.all_cons]
        by_cases hc : l[i][j] > (cs.length : Int)
        · exact ev_eq (ev_pos hc (ev_const rfl)) (by rw [decide_eq_false (by omega)]; rfl)
        · exact ev_eq (ev_neg hc (ihe (j + 1) (by omega))) (by rw [decide_eq_true (by omega)]; rfl)
    have h := inner l[i].length 0 (by omega)
    rw [List.drop_zero] at h
    exact h
theorem ask_impl (l : List (List Int)) (cs : List C) (a : Int) (hn : l.length ≤ 1048576) (hx : ∀ x, x ∈ l → x.length ≤ 1048576) (hc : cs.length ≤ 1048576) : Ev (fun k => impl_areYard.f k l cs a) (okAsk l cs a) := by
  unfold impl_areYard.f okAsk
  refine ev_call (show impl_IsValidYard.f l = some (okYard l) from rfl) ?_
  cases okYard l
  · refine ev_neg (by simp) (Ev.step (fun k => by simp only [impl_areYard.j0]; rfl) ?_)
    exact ev_pos (by simp) (ev_const rfl)
  refine ev_pos rfl (Ev.bind (conts_impl cs hc) ?_)
  cases okList cs
  · refine ev_neg (by simp) (Ev.step (fun k => by simp only [impl_areYard.j0]; rfl) ?_)
    exact ev_pos (by simp) (ev_const rfl)
  refine ev_pos rfl (ev_call (within_impl _ _ _) (Ev.step (fun k => by simp only [impl_areYard.j0]; rfl) ?_))
  cases inr a 0 6
  · exact ev_pos (by simp) (ev_const rfl)
  · exact ev_neg (by simp) (box_impl l cs hn hx l.length 0 (by omega))

/-! What a place breaks. -/
def K (cs : List C) (n : Int) : C := rd_T61 cs (n - 1)
def r1 (cs : List C) (row : List Int) (j : Nat) : Prop := 0 < j ∧ (K cs (rd row (j : Int))).f2 > (K cs (rd row ((j : Int) - 1))).f2
def r2 (cs : List C) (row : List Int) (j : Nat) : Prop := 0 < j ∧ ¬ (K cs (rd row (j : Int))).f1 = (K cs (rd row ((j : Int) - 1))).f1
def r3 (cs : List C) (row : List Int) (j : Nat) : Prop := 0 < j ∧ (K cs (rd row (j : Int))).f3 = 3
def r4 (cs : List C) (a i : Int) (row : List Int) (j : Nat) : Prop := (K cs (rd row (j : Int))).f3 = 2 ∧ i ≥ a
instance (cs : List C) (row : List Int) (j : Nat) : Decidable (r1 cs row j) := by unfold r1; infer_instance
instance (cs : List C) (row : List Int) (j : Nat) : Decidable (r2 cs row j) := by unfold r2; infer_instance
instance (cs : List C) (row : List Int) (j : Nat) : Decidable (r3 cs row j) := by unfold r3; infer_instance
instance (cs : List C) (a i : Int) (row : List Int) (j : Nat) : Decidable (r4 cs a i row j) := by unfold r4; infer_instance
def rl (cs : List C) (a i : Int) (row : List Int) (j : Nat) : List Int :=
  ((((if r1 cs row j then [1] else []) ++ if r2 cs row j then [2] else []) ++ if r3 cs row j then [3] else []) ++ if r4 cs a i row j then [4] else [])
def mk (i : Nat) (j : Nat) (r : Int) : F := ⟨r, (i : Int), (j : Int)⟩
theorem rl_len (cs : List C) (a i : Int) (row : List Int) (j : Nat) : (rl cs a i row j).length ≤ 4 := by
  unfold rl
  simp only [List.length_append]
  have h : ∀ (p : Prop) [Decidable p] (x : Int), (if p then [x] else []).length ≤ 1 := by intro p _ x; split <;> simp
  have := h (r1 cs row j) 1
  have := h (r2 cs row j) 2
  have := h (r3 cs row j) 3
  have := h (r4 cs a i row j) 4
  omega

theorem cell_in {l : List (List Int)} {cs : List C} (hy : okYard l = true) (hb : boxIn l (cs.length : Int) = true) {i : Nat} (hi : i < l.length) {j : Nat} (hj : j < l[i].length) :
    1 ≤ rd l[i] (j : Int) ∧ rd l[i] (j : Int) ≤ 99 ∧ rd l[i] (j : Int) ≤ (cs.length : Int) := by
  rw [rd_at _ j hj]
  have hm := List.getElem_mem hi
  have h1 := ((okYard_mem hy).2 _ hm).2 _ (List.getElem_mem hj)
  unfold boxIn at hb
  have h2 := List.all_eq_true.mp hb _ hm
  have h3 := List.all_eq_true.mp h2 _ (List.getElem_mem hj)
  exact ⟨h1.1, h1.2, of_decide_eq_true h3⟩

theorem at_spec {l : List (List Int)} {cs : List C} (hy : okYard l = true) (hb : boxIn l (cs.length : Int) = true) (a : Int) {i : Nat} (hi : i < l.length) {j : Nat} (hj : j < l[i].length) :
    Ev (fun k => spec_l7At.f k l cs a (i : Int) (j : Int)) ((rl cs a i l[i] j).map (mk i j)) := by
  have h1 := cell_in hy hb hi hj
  have h4 := ((okYard_mem hy).2 _ (List.getElem_mem hi)).1
  unfold spec_l7At.f
  rw [rd_l1 l i hi]
  refine ev_pos (by omega) (ev_pos (by omega) (ev_pos (by omega) (ev_pos (by omega) ?_)))
  rw [wr (x := rd l[i] (j : Int) - 1) (by omega) (by omega)]
  refine ev_pos (by omega) (ev_pos (by omega) ?_)
  have T5 : ∀ acc : List F, Ev (fun k => spec_l7At.l0 k cs a (i : Int) (j : Int) acc 5 l (K cs (rd l[i] (j : Int))).f0 (K cs (rd l[i] (j : Int))).f1 (K cs (rd l[i] (j : Int))).f2 (K cs (rd l[i] (j : Int))).f3 (K cs (rd l[i] (j : Int))).f4) acc := by
    intro acc
    refine Ev.step (fun k => by simp only [spec_l7At.l0]; rfl) ?_
    exact ev_neg (by decide) (ev_const rfl)
  have T4 : ∀ acc : List F, acc.length < 10 → Ev (fun k => spec_l7At.l0 k cs a (i : Int) (j : Int) acc 4 l (K cs (rd l[i] (j : Int))).f0 (K cs (rd l[i] (j : Int))).f1 (K cs (rd l[i] (j : Int))).f2 (K cs (rd l[i] (j : Int))).f3 (K cs (rd l[i] (j : Int))).f4) (acc ++ (if r4 cs a i l[i] j then [4] else []).map (mk i j)) := by
    intro acc ha
    refine Ev.step (fun k => by simp only [spec_l7At.l0]; rfl) ?_
    refine ev_pos (by decide) (ev_neg (by decide) (ev_neg (by decide) (ev_neg (by decide) ?_)))
    rw [show wrap64 (4 + 1) = 5 from (wr (by decide) (by decide)).trans (by decide)]
    by_cases c1 : (K cs (rd l[i] (j : Int))).f3 = 2
    · refine ev_pos c1 ?_
      by_cases c2 : (i : Int) ≥ a
      · refine ev_pos c2 (ev_pos (by omega) (ev_eq (T5 _) ?_))
        rw [if_pos ⟨c1, c2⟩]; rfl
      · refine ev_neg c2 (ev_eq (T5 _) ?_)
        rw [if_neg (fun h => c2 h.2)]; simp
    · refine ev_neg c1 (ev_eq (T5 _) ?_)
      rw [if_neg (fun h => c1 h.1)]; simp
  have T3 : ∀ acc : List F, acc.length < 9 → Ev (fun k => spec_l7At.l0 k cs a (i : Int) (j : Int) acc 3 l (K cs (rd l[i] (j : Int))).f0 (K cs (rd l[i] (j : Int))).f1 (K cs (rd l[i] (j : Int))).f2 (K cs (rd l[i] (j : Int))).f3 (K cs (rd l[i] (j : Int))).f4) ((acc ++ (if r3 cs l[i] j then [3] else []).map (mk i j)) ++ (if r4 cs a i l[i] j then [4] else []).map (mk i j)) := by
    intro acc ha
    refine Ev.step (fun k => by simp only [spec_l7At.l0]; rfl) ?_
    refine ev_pos (by decide) (ev_neg (by decide) (ev_neg (by decide) (ev_pos (by decide) ?_)))
    rw [show wrap64 (3 + 1) = 4 from (wr (by decide) (by decide)).trans (by decide)]
    by_cases c0 : (j : Int) > 0
    · refine ev_pos c0 ?_
      by_cases c1 : (K cs (rd l[i] (j : Int))).f3 = 3
      · rw [if_pos (show r3 cs l[i] j from ⟨by omega, c1⟩)]
        exact ev_pos c1 (ev_pos (by omega) (T4 _ (by simp; omega)))
      · rw [if_neg (show ¬ r3 cs l[i] j from fun h => c1 h.2)]
        exact ev_neg c1 (ev_eq (T4 _ (by omega)) (by simp))
    · rw [if_neg (show ¬ r3 cs l[i] j from fun h => by have := h.1; omega)]
      exact ev_neg c0 (ev_eq (T4 _ (by omega)) (by simp))
  have T2 : ∀ acc : List F, acc.length < 8 → Ev (fun k => spec_l7At.l0 k cs a (i : Int) (j : Int) acc 2 l (K cs (rd l[i] (j : Int))).f0 (K cs (rd l[i] (j : Int))).f1 (K cs (rd l[i] (j : Int))).f2 (K cs (rd l[i] (j : Int))).f3 (K cs (rd l[i] (j : Int))).f4) (((acc ++ (if r2 cs l[i] j then [2] else []).map (mk i j)) ++ (if r3 cs l[i] j then [3] else []).map (mk i j)) ++ (if r4 cs a i l[i] j then [4] else []).map (mk i j)) := by
    intro acc ha
    refine Ev.step (fun k => by simp only [spec_l7At.l0]; rfl) ?_
    refine ev_pos (by decide) (ev_neg (by decide) (ev_pos (by decide) ?_))
    rw [show wrap64 (2 + 1) = 3 from (wr (by decide) (by decide)).trans (by decide), rd_l1 l i hi]
    by_cases c0 : (j : Int) > 0
    · have h2 := cell_in hy hb hi (show j - 1 < l[i].length by omega)
      rw [show ((j - 1 : Nat) : Int) = (j : Int) - 1 by omega] at h2
      refine ev_pos c0 (ev_pos (by omega) (ev_pos (by omega) ?_))
      rw [wr (x := (j : Int) - 1) (by omega) (by omega)]
      refine ev_pos (by omega) (ev_pos (by omega) ?_)
      rw [wr (x := rd l[i] ((j : Int) - 1) - 1) (by omega) (by omega)]
      refine ev_pos (by omega) (ev_pos (by omega) ?_)
      by_cases c1 : (K cs (rd l[i] (j : Int))).f1 = (K cs (rd l[i] ((j : Int) - 1))).f1
      · rw [if_neg (show ¬ r2 cs l[i] j from fun h => h.2 c1)]
        exact ev_pos c1 (ev_eq (T3 _ (by omega)) (by simp))
      · rw [if_pos (show r2 cs l[i] j from ⟨by omega, c1⟩)]
        exact ev_neg c1 (ev_pos (by omega) (T3 _ (by simp; omega)))
    · rw [if_neg (show ¬ r2 cs l[i] j from fun h => by have := h.1; omega)]
      exact ev_neg c0 (ev_eq (T3 _ (by omega)) (by simp))
  have T1 : Ev (fun k => spec_l7At.l0 k cs a (i : Int) (j : Int) [] 1 l (K cs (rd l[i] (j : Int))).f0 (K cs (rd l[i] (j : Int))).f1 (K cs (rd l[i] (j : Int))).f2 (K cs (rd l[i] (j : Int))).f3 (K cs (rd l[i] (j : Int))).f4) ((((if r1 cs l[i] j then [1] else []).map (mk i j) ++ (if r2 cs l[i] j then [2] else []).map (mk i j)) ++ (if r3 cs l[i] j then [3] else []).map (mk i j)) ++ (if r4 cs a i l[i] j then [4] else []).map (mk i j)) := by
    refine Ev.step (fun k => by simp only [spec_l7At.l0]; rfl) ?_
    refine ev_pos (by decide) (ev_pos (by decide) ?_)
    rw [show wrap64 (1 + 1) = 2 from (wr (by decide) (by decide)).trans (by decide), rd_l1 l i hi]
    by_cases c0 : (j : Int) > 0
    · have h2 := cell_in hy hb hi (show j - 1 < l[i].length by omega)
      rw [show ((j - 1 : Nat) : Int) = (j : Int) - 1 by omega] at h2
      refine ev_pos c0 (ev_pos (by omega) (ev_pos (by omega) ?_))
      rw [wr (x := (j : Int) - 1) (by omega) (by omega)]
      refine ev_pos (by omega) (ev_pos (by omega) ?_)
      rw [wr (x := rd l[i] ((j : Int) - 1) - 1) (by omega) (by omega)]
      refine ev_pos (by omega) (ev_pos (by omega) ?_)
      by_cases c1 : (K cs (rd l[i] (j : Int))).f2 > (K cs (rd l[i] ((j : Int) - 1))).f2
      · rw [if_pos (show r1 cs l[i] j from ⟨by omega, c1⟩)]
        exact ev_pos c1 (ev_pos (by simp) (T2 _ (by simp)))
      · rw [if_neg (show ¬ r1 cs l[i] j from fun h => c1 h.2)]
        exact ev_neg c1 (ev_eq (T2 _ (by simp)) (by simp))
    · rw [if_neg (show ¬ r1 cs l[i] j from fun h => by have := h.1; omega)]
      exact ev_neg c0 (ev_eq (T2 _ (by simp)) (by simp))
  refine ev_eq T1 ?_
  unfold rl
  simp only [List.map_append]

theorem broken_impl {row : List Int} {cs : List C} (a : Int) (i : Nat) {j : Nat} (hj : j < row.length) (hr : row.length ≤ 4) (hc : ∀ j, j < row.length → 1 ≤ rd row (j : Int) ∧ rd row (j : Int) ≤ 99 ∧ rd row (j : Int) ≤ (cs.length : Int)) :
    Ev (fun k => impl_brokenRules.f k row cs a (i : Int) (j : Int)) (rl cs a i row j) := by
  have h1 := hc j hj
  unfold impl_brokenRules.f
  refine ev_call rfl ?_
  refine ev_pos (by omega) (ev_pos (by omega) ?_)
  rw [wr (x := rd row (j : Int) - 1) (by omega) (by omega)]
  refine ev_pos (by omega) (ev_pos (by omega) ?_)
  by_cases c0 : (j : Int) > 0
  · have h2 := hc (j - 1) (by omega)
    rw [show ((j - 1 : Nat) : Int) = (j : Int) - 1 by omega] at h2
    refine ev_pos c0 ?_
    rw [wr (x := (j : Int) - 1) (by omega) (by omega)]
    refine ev_pos (by omega) (ev_pos (by omega) ?_)
    rw [wr (x := rd row ((j : Int) - 1) - 1) (by omega) (by omega)]
    refine ev_pos (by omega) (ev_pos (by omega) ?_)
    have J1 : ∀ acc : List Int, acc.length < 10 → Ev (fun k => impl_brokenRules.j1 k a (i : Int) acc (K cs (rd row (j : Int))).f0 (K cs (rd row (j : Int))).f1 (K cs (rd row (j : Int))).f2 (K cs (rd row (j : Int))).f3 (K cs (rd row (j : Int))).f4) ((acc ++ if r3 cs row j then [3] else []) ++ if r4 cs a i row j then [4] else []) := by
      intro acc ha
      refine Ev.step (fun k => by simp only [impl_brokenRules.j1]; rfl) ?_
      by_cases c1 : (K cs (rd row (j : Int))).f3 = 3
      · refine ev_pos c1 (ev_pos (by omega) (ev_call rfl (ev_neg (by omega) (ev_const ?_))))
        rw [if_pos (show r3 cs row j from ⟨by omega, c1⟩), if_neg (show ¬ r4 cs a i row j from fun h => by have := h.1; omega)]
        simp
      · refine ev_neg c1 ?_
        rw [if_neg (show ¬ r3 cs row j from fun h => c1 h.2)]
        by_cases c2 : (K cs (rd row (j : Int))).f3 = 2
        · refine ev_pos c2 ?_
          by_cases c3 : (i : Int) ≥ a
          · refine ev_pos c3 (ev_pos (by omega) (ev_const ?_))
            rw [if_pos (show r4 cs a i row j from ⟨c2, c3⟩)]; simp
          · refine ev_neg c3 (ev_const ?_)
            rw [if_neg (show ¬ r4 cs a i row j from fun h => c3 h.2)]; simp
        · refine ev_neg c2 (ev_const ?_)
          rw [if_neg (show ¬ r4 cs a i row j from fun h => c2 h.1)]; simp
    have J0 : ∀ acc : List Int, acc.length < 9 → Ev (fun k => impl_brokenRules.j0 k a (i : Int) acc (K cs (rd row (j : Int))).f0 (K cs (rd row (j : Int))).f1 (K cs (rd row (j : Int))).f2 (K cs (rd row (j : Int))).f3 (K cs (rd row (j : Int))).f4 (K cs (rd row ((j : Int) - 1))).f0 (K cs (rd row ((j : Int) - 1))).f1 (K cs (rd row ((j : Int) - 1))).f2 (K cs (rd row ((j : Int) - 1))).f3 (K cs (rd row ((j : Int) - 1))).f4) (((acc ++ if r2 cs row j then [2] else []) ++ if r3 cs row j then [3] else []) ++ if r4 cs a i row j then [4] else []) := by
      intro acc ha
      refine Ev.step (fun k => by simp only [impl_brokenRules.j0]; rfl) ?_
      by_cases c1 : (K cs (rd row (j : Int))).f1 = (K cs (rd row ((j : Int) - 1))).f1
      · rw [if_neg (show ¬ r2 cs row j from fun h => h.2 c1)]
        exact ev_pos c1 (ev_eq (J1 _ (by omega)) (by simp))
      · rw [if_pos (show r2 cs row j from ⟨by omega, c1⟩)]
        exact ev_neg c1 (ev_pos (by omega) (J1 _ (by simp; omega)))
    unfold rl
    by_cases c1 : (K cs (rd row (j : Int))).f2 > (K cs (rd row ((j : Int) - 1))).f2
    · rw [if_pos (show r1 cs row j from ⟨by omega, c1⟩)]
      exact ev_pos c1 (ev_pos (by simp) (J0 _ (by simp)))
    · rw [if_neg (show ¬ r1 cs row j from fun h => c1 h.2)]
      exact ev_neg c1 (J0 _ (by simp))
  · refine ev_neg c0 ?_
    unfold rl
    rw [if_neg (show ¬ r1 cs row j from fun h => by have := h.1; omega), if_neg (show ¬ r2 cs row j from fun h => by have := h.1; omega), if_neg (show ¬ r3 cs row j from fun h => by have := h.1; omega)]
    by_cases c2 : (K cs (rd row (j : Int))).f3 = 2
    · refine ev_pos c2 ?_
      by_cases c3 : (i : Int) ≥ a
      · refine ev_pos c3 (ev_pos (by simp) (ev_const ?_))
        rw [if_pos (show r4 cs a i row j from ⟨c2, c3⟩)]; simp
      · refine ev_neg c3 (ev_const ?_)
        rw [if_neg (show ¬ r4 cs a i row j from fun h => c3 h.2)]; simp
    · refine ev_neg c2 (ev_const ?_)
      rw [if_neg (show ¬ r4 cs a i row j from fun h => c2 h.1)]; simp

/-! All findings. -/
def fRow (cs : List C) (a : Int) (i : Nat) (row : List Int) : Nat → Nat → List F → List F
  | 0, _, acc => acc
  | e + 1, j, acc => fRow cs a i row e (j + 1) (acc ++ (rl cs a i row j).map (mk i j))
def fAll (cs : List C) (a : Int) : List (List Int) → Nat → List F → List F
  | [], _, acc => acc
  | row :: l, i, acc => fAll cs a l (i + 1) (fRow cs a i row row.length 0 acc)
def found (l : List (List Int)) (cs : List C) (a : Int) : List F := fAll cs a l 0 []
theorem find_spec_l {l : List (List Int)} {cs : List C} (hy : okYard l = true) (hb : boxIn l (cs.length : Int) = true) (a : Int) : ∀ (d i : Nat) (acc : List F), i + d = l.length → acc.length ≤ 16 * i →
    Ev (fun k => spec_l7Findings.l0 k cs a acc (i : Int) l) (fAll cs a (l.drop i) i acc) := by
  have h6 := (okYard_mem hy).1
  intro d
  induction d with
  | zero =>
    intro i acc hi ha
    refine Ev.step (fun k => by simp only [spec_l7Findings.l0]; rfl) ?_
    refine ev_neg (by omega) (ev_const ?_)
    rw [List.drop_of_length_le (by omega)]; rfl
  | succ d ih =>
    intro i acc hi ha
    have hlt : i < l.length := by omega
    have h4 := ((okYard_mem hy).2 _ (List.getElem_mem hlt)).1
    refine Ev.step (fun k => by simp only [spec_l7Findings.l0]; rfl) ?_
    refine ev_pos (by omega) ?_
    rw [List.drop_eq_getElem_cons hlt]
    have inner : ∀ (e j : Nat) (acc : List F), j + e = l[i].length → acc.length ≤ 16 * i + 4 * j → Ev (fun k => spec_l7Findings.l1 k cs a acc (i : Int) (j : Int) l) (fAll cs a (l.drop (i + 1)) (i + 1) (fRow cs a i l[i] e j acc)) := by
      intro e
      induction e with
      | zero =>
        intro j acc hj ha
        refine Ev.step (fun k => by simp only [spec_l7Findings.l1]; rfl) ?_
        refine ev_pos (by omega) (ev_pos (by omega) ?_)
        rw [rd_l1 l i hlt, wsucc hlt (by omega)]
        exact ev_neg (by omega) (ih (i + 1) acc (by omega) (by omega))
      | succ e ihe =>
        intro j acc hj ha
        have hjt : j < l[i].length := by omega
        have hl := rl_len cs a i l[i] j
        refine Ev.step (fun k => by simp only [spec_l7Findings.l1]; rfl) ?_
        refine ev_pos (by omega) (ev_pos (by omega) ?_)
        rw [rd_l1 l i hlt, wsucc hjt (by omega)]
        refine ev_pos (by omega) (Ev.bind (at_spec hy hb a hlt hjt) (ev_pos ?_ ?_))
        · rw [List.length_map]; omega
        · exact ihe (j + 1) _ (by omega) (by rw [List.length_append, List.length_map]; omega)
    exact inner l[i].length 0 acc (by omega) (by omega)
theorem found_spec {l : List (List Int)} {cs : List C} (hy : okYard l = true) (hb : boxIn l (cs.length : Int) = true) (a : Int) : Ev (fun k => spec_l7Findings.f k l cs a) (found l cs a) := by
  unfold spec_l7Findings.f found
  exact find_spec_l hy hb a l.length 0 [] (by omega) (by simp)
theorem find_impl_l {l : List (List Int)} {cs : List C} (hy : okYard l = true) (hb : boxIn l (cs.length : Int) = true) (a : Int) : ∀ (d i : Nat) (acc : List F), i + d = l.length → acc.length ≤ 16 * i →
    Ev (fun k => impl_yardFindings.l0 k cs a acc l (l.length : Int) (i : Int)) (fAll cs a (l.drop i) i acc) := by
  have h6 := (okYard_mem hy).1
  intro d
  induction d with
  | zero =>
    intro i acc hi ha
    refine Ev.step (fun k => by simp only [impl_yardFindings.l0]; rfl) ?_
    refine ev_neg (by omega) (ev_const ?_)
    rw [List.drop_of_length_le (by omega)]; rfl
  | succ d ih =>
    intro i acc hi ha
    have hlt : i < l.length := by omega
    have h4 := ((okYard_mem hy).2 _ (List.getElem_mem hlt)).1
    refine Ev.step (fun k => by simp only [impl_yardFindings.l0]; rfl) ?_
    refine ev_pos (by omega) (ev_pos (by omega) (ev_pos (by omega) ?_))
    rw [rd_l1 l i hlt, List.drop_eq_getElem_cons hlt]
    have inner : ∀ (e j : Nat) (acc : List F), j + e = l[i].length → acc.length ≤ 16 * i + 4 * j → Ev (fun k => impl_yardFindings.l1 k cs a acc (i : Int) l[i] l (l.length : Int) (i : Int) (l[i].length : Int) (j : Int)) (fAll cs a (l.drop (i + 1)) (i + 1) (fRow cs a i l[i] e j acc)) := by
      intro e
      induction e with
      | zero =>
        intro j acc hj ha
        refine Ev.step (fun k => by simp only [impl_yardFindings.l1]; rfl) ?_
        rw [wsucc hlt (by omega)]
        exact ev_neg (by omega) (ih (i + 1) acc (by omega) (by omega))
      | succ e ihe =>
        intro j acc hj ha
        have hjt : j < l[i].length := by omega
        have hl := rl_len cs a i l[i] j
        refine Ev.step (fun k => by simp only [impl_yardFindings.l1]; rfl) ?_
        refine ev_pos (by omega) (Ev.bind (broken_impl a i hjt h4 (fun j hj => cell_in hy hb hlt hj)) ?_)
        generalize hrs : rl cs a i l[i] j = rs at hl
        have deep : ∀ (f m : Nat) (acc' : List F), m + f = rs.length → acc'.length = acc.length + m → acc' = acc ++ (rs.take m).map (mk i j) →
            Ev (fun k => impl_yardFindings.l2 k cs a acc' (i : Int) l[i] (j : Int) l (l.length : Int) (i : Int) (l[i].length : Int) (j : Int) rs (rs.length : Int) (m : Int)) (fAll cs a (l.drop (i + 1)) (i + 1) (fRow cs a i l[i] e (j + 1) (acc ++ rs.map (mk i j)))) := by
          intro f
          induction f with
          | zero =>
            intro m acc' hm ha2 he
            refine Ev.step (fun k => by simp only [impl_yardFindings.l2]; rfl) ?_
            rw [wsucc hjt (by omega)]
            rw [List.take_of_length_le (by omega)] at he
            rw [← he]
            exact ev_neg (by omega) (ihe (j + 1) _ (by omega) (by omega))
          | succ f ihf =>
            intro m acc' hm ha2 he
            have hmt : m < rs.length := by omega
            refine Ev.step (fun k => by simp only [impl_yardFindings.l2]; rfl) ?_
            refine ev_pos (by omega) (ev_pos (by omega) (ev_pos (by omega) (ev_pos (by omega) ?_)))
            rw [wsucc hmt (by omega)]
            refine ihf (m + 1) _ (by omega) (by simp; omega) ?_
            rw [he, List.take_succ_eq_append_getElem hmt, List.map_append, rd_at rs m hmt, List.append_assoc]; rfl
        have h := deep rs.length 0 acc (by omega) (by omega) (by simp)
        unfold fRow
        rw [hrs]
        exact h
    exact inner l[i].length 0 acc (by omega) (by omega)
theorem found_impl {l : List (List Int)} {cs : List C} (hy : okYard l = true) (hb : boxIn l (cs.length : Int) = true) (a : Int) : Ev (fun k => impl_yardFindings.f k l cs a) (found l cs a) := by
  unfold impl_yardFindings.f found
  exact find_impl_l hy hb a l.length 0 [] (by omega) (by simp)
theorem okAsk_in {l : List (List Int)} {cs : List C} {a : Int} (h : okAsk l cs a = true) : okYard l = true ∧ boxIn l (cs.length : Int) = true := by
  unfold okAsk at h
  simp only [Bool.and_eq_true] at h
  exact ⟨h.1, h.2.2.2⟩

theorem sz_yard2 (l : List (List Int)) (hl : l.length ≤ 9223372036854775807) (hx : ∀ x, x ∈ l → x.length ≤ 9223372036854775807) :
    ∃ n, Ev (fun k => laws_szYard.f k l 1048576) n ∧ n ≤ 1048576 ∧ (0 ≤ n → l.length ≤ 1048576 ∧ ∀ x, x ∈ l → x.length ≤ 1048576) := by
  obtain ⟨n, h1, h2, h3⟩ := sz_ev l hl hx
  unfold laws_szYard.f
  by_cases hn : n < 0
  · exact ⟨-1, Ev.bind h1 (ev_pos hn (ev_const rfl)), by omega, fun h => by omega⟩
  · exact ⟨n, Ev.bind h1 (ev_neg hn (ev_const rfl)), h2, h3⟩

end Go.Proofs.Ytgeakpogmjbjkaa.UF
