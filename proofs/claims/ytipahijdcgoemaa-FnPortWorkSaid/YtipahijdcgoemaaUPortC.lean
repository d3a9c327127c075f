/- The law of the work at a port. -/
import Derived.Test.YtipahijdcgoemaaPx0
import Derived.Test.YtipahijdcgoemaaPx1
import Derived.Test.YtipahijdcgoemaaPx12
import Derived.Test.YtipahijdcgoemaaPx2
import Derived.Test.YtipahijdcgoemaaPx22
import Derived.Test.YtipahijdcgoemaaPx24
import Derived.Test.YtipahijdcgoemaaPx25
import Derived.Test.YtipahijdcgoemaaPx26
import Derived.Test.YtipahijdcgoemaaPx27
import Derived.Test.YtipahijdcgoemaaPx29
import Derived.Test.YtipahijdcgoemaaPx30
import Derived.Test.YtipahijdcgoemaaPx5
import Derived.Test.YtipahijdcgoemaaPx6
import Derived.Test.YtipahijdcgoemaaPx7
import Derived.Test.YtipahijdcgoemaaPx8
import Derived.Test.YtipahijdcgoemaaUPortB
namespace Go.Proofs.Ytipahijdcgoemaa.UB
open Go.RowKit Go.Proofs.Ytipahijdcgoemaa.UD Go.Proofs.YtipahijdcgoemaaW.PrintWords Go.Proofs.YtipahijdcgoemaaW.PrintMore Go.Proofs.Ytipahijdcgoemaa.P Go.Proofs.Ytipahijdcgoemaa.U Go.Proofs.Ytipahijdcgoemaa.UT Go.Proofs.Ytipahijdcgoemaa.US
set_option linter.unusedVariables false
def idxR (p : List Int → Bool) : List (List Int) → Nat → Int
  | [], _ => -1
  | x :: l, i => if p x then (i : Int) else idxR p l (i + 1)
def grH (high : Int) (row : List Int) : Bool := decide ((row.length : Int) < high)
def grR (P : List Int) (high q : Int) (row : List Int) : Bool := grH high row && !(row.any fun n => decide (P.getD (n - 1).toNat 0 < q))
def grAt (P : List Int) (high q : Int) (tab : List (List Int)) : Int := if idxR (grR P high q) tab 0 < 0 then idxR (grH high) tab 0 else idxR (grR P high q) tab 0
def grGo (P : List Int) (high : Int) : Nat → Nat → List (List Int) → List Int → Option (List (List Int) × List Int)
  | 0, _, tab, plan => some (tab, plan)
  | d + 1, i, tab, plan => if 0 ≤ grAt P high (P.getD i 0) tab ∧ grAt P high (P.getD i 0) tab < (tab.length : Int) then grGo P high d (i + 1) (tab.set (grAt P high (P.getD i 0) tab).toNat (tab.getD (grAt P high (P.getD i 0) tab).toNat [] ++ [(i : Int) + 1])) (plan ++ [grAt P high (P.getD i 0) tab]) else none
theorem idx_at (p : List Int → Bool) (l : List (List Int)) (j : Nat) (hj : j < l.length) : idxR p (l.drop j) j = if p l[j] = true then (j : Int) else idxR p (l.drop (j + 1)) (j + 1) := by
 rw [List.drop_eq_getElem_cons hj, idxR]
theorem idx_end (p : List Int → Bool) (l : List (List Int)) (j : Nat) (hj : l.length ≤ j) : idxR p (l.drop j) j = -1 := by
 rw [List.drop_of_length_le hj, idxR]
theorem idx_in (p : List Int → Bool) (l : List (List Int)) : ∀ d j, j + d = l.length → (idxR p (l.drop j) j = -1 ∧ ∀ x, x ∈ l.drop j → p x = false) ∨ ∃ t : Nat, ∃ h : t < l.length, idxR p (l.drop j) j = (t : Int) ∧ p l[t] = true
  | 0, j, hj => .inl ⟨idx_end p l j (by omega), fun x hx => by rw [List.drop_of_length_le (by omega)] at hx; simp at hx⟩
  | d + 1, j, hj => by
    have hlt : j < l.length := by omega
    rw [idx_at p l j hlt]
    cases hp : p l[j]
    · rw [if_neg (by simp)]
      rcases idx_in p l d (j + 1) (by omega) with ⟨h1, h2⟩ | h
      · refine .inl ⟨h1, fun x hx => ?_⟩
        rw [List.drop_eq_getElem_cons hlt] at hx
        rcases List.mem_cons.mp hx with rfl | hx
        · exact hp
        · exact h2 x hx
      · exact .inr h
    · exact .inr ⟨j, hlt, if_pos rfl, hp⟩
theorem free_l {P : List Int} (R h q : Int) (row : List Int) (hl : row.length ≤ 1048576) (hP : P.length ≤ 7) (hx : ∀ x, x ∈ row → 1 ≤ x ∧ x ≤ (P.length : Int)) : ∀ d j, j + d = row.length →
    Ev (fun k => spec_l10Free.l0 k row q (j : Int) R h P) (!((row.drop j).any fun n => decide (P.getD (n - 1).toNat 0 < q))) := by
 intro d
 induction d with
 | zero =>
  intro j hj
  refine Ev.step (fun k => by simp only [spec_l10Free.l0]; rfl) (ev_neg (by omega) (ev_const ?_))
  rw [List.drop_of_length_le (by omega)]; rfl
 | succ d ih =>
  intro j hj
  have hlt : j < row.length := by omega
  have hb := hx _ (List.getElem_mem hlt)
  refine Ev.step (fun k => by simp only [spec_l10Free.l0]; rfl) (ev_pos (by omega) (ev_pos (by omega) ?_))
  rw [rd_at row j hlt, wr (x := row[j] - 1) (by omega) (by omega), wsucc hlt (by omega), List.drop_eq_getElem_cons hlt, List.any_cons]
  refine ev_pos (by omega) (ev_pos (by omega) ?_)
  by_cases hc : rd P (row[j] - 1) < q
  ·refine ev_eq (ev_pos hc (ev_const rfl)) ?_
   have hc2 : P.getD (row[j] - 1).toNat 0 < q := hc
   rw [decide_eq_true hc2]; rfl
  have hc2 : ¬ P.getD (row[j] - 1).toNat 0 < q := hc
  rw [decide_eq_false hc2, Bool.false_or]
  exact ev_neg hc (ih (j + 1) (by omega))
theorem gr_found {P : List Int} (n : Nat) (h c : Int) (tab : List (List Int)) (plan : List Int) (i x8 x10 : Int) (hp : plan.length < 1048576) (h8 : 0 ≤ x8) (r : List Int × Int × Bool)
    (he : Ev (fun k => spec_GreedyStowage.l0 k (plan ++ [x8]) (wrap64 (i + 1)) n h P) r) : Ev (fun k => spec_GreedyStowage.l2 k plan i x8 x10 n h P c tab) r := by
 have hj : Ev (fun k => spec_GreedyStowage.j3 k plan i x8 x10 false n h P c tab) r :=
   Ev.step (fun k => by simp only [spec_GreedyStowage.j3]; rfl) (ev_neg (by simp) (ev_pos (by omega) he))
 refine Ev.step (fun k => by simp only [spec_GreedyStowage.l2]; rfl) ?_
 rw [decide_eq_false (show ¬ x8 < 0 by omega)]
 by_cases hc : x10 < (n : Int)
 ·exact ev_pos hc hj
 exact ev_neg hc hj
theorem gr_first {P : List Int} (n : Nat) (hn : n ≤ 5) (h c : Int) (tab : List (List Int)) (ht : tab.length = n) (plan : List Int) (i : Int) (hp : plan.length < 1048576) (r : List Int × Int × Bool) : ∀ d j, j + d = n →
    Ev (fun k => spec_GreedyStowage.l0 k (plan ++ [idxR (grH h) (tab.drop j) j]) (wrap64 (i + 1)) n h P) r → Ev (fun k => spec_GreedyStowage.l2 k plan i (-1) (j : Int) n h P c tab) r := by
 intro d
 induction d with
 | zero =>
  intro j hj he
  rw [idx_end _ _ _ (by omega)] at he
  refine Ev.step (fun k => by simp only [spec_GreedyStowage.l2]; rfl) (ev_neg (by omega) ?_)
  exact Ev.step (fun k => by simp only [spec_GreedyStowage.j3]; rfl) (ev_neg (by simp) (ev_pos (by omega) he))
 | succ d ih =>
  intro j hj he
  have hlt : j < tab.length := by omega
  rw [idx_at _ _ _ hlt] at he
  refine Ev.step (fun k => by simp only [spec_GreedyStowage.l2]; rfl) (ev_pos (by omega) ?_)
  refine Ev.step (fun k => by simp only [spec_GreedyStowage.j3]; rfl) (ev_pos (by decide) (ev_pos (by omega) (ev_pos (by omega) ?_)))
  rw [show rd_L2 tab (j : Int) = tab[j] from rd_l1 tab j hlt, wsucc hlt (by omega)]
  by_cases hc : (tab[j].length : Int) < h
  rotate_left
  ·rw [if_neg (by unfold grH; rw [decide_eq_false hc]; simp)] at he
   exact ev_neg hc (ih (j + 1) (by omega) he)
  rw [if_pos (by unfold grH; exact decide_eq_true hc)] at he
  exact ev_pos hc (gr_found n h c tab plan i _ _ hp (by omega) r he)
theorem gr_down {P : List Int} (hP : P.length ≤ 7) (n : Nat) (hn : n ≤ 5) (h c : Int) (tab : List (List Int)) (ht : tab.length = n) (plan : List Int) (i : Nat) (hi : i < P.length) (hl : ∀ x, x ∈ tab → x.length ≤ 1048576) (hx : ∀ x, x ∈ tab.flatten → 1 ≤ x ∧ x ≤ (P.length : Int)) (r : List Int × Int × Bool)
    (he : Ev (fun k => spec_GreedyStowage.l2 k plan (i : Int) (idxR (grR P h (P.getD i 0)) tab 0) 0 n h P c tab) r) : ∀ j, j ≤ n →
    Ev (fun k => spec_GreedyStowage.l1 k plan (i : Int) (idxR (grR P h (P.getD i 0)) (tab.drop j) j) ((j : Int) - 1) n h P c tab) r := by
 intro j
 induction j with
 | zero =>
  intro _
  refine Ev.step (fun k => by simp only [spec_GreedyStowage.l1]; rfl) (ev_neg (by omega) ?_)
  rw [List.drop_zero]
  exact he
 | succ j ih =>
  intro hj
  have hlt : j < tab.length := by omega
  have hi2 := ih (by omega)
  rw [idx_at _ _ _ hlt] at hi2
  rw [show ((j + 1 : Nat) : Int) - 1 = (j : Int) by omega]
  refine Ev.step (fun k => by simp only [spec_GreedyStowage.l1]; rfl) (ev_pos (by omega) (ev_pos (by omega) (ev_pos (by omega) ?_)))
  rw [show rd_L2 tab (j : Int) = tab[j] from rd_l1 tab j hlt, rd_at P i hi, wr (x := (j : Int) - 1) (by omega) (by omega)]
  have hgr : grR P h (P.getD i 0) tab[j] = (decide ((tab[j].length : Int) < h) && !(tab[j].any fun m => decide (P.getD (m - 1).toNat 0 < P.getD i 0))) := rfl
  rw [hgr] at hi2
  by_cases hc : (tab[j].length : Int) < h
  rotate_left
  ·rw [decide_eq_false hc, Bool.false_and, if_neg (by simp)] at hi2
   exact ev_neg hc hi2
  have hf := free_l (P := P) (n : Int) h P[i] tab[j] (hl _ (List.getElem_mem hlt)) hP (fun x hx2 => hx x (List.mem_flatten.mpr ⟨_, List.getElem_mem hlt, hx2⟩)) tab[j].length 0 (by omega)
  rw [List.drop_zero] at hf
  rw [decide_eq_true hc, Bool.true_and, getD_at P i 0 hi] at hi2
  refine ev_pos hc (ev_pos (by omega) (ev_pos (by omega) (Ev.bind (show Ev (fun k => spec_l10Free.f k (n : Int) h P tab[j] P[i]) _ from hf) ?_)))
  cases hb : (!(tab[j].any fun m => decide (P.getD (m - 1).toNat 0 < P[i])))
  ·rw [hb, if_neg (by simp), ← getD_at P i 0 hi] at hi2
   exact ev_neg (by simp) hi2
  rw [hb, if_pos rfl] at hi2
  exact ev_pos rfl hi2
theorem fill_more (p : List Int) (x : Int) : ∀ d i (out : List (List Int)), i + d = p.length → fill (p ++ [x]) (d + 1) i out = push (fill p d i out) x ((p.length : Int) + 1)
  | 0, i, out, h => by
    rw [fill, fill, fill, show i = p.length by omega, show (p ++ [x]).getD p.length 0 = x by simp [List.getD]]
  | d + 1, i, out, h => by
    rw [fill, fill_more p x d (i + 1) _ (by omega), show (p ++ [x]).getD i 0 = p.getD i 0 by rw [List.getD, List.getD, List.getElem?_append_left (by omega)]]
    conv => rhs; rw [fill]
theorem full_flat (h : Int) : ∀ (l : List (List Int)), (∀ x, x ∈ l → h ≤ (x.length : Int)) → (l.length : Int) * h ≤ (l.flatten.length : Int)
  | [], _ => by simp
  | r :: l, hx => by
    have h1 := hx r List.mem_cons_self
    have h2 := full_flat h l (fun x hx2 => hx x (List.mem_cons_of_mem _ hx2))
    rw [List.flatten_cons, List.length_append, List.length_cons]
    have e : ((l.length + 1 : Nat) : Int) * h = (l.length : Int) * h + h := by rw [Int.natCast_add, Int.add_mul]; simp
    rw [e]; omega
theorem greedy_main {P : List Int} (n : Nat) (h : Int) (hn : 1 ≤ n ∧ n ≤ 5) (hh : 1 ≤ h ∧ h ≤ 4) (h7 : P.length ≤ 7) (hc : (P.length : Int) ≤ (n : Int) * h) : ∀ d i (plan : List Int) (tab : List (List Int)), i + d = P.length → plan.length = i → rng n plan = true → tab = fill plan plan.length 0 (List.replicate n []) → low h tab = true → tab.flatten.length = i →
    ∃ (tabF : List (List Int)) (planF : List Int), grGo P h d i tab plan = some (tabF, planF) ∧ Ev (fun k => spec_GreedyStowage.l0 k plan (i : Int) n h P) (planF, ((puts [] (shA P tabF)).length : Int), true) ∧
      planF.length = P.length ∧ tabF.length ≤ 5 ∧ (∀ x, x ∈ tabF → x.length ≤ 4) ∧ tabF.flatten.Nodup ∧ ∀ x, x ∈ tabF.flatten → 1 ≤ x ∧ x ≤ (P.length : Int) := by
 intro d
 induction d with
 | zero =>
  intro i plan tab hi hp hr ht hl hf
  have hb := bay_spec h P n plan hn.2 (by omega) hr
  rw [← ht] at hb
  obtain ⟨g1, g2⟩ := fill_once n plan hr plan.length 0 (List.replicate n []) (by omega) (by simp) (by simp) (fun x hx => by simp at hx)
  rw [← ht] at g1 g2
  have g3 : ∀ x, x ∈ tab.flatten → 1 ≤ x ∧ x ≤ (P.length : Int) := fun x hx => by have := g2 x hx; omega
  have g4 : tab.length ≤ 5 := by rw [ht, fill_len, List.length_replicate]; omega
  have g5 : ∀ x, x ∈ tab → x.length ≤ 4 := fun x hx => by have := of_decide_eq_true (List.all_eq_true.mp hl x hx); omega
  refine ⟨tab, plan, rfl, ?_, by omega, g4, g5, g1, g3⟩
  refine Ev.step (fun k => by simp only [spec_GreedyStowage.l0]; rfl) (ev_neg (by omega) ?_)
  exact Ev.bind hb (Ev.bind (sh_spec h7 (n : Int) h h g4 g5 g3) (ev_const rfl))
 | succ d ih =>
  intro i plan tab hi hp hr ht hl hf
  have hlt : i < P.length := by omega
  have hb := bay_spec h P n plan hn.2 (by omega) hr
  rw [← ht] at hb
  obtain ⟨g1, g2⟩ := fill_once n plan hr plan.length 0 (List.replicate n []) (by omega) (by simp) (by simp) (fun x hx => by simp at hx)
  rw [← ht] at g1 g2
  have g3 : ∀ x, x ∈ tab.flatten → 1 ≤ x ∧ x ≤ (P.length : Int) := fun x hx => by have := g2 x hx; omega
  have gl : tab.length = n := by rw [ht, fill_len, List.length_replicate]
  have g5 : ∀ x, x ∈ tab → x.length ≤ 4 := fun x hx => by have := of_decide_eq_true (List.all_eq_true.mp hl x hx); omega
  -- a row with room
  have hat : ∃ t : Nat, ∃ hq : t < tab.length, grAt P h (P.getD i 0) tab = (t : Int) ∧ (tab[t].length : Int) < h := by
    unfold grAt
    rcases idx_in (grR P h (P.getD i 0)) tab tab.length 0 (by omega) with ⟨e1, _⟩ | ⟨t, hq, e1, e2⟩
    · rw [List.drop_zero] at e1
      rw [e1, if_pos (by omega)]
      rcases idx_in (grH h) tab tab.length 0 (by omega) with ⟨e3, e4⟩ | ⟨t, hq, e3, e4⟩
      · exfalso
        rw [List.drop_zero] at e4
        have := full_flat h tab (fun x hx => by have h2 := e4 x hx; unfold grH at h2; have := of_decide_eq_false h2; omega)
        rw [gl] at this
        omega
      · rw [List.drop_zero] at e3
        exact ⟨t, hq, e3, by unfold grH at e4; exact of_decide_eq_true e4⟩
    · rw [List.drop_zero] at e1
      rw [e1, if_neg (by omega)]
      refine ⟨t, hq, rfl, ?_⟩
      unfold grR grH at e2
      rw [Bool.and_eq_true] at e2
      exact of_decide_eq_true e2.1
  obtain ⟨t, hq, et, hroom⟩ := hat
  have epush : tab.set t (tab.getD t [] ++ [(i : Int) + 1]) = push tab (t : Int) ((i : Int) + 1) := rfl
  have eset : push tab (t : Int) ((i : Int) + 1) = tab.set t (tab[t] ++ [(i : Int) + 1]) := by rw [← epush, getD_at _ _ _ hq]
  have hperm := flat_set tab t hq ((i : Int) + 1)
  rw [← eset] at hperm
  obtain ⟨tabF, planF, k1, k2, k3⟩ := ih (i + 1) (plan ++ [(t : Int)]) (push tab (t : Int) ((i : Int) + 1)) (by omega) (by rw [List.length_append, hp]; rfl) (by
      unfold rng at hr ⊢
      rw [List.all_append, hr, List.all_cons, List.all_nil, show inr (t : Int) 0 ((n : Int) - 1) = true from inr_iff.mpr (by omega)]; rfl) (by
      rw [List.length_append, List.length_singleton, fill_more plan (t : Int) plan.length 0 _ (by omega), ← ht, hp]) (by
      rw [eset]
      refine List.all_eq_true.mpr fun r hr2 => ?_
      rcases List.mem_or_eq_of_mem_set hr2 with hr2 | rfl
      · exact List.all_eq_true.mp hl r hr2
      · rw [List.length_append, List.length_singleton]; exact decide_eq_true (by omega)) (by
      rw [hperm.length_eq, List.length_cons, hf])
  refine ⟨tabF, planF, ?_, ?_, k3⟩
  ·rw [grGo, et, if_pos ⟨by omega, by omega⟩, Int.toNat_natCast, epush]
   exact k1
  refine Ev.step (fun k => by simp only [spec_GreedyStowage.l0]; rfl) (ev_pos (by omega) (Ev.bind hb ?_))
  have hfin : Ev (fun k => spec_GreedyStowage.l0 k (plan ++ [grAt P h (P.getD i 0) tab]) (wrap64 ((i : Int) + 1)) n h P) (planF, ((puts [] (shA P tabF)).length : Int), true) := by
    rw [et, wsucc hlt (by omega)]
    exact k2
  have h2 : Ev (fun k => spec_GreedyStowage.l2 k plan (i : Int) (idxR (grR P h (P.getD i 0)) tab 0) 0 n h P h tab) (planF, ((puts [] (shA P tabF)).length : Int), true) := by
    rcases idx_in (grR P h (P.getD i 0)) tab tab.length 0 (by omega) with ⟨e1, _⟩ | ⟨u, hu, e1, _⟩
    · rw [List.drop_zero] at e1
      have hfin2 := hfin
      unfold grAt at hfin2
      rw [e1, if_pos (by omega)] at hfin2
      rw [e1]
      exact gr_first n hn.2 h h tab gl plan (i : Int) (by omega) _ n 0 (by omega) (by rw [List.drop_zero]; exact hfin2)
    · rw [List.drop_zero] at e1
      have hfin2 := hfin
      unfold grAt at hfin2
      rw [e1, if_neg (by omega)] at hfin2
      rw [e1]
      exact gr_found n h h tab plan (i : Int) _ _ (by omega) (by omega) _ hfin2
  have h3 := gr_down h7 n hn.2 h h tab gl plan i hlt (fun x hx => by have := g5 x hx; omega) g3 _ h2 n (Nat.le_refl _)
  rw [idx_end _ _ _ (by omega)] at h3
  change Ev (fun k => spec_GreedyStowage.l1 k plan (i : Int) (-1) (wrap64 ((n : Int) - 1)) n h P h tab) _
  rw [wr (x := (n : Int) - 1) (by omega) (by omega)]
  exact h3
theorem greedy_ev (R h : Int) (l : List Int) (hn : l.length ≤ 1048576) :
    ∃ (r : List Int) (m : Int) (b : Bool), Ev (fun k => spec_GreedyStowage.f k R h l) (r, m, b) ∧ r.length ≤ 1048576 := by
 unfold spec_GreedyStowage.f
 have hg := st_spec R h l (by omega)
 cases hk : okSt R h l
 ·rw [hk] at hg
  exact ⟨[], 0, false, Ev.bind (ev_const rfl) (Ev.bind hg (ev_neg (by simp) (ev_const rfl))), by simp⟩
 rw [hk] at hg
 have hk2 := hk
 unfold okSt at hk2
 simp only [Bool.and_eq_true, inr_iff, decide_eq_true_eq] at hk2
 obtain ⟨⟨r1, r5⟩, ⟨b1, b4⟩, h7, hc, _⟩ := hk2
 obtain ⟨n, rfl⟩ := Int.eq_ofNat_of_zero_le (show 0 ≤ R by omega)
 obtain ⟨tabF, planF, k1, k2, k3, k4, k5, k6, k7⟩ := greedy_main (P := l) n h ⟨by omega, by omega⟩ ⟨b1, b4⟩ (by omega) hc l.length 0 [] (List.replicate n []) (by omega) rfl rfl rfl (by
   refine List.all_eq_true.mpr fun r hr => ?_
   rw [List.eq_of_mem_replicate hr]; exact decide_eq_true (by simp; omega)) (by simp)
 exact ⟨planF, ((puts [] (shA l tabF)).length : Int), true, Ev.bind (ev_const rfl) (Ev.bind hg (ev_pos rfl k2)), by omega⟩
/-! What is drawn. -/
theorem dwPorts_ev {c : List Int} (hc : codeOk c) : ∀ (m : Nat) (i s : Int) (l : List Int), 0 ≤ i → i + 2 * m ≤ 999999990 → l.length + m ≤ 1000 → ∃ l' i' s', dwPorts c m i s l = some (l', i', s') ∧ l'.length = l.length + m ∧ i ≤ i' ∧ i' ≤ i + 2 * m
  | 0, i, s, l, h0, h1, h2 => ⟨l, i, s, rfl, rfl, by omega, by omega⟩
  | m + 1, i, s, l, h0, h1, h2 => by
    obtain ⟨r, j, s1, e, _, _, g1, g2⟩ := pick_ev hc (s := s) (n := 4) (i := i) ⟨h0, by omega⟩
    unfold dwPorts
    rw [e, Option.bind_some]
    dsimp only
    rw [if_pos (by omega)]
    obtain ⟨l', i', s', e2, g3, g4, g5⟩ := dwPorts_ev hc m j s1 (l ++ [wrap64 (1 + r)]) (by omega) (by omega) (by rw [List.length_append, List.length_singleton]; omega)
    rw [List.length_append, List.length_singleton] at g3
    exact ⟨l', i', s', e2, by omega, by omega, by omega⟩
theorem dwEnd_ev {c : List Int} (hc : codeOk c) (R H : Int) (ps : List Int) (z i s : Int) (h0 : 0 ≤ i ∧ i ≤ 999999990) (hp : ps.length ≤ 900) : ∃ R' H' P' i' s', dwEnd c R H ps z i s = some (R', H', P', i', s') ∧ P'.length ≤ 1000 ∧ 0 ≤ i' ∧ i' ≤ i + 2 := by
 unfold dwEnd
 split
 ·obtain ⟨r, j, s1, e, _, g⟩ := among_ev hc (s := s) h0 [0, 6, 5] (by decide)
  rw [e]; exact ⟨_, _, _, _, _, rfl, by omega, by dsimp only; omega, by dsimp only; omega⟩
 split
 ·obtain ⟨r, j, s1, e, _, g⟩ := among_ev hc (s := s) h0 [0, 5, 4] (by decide)
  rw [e]; exact ⟨_, _, _, _, _, rfl, by omega, by dsimp only; omega, by dsimp only; omega⟩
 split
 ·obtain ⟨r, j, s1, e, _, g⟩ := among_ev hc (s := s) h0 [0, 10, 9] (by decide)
  rw [e, Option.bind_some, if_pos (by omega)]; exact ⟨_, _, _, _, _, rfl, by rw [List.length_append, List.length_singleton]; omega, by dsimp only; omega, by dsimp only; omega⟩
 split
 ·obtain ⟨r, j, s1, e, g0, g1, g⟩ := pick_ev hc (s := s) (n := 2) h0
  rw [e, Option.bind_some, if_pos (by dsimp only; omega)]; exact ⟨_, _, _, _, _, rfl, by rw [List.length_take]; simp; omega, by dsimp only; omega, by dsimp only; omega⟩
 exact ⟨_, _, _, _, _, rfl, by omega, by omega, by omega⟩
theorem least_ev (x : Int) : ∃ t, spec_l1Least.f x 6 = some t ∧ t ≤ 6 ∧ (1 ≤ x → 1 ≤ t) := by
 unfold spec_l1Least.f
 split
 ·exact ⟨x, rfl, by omega, id⟩
 exact ⟨6, rfl, by omega, by omega⟩
theorem stow_ev {c : List Int} (hc : codeOk c) : ∃ R H P i s, spec_l1Cur_stowage.f c 0 0 = some (R, H, P, i, s) ∧ P.length ≤ 1000 ∧ 0 ≤ i ∧ i ≤ 100000 := by
 unfold spec_l1Cur_stowage.f
 obtain ⟨a, i1, s1, e1, a0, a1, g1⟩ := pick_ev hc (s := 0) (n := 3) (i := 0) (by omega)
 rw [e1, Option.bind_some]
 obtain ⟨b, i2, s2, e2, b0, b1, g2⟩ := pick_ev hc (s := s1) (n := 4) (i := i1) (by omega)
 dsimp only
 rw [e2, Option.bind_some]
 have hx : 1 ≤ wrap64 (wrap64 (1 + a) * wrap64 (1 + b)) := by
   rw [wr (x := 1 + a) (by omega) (by omega), wr (x := 1 + b) (by omega) (by omega)]
   rcases (show a = 0 ∨ a = 1 ∨ a = 2 by omega) with rfl | rfl | rfl
   · rw [wr (by omega) (by omega)]; omega
   · rw [wr (by omega) (by omega)]; omega
   · rw [wr (by omega) (by omega)]; omega
 obtain ⟨t, e3, t6, t1⟩ := least_ev (wrap64 (wrap64 (1 + a) * wrap64 (1 + b)))
 have t1 := t1 hx
 dsimp only
 rw [e3, Option.bind_some, wr (x := t + 1) (by omega) (by omega)]
 obtain ⟨n, i3, s3, e4, n0, n1, g3⟩ := pick_ev hc (s := s2) (n := t + 1) (i := i2) (by omega)
 rw [e4, Option.bind_some]
 dsimp only
 rw [if_pos (by omega)]
 obtain ⟨l, i4, s4, e5, l1, g4, g5⟩ := dwPorts_ev hc n.toNat i3 s3 [] (by omega) (by omega) (by simp; omega)
 rw [e5, Option.bind_some]
 dsimp only
 obtain ⟨z, i5, s5, e6, _, _, g6⟩ := pick_ev hc (s := s4) (n := 24) (i := i4) (by omega)
 rw [e6, Option.bind_some]
 dsimp only
 obtain ⟨R, H, P, i, s, e7, p1, p2, p3⟩ := dwEnd_ev hc (wrap64 (1 + a)) (wrap64 (1 + b)) l z i5 s5 (by omega) (by simp at l1; omega)
 exact ⟨R, H, P, i, s, e7, p1, p2, by omega⟩
theorem one_ev {c : List Int} (hc : codeOk c) {i s n : Int} (hi : 0 ≤ i ∧ i ≤ 999999990) : ∃ b j s', spec_l1Cur_one.f c i s n = some (b, j, s') ∧ i ≤ j ∧ j ≤ i + 2 := by
 unfold spec_l1Cur_one.f
 obtain ⟨r, j, s1, e, _, _, g⟩ := pick_ev hc (s := s) (n := n) hi
 rw [e]
 exact ⟨_, _, _, rfl, g⟩
theorem plan_j2 {c : List Int} (hc : codeOk c) (l : List Int) (hl : l.length ≤ 1048576) (b : Bool) (hb : b = true → 0 < l.length) {i s : Int} (hi : 0 ≤ i ∧ i ≤ 999999900) : ∃ (p : List Int) (j s' : Int), Ev (fun k => spec_l1Cur_plan.j2 k l b c i s) (p, j, s') ∧ p.length ≤ 1048576 ∧ 0 ≤ j ∧ j ≤ i + 4 := by
 cases b
 ·exact ⟨l, i, s, Ev.step (fun k => by simp only [spec_l1Cur_plan.j2]; rfl) (ev_neg (by simp) (ev_const rfl)), hl, by omega, by omega⟩
 have h0 := hb rfl
 obtain ⟨q, j, s1, e, q0, q1, g⟩ := pick_ev hc (s := s) (n := (l.length : Int)) (i := i) (by omega)
 obtain ⟨z, j2, s2, e2, _, _, g2⟩ := pick_ev hc (s := s1) (n := 7) (i := j) (by omega)
 refine ⟨l.set (q : Int).toNat (wrap64 (z - 1)), j2, s2, ?_, by rw [List.length_set]; exact hl, by omega, by omega⟩
 refine Ev.step (fun k => by simp only [spec_l1Cur_plan.j2]; rfl) (ev_pos trivial (ev_call e (ev_call e2 ?_)))
 refine ev_pos q0 ?_
 refine ev_pos (by dsimp only; omega) ?_
 exact ev_const rfl
theorem plan_j1 {c : List Int} (hc : codeOk c) (l : List Int) (hl : l.length ≤ 1048576) {i s : Int} (hi : 0 ≤ i ∧ i ≤ 999999800) : ∃ (p : List Int) (j s' : Int), Ev (fun k => spec_l1Cur_plan.j1 k l c i s) (p, j, s') ∧ p.length ≤ 1048576 ∧ 0 ≤ j ∧ j ≤ i + 6 := by
 by_cases h0 : (l.length : Int) > 0
 rotate_left
 ·obtain ⟨p, j2, s2, e2, g1, g2, g3⟩ := plan_j2 hc l hl false (fun h => by cases h) (i := i) (s := s) (by omega)
  exact ⟨p, j2, s2, Ev.step (fun k => by simp only [spec_l1Cur_plan.j1]; rfl) (ev_neg h0 e2), g1, g2, by omega⟩
 obtain ⟨b, j, s1, e, g⟩ := one_ev hc (s := s) (n := 10) (i := i) (by omega)
 obtain ⟨p, j2, s2, e2, g1, g2, g3⟩ := plan_j2 hc l hl b (fun _ => by omega) (i := j) (s := s1) (by omega)
 exact ⟨p, j2, s2, Ev.step (fun k => by simp only [spec_l1Cur_plan.j1]; rfl) (ev_pos h0 (ev_call e e2)), g1, g2, by omega⟩
theorem most_ev (x : Int) : ∃ t, spec_l1Most.f x 1 = some t := by
 unfold spec_l1Most.f
 split
 ·exact ⟨_, rfl⟩
 exact ⟨_, rfl⟩
theorem plan_l0 {c : List Int} (hc : codeOk c) (R H : Int) (P : List Int) (hP : P.length ≤ 1000) : ∀ d j (acc : List Int) (i s : Int), j + d = P.length → acc.length = j → 0 ≤ i → i + 2 * d ≤ 900000000 →
    ∃ (p : List Int) (j' s' : Int), Ev (fun k => spec_l1Cur_plan.l0 k acc (j : Int) c i s R H P) (p, j', s') ∧ p.length ≤ 1048576 ∧ 0 ≤ j' ∧ j' ≤ i + 2 * d + 10 := by
 intro d
 induction d with
 | zero =>
  intro j acc i s hj ha h0 h1
  obtain ⟨b, i1, s1, e, g⟩ := one_ev hc (s := s) (n := 2) (i := i) (by omega)
  cases b
  ·obtain ⟨p, j2, s2, e2, g1, g2, g3⟩ := plan_j1 hc acc (by omega) (i := i1) (s := s1) (by omega)
   refine ⟨p, j2, s2, ?_, g1, g2, by omega⟩
   refine Ev.step (fun k => by simp only [spec_l1Cur_plan.l0]; rfl) (ev_neg (by omega) (ev_call e ?_))
   exact ev_neg (by simp) e2
  obtain ⟨r, m, b2, e3, hr⟩ := greedy_ev R H P (by omega)
  cases b2
  ·obtain ⟨p, j2, s2, e2, g1, g2, g3⟩ := plan_j1 hc acc (by omega) (i := i1) (s := s1) (by omega)
   refine ⟨p, j2, s2, ?_, g1, g2, by omega⟩
   refine Ev.step (fun k => by simp only [spec_l1Cur_plan.l0]; rfl) (ev_neg (by omega) (ev_call e ?_))
   refine ev_pos rfl (Ev.bind e3 ?_)
   exact ev_neg (by simp) e2
  obtain ⟨p, j2, s2, e2, g1, g2, g3⟩ := plan_j1 hc r hr (i := i1) (s := s1) (by omega)
  refine ⟨p, j2, s2, ?_, g1, g2, by omega⟩
  refine Ev.step (fun k => by simp only [spec_l1Cur_plan.l0]; rfl) (ev_neg (by omega) (ev_call e ?_))
  refine ev_pos rfl (Ev.bind e3 ?_)
  exact ev_pos rfl e2
 | succ d ih =>
  intro j acc i s hj ha h0 h1
  have hlt : j < P.length := by omega
  obtain ⟨t, et⟩ := most_ev R
  obtain ⟨r, i1, s1, e, _, _, g⟩ := pick_ev hc (s := s) (n := t) (i := i) (by omega)
  obtain ⟨p, j2, s2, e2, g1, g2, g3⟩ := ih (j + 1) (acc ++ [r]) i1 s1 (by omega) (by rw [List.length_append, ha]; rfl) (by omega) (by omega)
  refine ⟨p, j2, s2, ?_, g1, g2, by omega⟩
  refine Ev.step (fun k => by simp only [spec_l1Cur_plan.l0]; rfl) (ev_pos (by omega) (ev_call et (ev_call e ?_)))
  rw [wsucc hlt (by omega)]
  exact ev_pos (by omega) e2
theorem draw_ev {c : List Int} (hc : codeOk c) : ∃ (R H : Int) (P pl : List Int) (q : Int), Ev (fun k => spec_DrawPortWork.f k c) (R, H, P, pl, q) ∧ P.length ≤ 1000 ∧ pl.length ≤ 1048576 := by
 unfold spec_DrawPortWork.f
 obtain ⟨R, H, P, i, s, e, p1, p2, p3⟩ := stow_ev hc
 obtain ⟨pl, i2, s2, e2, g1, g2, g3⟩ := plan_l0 hc R H P p1 P.length 0 [] i s (by omega) rfl p2 (by omega)
 obtain ⟨q, i3, s3, e3, _⟩ := among_ev hc (s := s2) (i := i2) (by omega) [1, 2, 3, 4, 9, 0, 10] (by decide)
 refine ⟨R, H, P, pl, q, ?_, p1, g1⟩
 refine ev_call e (Ev.bind (show Ev (fun k => spec_l1Cur_plan.f k c i s R H P) (pl, i2, s2) from e2) ?_)
 exact ev_call e3 (ev_const rfl)
/-! The helpers of the law. -/
theorem vints_l (l : List Int) (hn : l.length ≤ 1048576) : ∀ d i, i + d = l.length → Ev (fun k => laws_vInts.l0 k l l (i : Int)) true := by
 intro d
 induction d with
 | zero => intro i hi; exact Ev.step (fun k => by simp only [laws_vInts.l0]; rfl) (ev_neg (by omega) (ev_const rfl))
 | succ d ih =>
  intro i hi
  have hlt : i < l.length := by omega
  refine Ev.step (fun k => by simp only [laws_vInts.l0]; rfl) (ev_pos (by omega) (ev_pos (by omega) (ev_pos (by omega) ?_)))
  rw [wsucc hlt (by omega)]
  exact ev_pos trivial (ih (i + 1) (by omega))
theorem vints_ev (l : List Int) (hn : l.length ≤ 1048576) : Ev (fun k => laws_vInts.f k l l) true := by
 unfold laws_vInts.f
 exact ev_pos rfl (vints_l l hn l.length 0 (by omega))
theorem vhas_l (l : List Int) (x : Int) (hn : l.length ≤ 1048576) : ∀ d i, i + d = l.length → x ∈ l.drop i → Ev (fun k => laws_vHas.l0 k l x (i : Int)) true := by
 intro d
 induction d with
 | zero => intro i hi hx; rw [List.drop_of_length_le (by omega)] at hx; cases hx
 | succ d ih =>
  intro i hi hx
  have hlt : i < l.length := by omega
  refine Ev.step (fun k => by simp only [laws_vHas.l0]; rfl) (ev_pos (by omega) (ev_pos (by omega) ?_))
  rw [rd_at l i hlt, wsucc hlt (by omega)]
  rw [List.drop_eq_getElem_cons hlt] at hx
  by_cases h : l[i] = x
  ·exact ev_pos h (ev_const rfl)
  refine ev_neg h (ih (i + 1) (by omega) ?_)
  rcases List.mem_cons.mp hx with rfl | hx
  ·exact absurd rfl h
  exact hx
theorem vhas_ev (l : List Int) (x : Int) (hn : l.length ≤ 1048576) (hx : x ∈ l) : Ev (fun k => laws_vHas.f k l x) true := by
 unfold laws_vHas.f
 exact vhas_l l x hn l.length 0 (by omega) hx
/-! What the law says of the parts. -/
def wk (ok : Bool) (P : List Int) (b : List (List Int)) (q : Int) : List Int × List Int × Bool := if ok = true ∧ inr q 1 9 = true then (puts [] (owA P q b), puts [] (abA P q b), true) else ([], [], false)
theorem work_both {R h : Int} {l p : List Int} {ok : Bool} {b : List (List Int)} (hp : Parts R h l p ok b) (q : Int) : Ev (fun k => spec_PortWork.f k R h l p q) (wk ok l b q) ∧ Ev (fun k => impl_PortWork.f k R h l p q) (wk ok l b q) := by
 obtain ⟨h1, h2, h3⟩ := hp
 unfold spec_PortWork.f impl_PortWork.f wk
 have fs : Ev (fun k => spec_PortWork.j0 k p q [] [] true R h l) ([], [], false) := Ev.step (fun k => by simp only [spec_PortWork.j0]; rfl) (ev_pos trivial (ev_const rfl))
 have fi : ∀ c b, Ev (fun k => impl_PortWork.j0 k q true R h l c b) ([], [], false) := fun c b => Ev.step (fun k => by simp only [impl_PortWork.j0]; rfl) (ev_pos trivial (ev_const rfl))
 cases ok
 ·rw [if_neg (by simp)] at h2
  rw [if_neg (by simp)]
  exact ⟨Ev.bind (ev_const rfl) (Ev.bind (ev_const rfl) (Ev.bind h1 (ev_neg (by simp) fs))), Ev.bind h2 (ev_neg (by simp) (fi _ _))⟩
 rw [if_pos rfl] at h2
 obtain ⟨g1, g2, g3, g4, g5, g6, _⟩ := h3 rfl
 have hf := flat_len b g6
 cases hq : inr q 1 9
 ·rw [if_neg (by simp)]
  refine ⟨Ev.bind (ev_const rfl) (Ev.bind (ev_const rfl) (Ev.bind h1 (ev_pos rfl (ev_call (in_spec _ _ _) ?_)))), Ev.bind h2 (ev_pos rfl (ev_call (in_impl _ _ _) ?_))⟩
  ·rw [hq]; exact fs
  rw [hq]; exact fi _ _
 rw [if_pos ⟨rfl, rfl⟩]
 have e1 := work_spec q g4 R h h g5 g6 g3 b.length 0 [] [] (by omega) (by simp) (by simp)
 have e2 := work_impl q g4 R h g5 g6 g3 b.length 0 [] [] (by omega) (by simp) (by simp)
 rw [List.drop_zero] at e1 e2
 rw [List.nil_append, List.nil_append, sort_puts _ ((owA_sub l q b).nodup g2), sort_puts _ ((abA_sub l q b).nodup g2)] at e2
 refine ⟨Ev.bind (ev_const rfl) (Ev.bind (ev_const rfl) (Ev.bind h1 (ev_pos rfl (ev_call (in_spec _ _ _) ?_)))), Ev.bind h2 (ev_pos rfl (ev_call (in_impl _ _ _) ?_))⟩
 ·rw [hq]
  exact Ev.step (fun k => by simp only [spec_PortWork.j0]; rfl) (ev_neg (by simp) (Ev.bind g1 e1))
 rw [hq]
 exact Ev.step (fun k => by simp only [impl_PortWork.j0]; rfl) (ev_neg (by simp) e2)
theorem puts_once (l : List Int) (h : l.Nodup) : (puts [] l).length = l.length := by rw [← sort_puts l h, List.length_mergeSort]
theorem cnt_add (p q r : Int → Bool) (h : ∀ x, p x = true → q x = false) (h2 : ∀ x, r x = (p x || q x)) : ∀ l : List Int, l.countP p + l.countP q = l.countP r
  | [] => rfl
  | x :: l => by
    have ih := cnt_add p q r h h2 l
    rw [List.countP_cons, List.countP_cons, List.countP_cons, h2 x]
    cases hp : p x
    · cases hq : q x <;> simp <;> omega
    · rw [h x hp]; simp; omega
theorem owR_cnt (P : List Int) (q : Int) : ∀ l : List Int, (owR P q l).length = l.countP fun n => decide (rd P (n - 1) = q)
  | [] => rfl
  | n :: l => by
    unfold owR
    rw [List.countP_cons]
    split
    · rename_i hc
      rw [List.length_cons, owR_cnt P q l, if_pos (by simpa using hc)]
    · rename_i hc
      rw [owR_cnt P q l, if_neg (by simpa using hc)]; rfl
theorem owA_cnt (P : List Int) (q : Int) : ∀ l : List (List Int), (owA P q l).length = l.flatten.countP fun n => decide (rd P (n - 1) = q)
  | [] => rfl
  | r :: l => by rw [owA, List.length_append, owR_cnt, owA_cnt P q l, List.flatten_cons, List.countP_append]
def tot (P : List Int) (b : List (List Int)) : Nat → Nat
  | 0 => 0
  | m + 1 => tot P b m + (owA P ((m + 1 : Nat) : Int) b).length
theorem tot_cnt (P : List Int) (b : List (List Int)) : ∀ m : Nat, tot P b m = b.flatten.countP fun n => decide (1 ≤ rd P (n - 1) ∧ rd P (n - 1) ≤ (m : Int))
  | 0 => by
    rw [tot, eq_comm, List.countP_eq_zero]
    intro x _ h
    have := of_decide_eq_true h
    omega
  | m + 1 => by
    rw [tot, tot_cnt P b m, owA_cnt]
    refine cnt_add _ _ _ (fun x h => ?_) (fun x => ?_) _
    · have := of_decide_eq_true h
      exact decide_eq_false (by omega)
    · rw [← Bool.decide_or, decide_eq_decide]
      omega
theorem tot_all {P : List Int} {b : List (List Int)} (hP : ∀ x, x ∈ P → 1 ≤ x ∧ x ≤ 9) (hx : ∀ x, x ∈ b.flatten → 1 ≤ x ∧ x ≤ (P.length : Int)) : tot P b 9 = b.flatten.length := by
 rw [tot_cnt, List.countP_eq_length]
 intro n hn
 have h1 := hx n hn
 obtain ⟨m, hm⟩ := Int.eq_ofNat_of_zero_le (show 0 ≤ n - 1 by omega)
 rw [hm]
 have hlt : m < P.length := by omega
 rw [rd_at P m hlt]
 exact decide_eq_true (hP _ (List.getElem_mem hlt))
theorem abR_in (P : List Int) (q : Int) (row : List Int) (x : Int) : ∀ d j (f : Bool), j + d = row.length → (f = true → ∃ m, m ∈ row.take j ∧ rd P (m - 1) = q) → x ∈ abR P q f (row.drop j) → x ∈ shR P row d j
  | 0, j, f, hj, hf, hx => by
    rw [List.drop_of_length_le (by omega)] at hx
    unfold abR at hx
    cases hx
  | d + 1, j, f, hj, hf, hx => by
    have hlt : j < row.length := by omega
    have hup : ∀ m, m ∈ row.take j → m ∈ row.take (j + 1) := fun m hm => by
      rw [List.take_succ_eq_append_getElem hlt]; exact List.mem_append_left _ hm
    rw [List.drop_eq_getElem_cons hlt] at hx
    unfold abR at hx
    unfold shR
    split at hx
    · rename_i hc
      exact List.mem_append_right _ (abR_in P q row x d (j + 1) true (by omega) (fun _ => ⟨row[j], by rw [List.take_succ_eq_append_getElem hlt]; exact List.mem_append_right _ List.mem_cons_self, hc⟩) hx)
    · split at hx
      · rename_i hc hg
        rcases List.mem_cons.mp hx with rfl | hx
        · refine List.mem_append_left _ ?_
          obtain ⟨m, hm, hq⟩ := hf hg.1
          have hs : shB P row j = true := by
            unfold shB
            rw [List.any_eq_true]
            refine ⟨m, hm, decide_eq_true ?_⟩
            rw [getD_at _ _ _ hlt]
            have h1 : P.getD (m - 1).toNat 0 = q := hq
            have h2 : P.getD (row[j] - 1).toNat 0 > q := hg.2
            omega
          rw [if_pos hs, getD_at _ _ _ hlt]
          exact List.mem_cons_self
        · exact List.mem_append_right _ (abR_in P q row x d (j + 1) f (by omega) (fun h => by obtain ⟨m, hm, hq⟩ := hf h; exact ⟨m, hup m hm, hq⟩) hx)
      · exact List.mem_append_right _ (abR_in P q row x d (j + 1) f (by omega) (fun h => by obtain ⟨m, hm, hq⟩ := hf h; exact ⟨m, hup m hm, hq⟩) hx)
theorem abA_in (P : List Int) (q x : Int) : ∀ l : List (List Int), x ∈ abA P q l → x ∈ shA P l
  | [], h => h
  | r :: l, h => by
    unfold abA at h
    unfold shA
    rcases List.mem_append.mp h with h | h
    · exact List.mem_append_left _ (abR_in P q r x r.length 0 false (by omega) (fun h => by cases h) (by rw [List.drop_zero]; exact h))
    · exact List.mem_append_right _ (abA_in P q x l h)
/-! The law. -/
theorem law_l2 {P O : List Int} (h7 : P.length ≤ 7) (R h : Int) (hO : O.length ≤ 1048576) (hs : O.Pairwise (fun x y => key P x < key P y)) (hm : ∀ x, x ∈ O → inn P.length x) : ∀ d i, O.length ≤ i + d → 1 ≤ i → i ≤ 1048577 →
    Ev (fun k => laws_FnPortWork.l2 k O (P.length : Int) (i : Int) R h P) true := by
 intro d
 induction d with
 | zero =>
  intro i hi h1 h2
  exact Ev.step (fun k => by simp only [laws_FnPortWork.l2]; rfl) (ev_neg (by omega) (ev_const (by simp)))
 | succ d ih =>
  intro i hi h1 h2
  by_cases hlt : i < O.length
  rotate_left
  ·exact Ev.step (fun k => by simp only [laws_FnPortWork.l2]; rfl) (ev_neg (by omega) (ev_const (by simp)))
  have hlp : i - 1 < O.length := by omega
  have m1 := hm _ (List.getElem_mem hlp)
  have m2 := hm _ (List.getElem_mem hlt)
  have hk := List.pairwise_iff_getElem.mp hs (i - 1) i hlp hlt (by omega)
  unfold inn at m1 m2
  have e1 : ((i : Int) - 1) = ((i - 1 : Nat) : Int) := by omega
  refine Ev.step (fun k => by simp only [laws_FnPortWork.l2]; rfl) ?_
  rw [wr (x := (i : Int) - 1) (by omega) (by omega), e1, rd_at O (i - 1) hlp, rd_at O i hlt, wr (x := O[i - 1] - 1) (by omega) (by omega), wr (x := O[i] - 1) (by omega) (by omega), wsucc (n := 1048577) (by omega) (by omega)]
  refine ev_pos (by omega) (ev_pos (by omega) (ev_pos (by omega) (ev_pos (by omega) (ev_pos (by omega) (ev_pos (by omega) (ev_pos (by omega) (ev_pos (by omega) (ev_neg ?_ (ih (i + 1) (by omega) (by omega) (by omega))))))))))
  unfold key po at hk
  unfold rd
  omega
theorem law_l1 {P O W S pl : List Int} (R h x18 : Int) (q : Int) (hW : W.length ≤ 1048576) (hS : S.length ≤ 1048576) (hx : ∀ x, x ∈ S → x ∈ W) (he : Ev (fun k => laws_FnPortWork.l0 k pl W O x18 (wrap64 (q + 1)) R h P) true) : ∀ d j, j + d = S.length →
    Ev (fun k => laws_FnPortWork.l1 k pl W O x18 q S (j : Int) R h P) true := by
 intro d
 induction d with
 | zero => intro j hj; exact Ev.step (fun k => by simp only [laws_FnPortWork.l1]; rfl) (ev_neg (by omega) he)
 | succ d ih =>
  intro j hj
  have hlt : j < S.length := by omega
  refine Ev.step (fun k => by simp only [laws_FnPortWork.l1]; rfl) (ev_pos (by omega) (ev_pos (by omega) ?_))
  rw [rd_at S j hlt, wsucc hlt (by omega)]
  exact Ev.bind (vhas_ev W S[j] hW (hx _ (List.getElem_mem hlt))) (ev_pos rfl (ih (j + 1) (by omega)))
theorem law_l0 {R h : Int} {P pl O W : List Int} {b : List (List Int)} (hp : Parts R h P pl true b) (hO : O.length ≤ 1048576) (hs : O.Pairwise (fun x y => key P x < key P y)) (hm : ∀ x, x ∈ O → inn P.length x) (hW : W = puts [] (shA P b)) (hP : ∀ x, x ∈ P → 1 ≤ x ∧ x ≤ 9) : ∀ d m, m + d = 9 →
    Ev (fun k => laws_FnPortWork.l0 k pl W O (tot P b m : Int) ((m + 1 : Nat) : Int) R h P) true := by
 have hp2 := hp
 obtain ⟨_, _, h3⟩ := hp2
 obtain ⟨g1, g2, g3, g4, g5, g6, g7, g8, g9⟩ := h3 rfl
 have hf := flat_len b g6
 have hall := tot_all hP g3
 have hW2 : W.length ≤ 20 := by rw [hW]; exact sh_len g5 g6
 intro d
 induction d with
 | zero =>
  intro m hmd
  obtain rfl : m = 9 := by omega
  refine Ev.step (fun k => by simp only [laws_FnPortWork.l0]; rfl) (ev_neg (by decide) ?_)
  rw [hall, g9]
  exact law_l2 g4 R h hO hs hm O.length 1 (by omega) (by omega) (by omega)
 | succ d ih =>
  intro m hmd
  have hw := (work_both hp ((m + 1 : Nat) : Int)).2
  unfold wk at hw
  rw [if_pos ⟨rfl, inr_iff.mpr (by omega)⟩] at hw
  have hn1 : (owA P ((m + 1 : Nat) : Int) b).Nodup := (owA_sub P _ b).nodup g2
  have hl1 := (owA_sub P ((m + 1 : Nat) : Int) b).length_le
  have hl2 := (abA_sub P ((m + 1 : Nat) : Int) b).length_le
  have hl3 := puts_len (abA P ((m + 1 : Nat) : Int) b) []
  rw [List.length_nil] at hl3
  have ht : tot P b m ≤ b.flatten.length := by rw [tot_cnt]; exact List.countP_le_length
  refine Ev.step (fun k => by simp only [laws_FnPortWork.l0]; rfl) (ev_pos (by omega) (Ev.bind hw (ev_pos rfl ?_)))
  rw [puts_once _ hn1, wr (x := (tot P b m : Int) + ((owA P ((m + 1 : Nat) : Int) b).length : Int)) (by omega) (by omega)]
  have e : (tot P b m : Int) + ((owA P ((m + 1 : Nat) : Int) b).length : Int) = (tot P b (m + 1) : Int) := by rw [tot]; omega
  rw [e]
  refine law_l1 R h _ _ (by omega) (by dsimp only; omega) (fun x hx => ?_) ?_ _ 0 (Nat.zero_add _)
  ·rw [hW, puts_mem]
   rw [puts_mem] at hx
   rcases hx with hx | hx
   ·cases hx
   exact Or.inr (abA_in P _ x b hx)
  rw [wsucc (n := 100) (by omega) (by omega)]
  exact ih (m + 1) (by omega)
theorem law_true {l0 : List Int} (hl : l0.length ≤ 9223372036854775807) (hw : ∀ x, x ∈ l0 → 0 ≤ x ∧ x ≤ 255) : Ev (fun k => laws_FnPortWork.f k l0) true := by
 unfold laws_FnPortWork.f
 have hb : laws_vBig.f l0 = some (decide ((l0.length : Int) > 65536)) := rfl
 refine ev_call hb ?_
 by_cases hbig : (l0.length : Int) > 65536
 ·rw [decide_eq_true hbig]; exact ev_pos rfl (ev_const rfl)
 rw [decide_eq_false hbig]
 refine ev_neg (by simp) ?_
 obtain ⟨R, h, P, pl, q, e, p1, p2⟩ := draw_ev (c := l0) ⟨by omega, hw⟩
 obtain ⟨ok, b, hp⟩ := plan_parts R h P (by omega) pl p2
 obtain ⟨w1, w2⟩ := work_both hp q
 have hlen : (wk ok P b q).1.length ≤ 1048576 ∧ (wk ok P b q).2.1.length ≤ 1048576 := by
   unfold wk
   split
   · rename_i hc
     obtain ⟨_, g2, g3, g4, g5, g6, _⟩ := hp.2.2 hc.1
     have hf := flat_len b g6
     have l1 := puts_len (owA P q b) []
     have l2 := puts_len (abA P q b) []
     have l3 := (owA_sub P q b).length_le
     have l4 := (abA_sub P q b).length_le
     rw [List.length_nil] at l1 l2
     dsimp only
     omega
   · exact ⟨by simp, by simp⟩
 refine Ev.bind e ?_
 refine Ev.bind w2 ?_
 refine Ev.bind w1 ?_
 refine ev_neg (by simp) ?_
 refine Ev.bind (vints_ev _ hlen.1) ?_
 refine ev_pos rfl ?_
 refine Ev.bind (vints_ev _ hlen.2) ?_
 refine ev_pos rfl ?_
 by_cases hc : ok = true ∧ inr q 1 9 = true
 rotate_left
 ·have hwk : wk ok P b q = ([], [], false) := if_neg hc
  rw [hwk]
  exact ev_neg (by simp) (ev_const rfl)
 have hwk : wk ok P b q = (puts [] (owA P q b), puts [] (abA P q b), true) := if_pos hc
 obtain ⟨rfl, hq⟩ := hc
 have hp2 := hp
 obtain ⟨_, h2, h3⟩ := hp2
 rw [if_pos rfl] at h2
 obtain ⟨g1, g2, g3, g4, g5, g6, g7, g8, g9⟩ := h3 rfl
 have hk2 := g8
 unfold okSt at hk2
 simp only [Bool.and_eq_true, decide_eq_true_eq] at hk2
 obtain ⟨_, _, h7, _, hp9⟩ := hk2
 have hP : ∀ x, x ∈ P → 1 ≤ x ∧ x ≤ 9 := fun x hx => by
   rw [← all_not_any] at hp9
   exact inr_iff.mp (List.all_eq_true.mp hp9 x hx)
 obtain ⟨o1, o2⟩ := ord_sorted g4 hP
 have hol := ldOrd_len P
 have s1 : Ev (fun k => impl_ShiftedBoxes.f k R h P pl) (puts [] (shA P b), true) := by
   unfold impl_ShiftedBoxes.f
   exact Ev.bind h2 (ev_pos rfl (ev_call (sh_impl R h h g5 g6 g3 g2) (ev_const rfl)))
 have s2 : impl_LoadOrder.f R h P = some (ldOrd P, true) := by unfold impl_LoadOrder.f; rw [if_pos g8]
 have s3 : Ev (fun k => impl_RowPorts.f k R h P pl) (rwA P b, true) := by
   unfold impl_RowPorts.f
   have := rows_impl g4 R h g5 g6 g3 b.length 0 [] (by omega) rfl
   rw [List.drop_zero, List.nil_append] at this
   exact Ev.bind h2 (ev_pos rfl this)
 refine ev_pos (by rw [hwk]) ?_
 refine Ev.bind s1 ?_
 refine ev_call s2 ?_
 refine Ev.bind s3 ?_
 refine ev_pos rfl ?_
 refine ev_pos rfl ?_
 refine ev_pos rfl ?_
 refine ev_pos (by dsimp only; omega) ?_
 refine ev_pos (by dsimp only; rw [rwA_len]; exact g7) ?_
 exact law_l0 hp (by omega) o1 (fun x hx => (o2 x).mp hx) rfl hP 9 0 rfl
end Go.Proofs.Ytipahijdcgoemaa.UB
