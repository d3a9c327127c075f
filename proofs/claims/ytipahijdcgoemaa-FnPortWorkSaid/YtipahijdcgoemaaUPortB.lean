/- The parts of the law: work, shifted boxes, rows, order, draws. -/
import Derived.Test.YtipahijdcgoemaaPx0
import Derived.Test.YtipahijdcgoemaaPx1
import Derived.Test.YtipahijdcgoemaaPx21
import Derived.Test.YtipahijdcgoemaaPx22
import Derived.Test.YtipahijdcgoemaaPx24
import Derived.Test.YtipahijdcgoemaaPx25
import Derived.Test.YtipahijdcgoemaaPx27
import Derived.Test.YtipahijdcgoemaaPx28
import Derived.Test.YtipahijdcgoemaaPx29
import Derived.Test.YtipahijdcgoemaaPx5
import Derived.Test.YtipahijdcgoemaaUPortA
import Derived.Laws.BitsLemmas
import Derived.Sort.LotA
namespace Go.Proofs.Ytipahijdcgoemaa.UB
open Go.RowKit Go.Proofs.YtipahijdcgoemaaW.PrintWords Go.Proofs.YtipahijdcgoemaaW.PrintMore Go.Proofs.Ytipahijdcgoemaa.P Go.Proofs.Ytipahijdcgoemaa.U Go.Proofs.Ytipahijdcgoemaa.UT Go.Proofs.Ytipahijdcgoemaa.US
set_option linter.unusedVariables false
def owR (P : List Int) (q : Int) : List Int → List Int
  | [] => []
  | n :: l => if rd P (n - 1) = q then n :: owR P q l else owR P q l
def abR (P : List Int) (q : Int) : Bool → List Int → List Int
  | _, [] => []
  | f, n :: l => if rd P (n - 1) = q then abR P q true l else if f = true ∧ rd P (n - 1) > q then n :: abR P q f l else abR P q f l
def owA (P : List Int) (q : Int) : List (List Int) → List Int
  | [] => []
  | r :: l => owR P q r ++ owA P q l
def abA (P : List Int) (q : Int) : List (List Int) → List Int
  | [] => []
  | r :: l => abR P q false r ++ abA P q l
theorem owR_sub (P : List Int) (q : Int) : ∀ (l : List Int), (owR P q l).Sublist l
  | [] => List.Sublist.refl _
  | n :: l => by
    unfold owR
    split
    · exact (owR_sub P q l).cons_cons _
    · exact (owR_sub P q l).cons _
theorem abR_sub (P : List Int) (q : Int) : ∀ (f : Bool) (l : List Int), (abR P q f l).Sublist l
  | _, [] => by unfold abR; exact List.Sublist.refl _
  | f, n :: l => by
    unfold abR
    split
    · exact (abR_sub P q true l).cons _
    · split
      · exact (abR_sub P q f l).cons_cons _
      · exact (abR_sub P q f l).cons _
theorem owA_sub (P : List Int) (q : Int) : ∀ (l : List (List Int)), (owA P q l).Sublist l.flatten
  | [] => List.Sublist.refl _
  | r :: l => by unfold owA; rw [List.flatten_cons]; exact (owR_sub P q r).append (owA_sub P q l)
theorem abA_sub (P : List Int) (q : Int) : ∀ (l : List (List Int)), (abA P q l).Sublist l.flatten
  | [] => List.Sublist.refl _
  | r :: l => by unfold abA; rw [List.flatten_cons]; exact (abR_sub P q false r).append (abA_sub P q l)
theorem flat_len : ∀ (l : List (List Int)), (∀ x, x ∈ l → x.length ≤ 4) → l.flatten.length ≤ 4 * l.length
  | [], _ => Nat.le_refl _
  | r :: l, h => by
    have h2 := h r List.mem_cons_self
    have h3 := flat_len l (fun x hx => h x (List.mem_cons_of_mem _ hx))
    rw [List.flatten_cons, List.length_append, List.length_cons]; omega
theorem work_row {P : List Int} (q : Int) {l : List (List Int)} (hP : P.length ≤ 7) (R h : Int) (i : Nat) (hi : i < l.length) (hn : l.length ≤ 5) (h4 : l[i].length ≤ 4) (hx : ∀ x, x ∈ l[i] → 1 ≤ x ∧ x ≤ (P.length : Int)) (r : List Int × List Int × Bool) : ∀ d j (o a : List Int) (f : Bool), j + d = l[i].length → o.length ≤ 4 * i + j → a.length ≤ 4 * i + j →
    Ev (fun k => impl_PortWork.l0 k q (o ++ owR P q (l[i].drop j)) (a ++ abR P q f (l[i].drop j)) l (l.length : Int) ((i + 1 : Nat) : Int) R h P) r → Ev (fun k => impl_PortWork.l1 k q o a f l (l.length : Int) (i : Int) l[i] (l[i].length : Int) (j : Int) R h P) r := by
 intro d
 induction d with
 | zero =>
  intro j o a f hj ho ha he
  refine Ev.step (fun k => by simp only [impl_PortWork.l1]; rfl) (ev_neg (by omega) ?_)
  rw [wsucc hi (by omega)]
  rw [List.drop_of_length_le (by omega), show owR P q [] = [] from rfl, show abR P q f [] = [] by unfold abR; rfl, List.append_nil, List.append_nil] at he
  exact he
 | succ d ih =>
  intro j o a f hj ho ha he
  have hjt : j < l[i].length := by omega
  have b1 := hx l[i][j] (List.getElem_mem hjt)
  refine Ev.step (fun k => by simp only [impl_PortWork.l1]; rfl) ?_
  rw [rd_at _ j hjt, wr (x := l[i][j] - 1) (by omega) (by omega), wsucc hjt (by omega)]
  rw [List.drop_eq_getElem_cons hjt, owR, abR] at he
  refine ev_pos (by omega) ?_
  refine ev_pos (by omega) ?_
  refine ev_pos (by omega) ?_
  refine ev_pos (by omega) ?_
  refine ev_pos (by omega) ?_
  by_cases hc : rd P (l[i][j] - 1) = q
  ·rw [if_pos hc, if_pos hc] at he
   refine ev_pos hc (ev_pos (by omega) (ih (j + 1) _ a true (by omega) (by rw [List.length_append, List.length_singleton]; omega) (by omega) ?_))
   rw [List.append_assoc]
   exact he
  rw [if_neg hc, if_neg hc] at he
  refine ev_neg hc ?_
  cases f
  ·rw [if_neg (by simp)] at he
   exact ev_neg (by simp) (ih (j + 1) o a false (by omega) (by omega) (by omega) he)
  refine ev_pos rfl ?_
  by_cases hg : rd P (l[i][j] - 1) > q
  rotate_left
  ·rw [if_neg (fun h2 => hg h2.2)] at he
   exact ev_neg hg (ih (j + 1) o a true (by omega) (by omega) (by omega) he)
  rw [if_pos ⟨rfl, hg⟩] at he
  refine ev_pos hg (ev_pos (by omega) (ih (j + 1) o _ true (by omega) (by omega) (by rw [List.length_append, List.length_singleton]; omega) ?_))
  rw [List.append_assoc]
  exact he
theorem owR_len (P : List Int) (q : Int) (l : List Int) : (owR P q l).length ≤ l.length := (owR_sub P q l).length_le
theorem abR_len (P : List Int) (q : Int) (f : Bool) (l : List Int) : (abR P q f l).length ≤ l.length := (abR_sub P q f l).length_le
theorem sort_f (l : List Int) (h : l.length ≤ 1048576) : slices_Sort_int_int.f l = some (l.mergeSort fun x y => decide (x ≤ y)) := by
 unfold slices_Sort_int_int.f
 rw [if_pos (by omega)]
theorem work_impl {P : List Int} (q : Int) {l : List (List Int)} (hP : P.length ≤ 7) (R h : Int) (hn : l.length ≤ 5) (h4 : ∀ x, x ∈ l → x.length ≤ 4) (hx : ∀ x, x ∈ l.flatten → 1 ≤ x ∧ x ≤ (P.length : Int)) : ∀ d i (o a : List Int), i + d = l.length → o.length ≤ 4 * i → a.length ≤ 4 * i →
    Ev (fun k => impl_PortWork.l0 k q o a l (l.length : Int) (i : Int) R h P) ((o ++ owA P q (l.drop i)).mergeSort (fun x y => decide (x ≤ y)), (a ++ abA P q (l.drop i)).mergeSort (fun x y => decide (x ≤ y)), true) := by
 intro d
 induction d with
 | zero =>
  intro i o a hi ho ha
  refine Ev.step (fun k => by simp only [impl_PortWork.l0]; rfl) (ev_neg (by omega) (ev_const ?_))
  rw [List.drop_of_length_le (by omega), sort_f o (by omega), sort_f a (by omega), show owA P q [] = [] from rfl, show abA P q [] = [] from rfl, List.append_nil, List.append_nil]; rfl
 | succ d ih =>
  intro i o a hi ho ha
  have hlt : i < l.length := by omega
  have h4i := h4 _ (List.getElem_mem hlt)
  refine Ev.step (fun k => by simp only [impl_PortWork.l0]; rfl) (ev_pos (by omega) (ev_pos (by omega) (ev_pos (by omega) ?_)))
  rw [rd_l1 l i hlt]
  refine work_row q hP R h i hlt hn h4i (fun x hx2 => hx x (List.mem_flatten.mpr ⟨_, List.getElem_mem hlt, hx2⟩)) _ l[i].length 0 o a false (by omega) (by omega) (by omega) ?_
  rw [List.drop_zero]
  have h1 := owR_len P q l[i]
  have h2 := abR_len P q false l[i]
  have hh := ih (i + 1) (o ++ owR P q l[i]) (a ++ abR P q false l[i]) (by omega) (by rw [List.length_append]; omega) (by rw [List.length_append]; omega)
  rw [List.drop_eq_getElem_cons hlt, owA, abA, ← List.append_assoc, ← List.append_assoc]
  exact hh
theorem work_rowS {P : List Int} (q : Int) {l : List (List Int)} (hP : P.length ≤ 7) (R h c : Int) (i : Nat) (hi : i < l.length) (hn : l.length ≤ 5) (h4 : l[i].length ≤ 4) (hx : ∀ x, x ∈ l[i] → 1 ≤ x ∧ x ≤ (P.length : Int)) (r : List Int × List Int × Bool) : ∀ d j (o a : List Int) (f : Bool), j + d = l[i].length → o.length ≤ 4 * i + j → a.length ≤ 4 * i + j →
    Ev (fun k => spec_PortWork.l0 k q (puts o (owR P q (l[i].drop j))) (puts a (abR P q f (l[i].drop j))) ((i + 1 : Nat) : Int) R h P c l) r → Ev (fun k => spec_PortWork.l1 k q o a (i : Int) f (j : Int) R h P c l) r := by
 intro d
 induction d with
 | zero =>
  intro j o a f hj ho ha he
  refine Ev.step (fun k => by simp only [spec_PortWork.l1]; rfl) ?_
  rw [rd_l1 l i hi, wsucc hi (by omega)]
  refine ev_pos (by omega) (ev_pos (by omega) (ev_neg (by omega) ?_))
  rw [List.drop_of_length_le (by omega), show owR P q [] = [] from rfl, show abR P q f [] = [] by unfold abR; rfl] at he
  exact he
 | succ d ih =>
  intro j o a f hj ho ha he
  have hjt : j < l[i].length := by omega
  have b1 := hx l[i][j] (List.getElem_mem hjt)
  refine Ev.step (fun k => by simp only [spec_PortWork.l1]; rfl) ?_
  rw [rd_l1 l i hi, rd_at _ j hjt, wr (x := l[i][j] - 1) (by omega) (by omega), wsucc hjt (by omega)]
  rw [List.drop_eq_getElem_cons hjt, owR, abR] at he
  refine ev_pos (by omega) ?_
  refine ev_pos (by omega) ?_
  refine ev_pos (by omega) ?_
  refine ev_pos (by omega) ?_
  refine ev_pos (by omega) ?_
  refine ev_pos (by omega) ?_
  have p1 := put_len l[i][j] o
  have p2 := put_len l[i][j] a
  by_cases hc : rd P (l[i][j] - 1) = q
  ·rw [if_pos hc, if_pos hc] at he
   exact ev_pos hc (Ev.bind (put_ev o l[i][j] (by omega)) (ih (j + 1) _ a true (by omega) (by omega) (by omega) he))
  rw [if_neg hc, if_neg hc] at he
  refine ev_neg hc ?_
  by_cases hg : rd P (l[i][j] - 1) > q
  rotate_left
  ·rw [if_neg (fun h2 => hg h2.2)] at he
   exact ev_neg hg (ih (j + 1) o a f (by omega) (by omega) (by omega) he)
  refine ev_pos hg ?_
  cases f
  ·rw [if_neg (by simp)] at he
   exact ev_neg (by simp) (ih (j + 1) o a false (by omega) (by omega) (by omega) he)
  rw [if_pos ⟨rfl, hg⟩] at he
  exact ev_pos rfl (Ev.bind (put_ev a l[i][j] (by omega)) (ih (j + 1) o _ true (by omega) (by omega) (by omega) he))
theorem work_spec {P : List Int} (q : Int) {l : List (List Int)} (hP : P.length ≤ 7) (R h c : Int) (hn : l.length ≤ 5) (h4 : ∀ x, x ∈ l → x.length ≤ 4) (hx : ∀ x, x ∈ l.flatten → 1 ≤ x ∧ x ≤ (P.length : Int)) : ∀ d i (o a : List Int), i + d = l.length → o.length ≤ 4 * i → a.length ≤ 4 * i →
    Ev (fun k => spec_PortWork.l0 k q o a (i : Int) R h P c l) (puts o (owA P q (l.drop i)), puts a (abA P q (l.drop i)), true) := by
 intro d
 induction d with
 | zero =>
  intro i o a hi ho ha
  refine Ev.step (fun k => by simp only [spec_PortWork.l0]; rfl) (ev_neg (by omega) (ev_const ?_))
  rw [List.drop_of_length_le (by omega)]; rfl
 | succ d ih =>
  intro i o a hi ho ha
  have hlt : i < l.length := by omega
  have h4i := h4 _ (List.getElem_mem hlt)
  refine Ev.step (fun k => by simp only [spec_PortWork.l0]; rfl) (ev_pos (by omega) ?_)
  refine work_rowS q hP R h c i hlt hn h4i (fun x hx2 => hx x (List.mem_flatten.mpr ⟨_, List.getElem_mem hlt, hx2⟩)) _ l[i].length 0 o a false (by omega) (by omega) (by omega) ?_
  rw [List.drop_zero]
  have h1 := owR_len P q l[i]
  have h2 := abR_len P q false l[i]
  have p1 := puts_len (owR P q l[i]) o
  have p2 := puts_len (abR P q false l[i]) a
  have hh := ih (i + 1) (puts o (owR P q l[i])) (puts a (abR P q false l[i])) (by omega) (by omega) (by omega)
  rw [List.drop_eq_getElem_cons hlt, owA, abA, puts_app, puts_app]
  exact hh
end Go.Proofs.Ytipahijdcgoemaa.UB
namespace Go.Proofs.Ytipahijdcgoemaa.UB
open Go.RowKit Go.Proofs.YtipahijdcgoemaaW.PrintWords Go.Proofs.YtipahijdcgoemaaW.PrintMore Go.Proofs.Ytipahijdcgoemaa.P Go.Proofs.Ytipahijdcgoemaa.U Go.Proofs.Ytipahijdcgoemaa.UT Go.Proofs.Ytipahijdcgoemaa.US
set_option linter.unusedVariables false
theorem put_idem (n : Int) : ∀ (l : List Int), put (put l n) n = put l n
  | [] => by simp [put]
  | x :: l => by
    by_cases h : x < n
    · have e : put (x :: l) n = x :: put l n := by rw [put, if_pos h]
      rw [e]
      rw [show put (x :: put l n) n = x :: put (put l n) n by rw [put, if_pos h], put_idem n l]
    · by_cases h2 : x = n
      · subst h2
        have e : put (x :: l) x = x :: l := by rw [put, if_neg h, if_pos rfl]
        rw [e, e]
      · have e : put (x :: l) n = n :: x :: l := by rw [put, if_neg h, if_neg h2]
        rw [e, put, if_neg (by omega), if_pos rfl]
theorem shR_sub (ports row : List Int) : ∀ d j, j + d = row.length → (shR ports row d j).Sublist (row.drop j)
  | 0, j, h => by unfold shR; exact List.nil_sublist _
  | d + 1, j, h => by
    have hlt : j < row.length := by omega
    unfold shR
    rw [List.drop_eq_getElem_cons hlt, getD_at _ _ _ hlt]
    have ih := shR_sub ports row d (j + 1) (by omega)
    split
    · exact ih.cons_cons _
    · rw [List.nil_append]; exact ih.cons _
theorem shA_sub (ports : List Int) : ∀ (l : List (List Int)), (shA ports l).Sublist l.flatten
  | [] => List.Sublist.refl _
  | r :: l => by
    unfold shA
    rw [List.flatten_cons]
    exact (shR_sub ports r r.length 0 (by omega)).append (shA_sub ports l)
abbrev pr (P row : List Int) (j : Nat) : Int → Bool := fun m => decide (P.getD (m - 1).toNat 0 < P.getD (row.getD j 0 - 1).toNat 0)
theorem sh_l2 {P : List Int} {l : List (List Int)} (hP : P.length ≤ 7) (R h c : Int) (i : Nat) (hi : i < l.length) (hn : l.length ≤ 5) (h4 : l[i].length ≤ 4) (hx : ∀ x, x ∈ l[i] → 1 ≤ x ∧ x ≤ (P.length : Int)) (j : Nat) (hj : j < l[i].length) (r : List Int) : ∀ d m (acc : List Int), m + d = j → acc.length + d ≤ 1048576 →
    Ev (fun k => spec_l10Shifted.l1 k (if ((l[i].take j).drop m).any (pr P l[i] j) = true then put acc l[i][j] else acc) (i : Int) ((j + 1 : Nat) : Int) R h P c l) r → Ev (fun k => spec_l10Shifted.l2 k acc (i : Int) (j : Int) (m : Int) R h P c l) r := by
 intro d
 induction d with
 | zero =>
  intro m acc hm ha he
  refine Ev.step (fun k => by simp only [spec_l10Shifted.l2]; rfl) (ev_neg (by omega) ?_)
  rw [wsucc hj (by omega)]
  rw [List.drop_of_length_le (by rw [List.length_take]; omega)] at he
  exact he
 | succ d ih =>
  intro m acc hm ha he
  have hmt : m < l[i].length := by omega
  have b1 := hx l[i][m] (List.getElem_mem hmt)
  have b2 := hx l[i][j] (List.getElem_mem hj)
  refine Ev.step (fun k => by simp only [spec_l10Shifted.l2]; rfl) ?_
  rw [rd_l1 l i hi, rd_at _ m hmt, rd_at _ j hj, wr (x := l[i][m] - 1) (by omega) (by omega), wr (x := l[i][j] - 1) (by omega) (by omega), wsucc hmt (by omega)]
  refine ev_pos (by omega) ?_
  refine ev_pos (by omega) ?_
  refine ev_pos (by omega) ?_
  refine ev_pos (by omega) ?_
  refine ev_pos (by omega) ?_
  refine ev_pos (by omega) ?_
  refine ev_pos (by omega) ?_
  refine ev_pos (by omega) ?_
  refine ev_pos (by omega) ?_
  refine ev_pos (by omega) ?_
  refine ev_pos (by omega) ?_
  have hmk : m < (l[i].take j).length := by rw [List.length_take]; omega
  have hd : (l[i].take j).drop m = l[i][m] :: (l[i].take j).drop (m + 1) := by rw [List.drop_eq_getElem_cons hmk, List.getElem_take]
  rw [hd, List.any_cons] at he
  have hp : pr P l[i] j l[i][m] = decide (rd P (l[i][m] - 1) < rd P (l[i][j] - 1)) := by
    unfold pr rd
    rw [getD_at _ _ _ hj]
  rw [hp] at he
  by_cases hc : rd P (l[i][m] - 1) < rd P (l[i][j] - 1)
  rotate_left
  ·rw [decide_eq_false hc, Bool.false_or] at he
   exact ev_neg hc (ih (m + 1) acc (by omega) (by omega) he)
  rw [decide_eq_true hc, Bool.true_or, if_pos rfl] at he
  have hl := put_len l[i][j] acc
  refine ev_pos hc (Ev.bind (put_ev acc l[i][j] (by omega)) ?_)
  refine ih (m + 1) _ (by omega) (by omega) ?_
  rw [put_idem]
  split <;> exact he
theorem sh_l1 {P : List Int} {l : List (List Int)} (hP : P.length ≤ 7) (R h c : Int) (i : Nat) (hi : i < l.length) (hn : l.length ≤ 5) (h4 : l[i].length ≤ 4) (hx : ∀ x, x ∈ l[i] → 1 ≤ x ∧ x ≤ (P.length : Int)) (r : List Int) : ∀ d j (acc : List Int), j + d = l[i].length → acc.length ≤ 4 * i + j →
    Ev (fun k => spec_l10Shifted.l0 k (puts acc (shR P l[i] d j)) ((i + 1 : Nat) : Int) R h P c l) r → Ev (fun k => spec_l10Shifted.l1 k acc (i : Int) (j : Int) R h P c l) r := by
 intro d
 induction d with
 | zero =>
  intro j acc hj ha he
  refine Ev.step (fun k => by simp only [spec_l10Shifted.l1]; rfl) ?_
  rw [rd_l1 l i hi, wsucc hi (by omega)]
  refine ev_pos (by omega) (ev_pos (by omega) (ev_neg (by omega) ?_))
  exact he
 | succ d ih =>
  intro j acc hj ha he
  have hjt : j < l[i].length := by omega
  refine Ev.step (fun k => by simp only [spec_l10Shifted.l1]; rfl) ?_
  rw [rd_l1 l i hi]
  refine ev_pos (by omega) (ev_pos (by omega) (ev_pos (by omega) ?_))
  refine sh_l2 hP R h c i hi hn h4 hx j hjt r j 0 acc (by omega) (by omega) ?_
  rw [List.drop_zero]
  have hl := put_len l[i][j] acc
  unfold shR at he
  rw [getD_at _ _ _ hjt] at he
  change Ev _ r at he
  cases hb : shB P l[i] j
  ·rw [hb, if_neg (by simp), List.nil_append] at he
   have hb2 : (l[i].take j).any (pr P l[i] j) = false := hb
   rw [hb2, if_neg (by simp)]
   exact ih (j + 1) acc (by omega) (by omega) he
  rw [hb, if_pos rfl] at he
  have hb2 : (l[i].take j).any (pr P l[i] j) = true := hb
  rw [hb2, if_pos rfl]
  exact ih (j + 1) _ (by omega) (by omega) he
theorem sh_l0 {P : List Int} {l : List (List Int)} (hP : P.length ≤ 7) (R h c : Int) (hn : l.length ≤ 5) (h4 : ∀ x, x ∈ l → x.length ≤ 4) (hx : ∀ x, x ∈ l.flatten → 1 ≤ x ∧ x ≤ (P.length : Int)) : ∀ d i (acc : List Int), i + d = l.length → acc.length ≤ 4 * i →
    Ev (fun k => spec_l10Shifted.l0 k acc (i : Int) R h P c l) (puts acc (shA P (l.drop i))) := by
 intro d
 induction d with
 | zero =>
  intro i acc hi ha
  refine Ev.step (fun k => by simp only [spec_l10Shifted.l0]; rfl) (ev_neg (by omega) (ev_const ?_))
  rw [List.drop_of_length_le (by omega)]; rfl
 | succ d ih =>
  intro i acc hi ha
  have hlt : i < l.length := by omega
  have h4i := h4 _ (List.getElem_mem hlt)
  refine Ev.step (fun k => by simp only [spec_l10Shifted.l0]; rfl) (ev_pos (by omega) ?_)
  rw [List.drop_eq_getElem_cons hlt]
  refine sh_l1 hP R h c i hlt hn h4i (fun x hx2 => hx x (List.mem_flatten.mpr ⟨_, List.getElem_mem hlt, hx2⟩)) _ l[i].length 0 acc (by omega) (by omega) ?_
  have hl := puts_len (shR P l[i] l[i].length 0) acc
  have hl2 := shR_len P l[i] l[i].length 0
  have hh := ih (i + 1) (puts acc (shR P l[i] l[i].length 0)) (by omega) (by omega)
  unfold shA
  rw [puts_app]
  exact hh
theorem sh_spec {P : List Int} {l : List (List Int)} (hP : P.length ≤ 7) (R h c : Int) (hn : l.length ≤ 5) (h4 : ∀ x, x ∈ l → x.length ≤ 4) (hx : ∀ x, x ∈ l.flatten → 1 ≤ x ∧ x ≤ (P.length : Int)) : Ev (fun k => spec_l10Shifted.f k R h P c l) (puts [] (shA P l)) := by
 unfold spec_l10Shifted.f
 exact sh_l0 hP R h c hn h4 hx l.length 0 [] (by omega) (by simp)
theorem sh_impl {P : List Int} {l : List (List Int)} (R h c : Int) (hn : l.length ≤ 5) (h4 : ∀ x, x ∈ l → x.length ≤ 4) (hx : ∀ x, x ∈ l.flatten → 1 ≤ x ∧ x ≤ (P.length : Int)) (h1 : l.flatten.Nodup) : impl_shiftedBoxes.f R h P c l = some (puts [] (shA P l)) := by
 have hf := flat_len l h4
 have hok : shOk P l = true := by
   unfold shOk
   rw [Bool.and_eq_true]
   refine ⟨decide_eq_true (by omega), List.all_eq_true.mpr fun r hr => List.all_eq_true.mpr fun m hm => ?_⟩
   have := hx m (List.mem_flatten.mpr ⟨r, hr, hm⟩)
   rw [Bool.and_eq_true]
   exact ⟨decide_eq_true this.1, decide_eq_true this.2⟩
 unfold impl_shiftedBoxes.f
 rw [if_pos hok, sort_puts _ ((shA_sub P l).nodup h1)]
theorem sh_len {P : List Int} {l : List (List Int)} (hn : l.length ≤ 5) (h4 : ∀ x, x ∈ l → x.length ≤ 4) : (puts [] (shA P l)).length ≤ 20 := by
 have h1 := puts_len (shA P l) []
 have h2 := shA_len P l
 have h3 := flat_len l h4
 rw [List.length_nil] at h1
 omega
end Go.Proofs.Ytipahijdcgoemaa.UB
namespace Go.Proofs.Ytipahijdcgoemaa.UB
open Go.RowKit Go.Proofs.YtipahijdcgoemaaW.PrintWords Go.Proofs.YtipahijdcgoemaaW.PrintMore Go.Proofs.Ytipahijdcgoemaa.P Go.Proofs.Ytipahijdcgoemaa.U Go.Proofs.Ytipahijdcgoemaa.UT Go.Proofs.Ytipahijdcgoemaa.US
set_option linter.unusedVariables false
def prt (P : List Int) (n : Int) : Int := rd P (n - 1)
def rwA (P : List Int) (l : List (List Int)) : List (List Int) := l.map fun r => Go.Lib.compact ((r.map (prt P)).mergeSort fun x y => decide (x ≤ y))
theorem rwA_len (P : List Int) (l : List (List Int)) : (rwA P l).length = l.length := by simp [rwA]
theorem comp_f (l : List Int) (h : l.length ≤ 1048576) : slices_Compact_int_int.f l = some (Go.Lib.compact l) := by
 unfold slices_Compact_int_int.f
 rw [if_pos (by omega)]
theorem row_impl {P : List Int} {l : List (List Int)} (hP : P.length ≤ 7) (R h : Int) (i : Nat) (hi : i < l.length) (hn : l.length ≤ 5) (h4 : l[i].length ≤ 4) (hx : ∀ x, x ∈ l[i] → 1 ≤ x ∧ x ≤ (P.length : Int)) (r : List (List Int) × Bool) : ∀ d j (out : List (List Int)) (o : List Int), j + d = l[i].length → o.length = j → out.length ≤ 5 →
    Ev (fun k => impl_RowPorts.l0 k (out ++ [Go.Lib.compact ((o ++ (l[i].drop j).map (prt P)).mergeSort fun x y => decide (x ≤ y))]) l (l.length : Int) ((i + 1 : Nat) : Int) R h P) r → Ev (fun k => impl_RowPorts.l1 k out o l (l.length : Int) (i : Int) l[i] (l[i].length : Int) (j : Int) R h P) r := by
 intro d
 induction d with
 | zero =>
  intro j out o hj ho hq he
  refine Ev.step (fun k => by simp only [impl_RowPorts.l1]; rfl) (ev_neg (by omega) ?_)
  rw [wsucc hi (by omega)]
  rw [List.drop_of_length_le (by omega), List.map_nil, List.append_nil] at he
  refine ev_call (sort_f o (by omega)) (ev_call (comp_f _ (by rw [List.length_mergeSort]; omega)) ?_)
  exact ev_pos (by omega) he
 | succ d ih =>
  intro j out o hj ho hq he
  have hjt : j < l[i].length := by omega
  have b1 := hx l[i][j] (List.getElem_mem hjt)
  refine Ev.step (fun k => by simp only [impl_RowPorts.l1]; rfl) ?_
  rw [rd_at _ j hjt, wr (x := l[i][j] - 1) (by omega) (by omega), wsucc hjt (by omega)]
  rw [List.drop_eq_getElem_cons hjt, List.map_cons] at he
  refine ev_pos (by omega) ?_
  refine ev_pos (by omega) ?_
  refine ev_pos (by omega) ?_
  refine ev_pos (by omega) ?_
  refine ev_pos (by omega) ?_
  refine ev_pos (by omega) ?_
  refine ih (j + 1) out _ (by omega) (by rw [List.length_append, List.length_singleton]; omega) hq ?_
  rw [List.append_assoc]
  exact he
theorem rows_impl {P : List Int} {l : List (List Int)} (hP : P.length ≤ 7) (R h : Int) (hn : l.length ≤ 5) (h4 : ∀ x, x ∈ l → x.length ≤ 4) (hx : ∀ x, x ∈ l.flatten → 1 ≤ x ∧ x ≤ (P.length : Int)) : ∀ d i (out : List (List Int)), i + d = l.length → out.length = i →
    Ev (fun k => impl_RowPorts.l0 k out l (l.length : Int) (i : Int) R h P) (out ++ rwA P (l.drop i), true) := by
 intro d
 induction d with
 | zero =>
  intro i out hi ho
  refine Ev.step (fun k => by simp only [impl_RowPorts.l0]; rfl) (ev_neg (by omega) (ev_const ?_))
  rw [List.drop_of_length_le (by omega), show rwA P [] = [] from rfl, List.append_nil]
 | succ d ih =>
  intro i out hi ho
  have hlt : i < l.length := by omega
  have h4i := h4 _ (List.getElem_mem hlt)
  refine Ev.step (fun k => by simp only [impl_RowPorts.l0]; rfl) (ev_pos (by omega) (ev_pos (by omega) (ev_pos (by omega) ?_)))
  rw [rd_l1 l i hlt]
  refine row_impl hP R h i hlt hn h4i (fun x hx2 => hx x (List.mem_flatten.mpr ⟨_, List.getElem_mem hlt, hx2⟩)) _ l[i].length 0 out [] (by omega) rfl (by omega) ?_
  rw [List.drop_zero, List.nil_append]
  have hh := ih (i + 1) (out ++ [Go.Lib.compact ((l[i].map (prt P)).mergeSort fun x y => decide (x ≤ y))]) (by omega) (by rw [List.length_append, List.length_singleton]; omega)
  have e : out ++ rwA P (l.drop i) = out ++ [Go.Lib.compact ((l[i].map (prt P)).mergeSort fun x y => decide (x ≤ y))] ++ rwA P (l.drop (i + 1)) := by
    rw [List.drop_eq_getElem_cons hlt, List.append_assoc]; rfl
  rw [e]
  exact hh
end Go.Proofs.Ytipahijdcgoemaa.UB
namespace Go.Proofs.Ytipahijdcgoemaa.UB
open Go.RowKit Go.Proofs.YtipahijdcgoemaaW.PrintWords Go.Proofs.YtipahijdcgoemaaW.PrintMore Go.Proofs.Ytipahijdcgoemaa.P Go.Proofs.Ytipahijdcgoemaa.U Go.Proofs.Ytipahijdcgoemaa.UT
open Go.Sort (insInner insOuter insertionSort swp swp_get size_swp SWO insertionSort_holds)
set_option linter.unusedVariables false
theorem insOuter_go (lt : Int → Int → Bool) (a b i : Nat) (d : Array Int) (h : i < b) : insOuter lt a b i d = insOuter lt a b (i + 1) (insInner lt a i d) := by rw [insOuter, if_pos h]
theorem insOuter_stop (lt : Int → Int → Bool) (a b i : Nat) (d : Array Int) (h : ¬ i < b) : insOuter lt a b i d = d := by rw [insOuter, if_neg h]
def po (P : List Int) (x : Int) : Int := P.getD (x - 1).toNat 0
def key (P : List Int) (x : Int) : Int := (10 - po P x) * 100 + x
def lt2 (P : List Int) (x y : Int) : Bool := decide (key P x < key P y)
def inn (n : Nat) (x : Int) : Prop := 1 ≤ x ∧ x ≤ (n : Int)
theorem cl_in {n : Nat} {x : Int} (h : inn n x) : ldCl n x = x := by unfold ldCl; exact if_pos h
theorem lt1_eq (P : List Int) {x y : Int} (hx : inn P.length x) (hy : inn P.length y) : Go.Proofs.ltOf (ldCf P) x y = decide (po P y < po P x) := by
 unfold Go.Proofs.ltOf ldCf ldCmp po
 rw [cl_in hx, cl_in hy]
 apply decide_eq_decide.mpr
 constructor
 ·intro h
  split at h
  ·assumption
  split at h <;> omega
 intro h; rw [if_pos h]; omega
theorem po_in {P : List Int} (hP : ∀ x, x ∈ P → 1 ≤ x ∧ x ≤ 9) {x : Int} (hx : inn P.length x) : 1 ≤ po P x ∧ po P x ≤ 9 := by
 unfold po
 obtain ⟨h1, h2⟩ := hx
 have h : (x - 1).toNat < P.length := by omega
 rw [getD_at _ _ _ h]
 exact hP _ (List.getElem_mem h)
theorem agree {P : List Int} (h7 : P.length ≤ 7) (hP : ∀ x, x ∈ P → 1 ≤ x ∧ x ≤ 9) {x y : Int} (hx : inn P.length x) (hy : inn P.length y) (hxy : y < x) : Go.Proofs.ltOf (ldCf P) x y = lt2 P x y := by
 rw [lt1_eq P hx hy]
 unfold lt2 key
 have h1 := po_in hP hx
 have h2 := po_in hP hy
 obtain ⟨a1, a2⟩ := hx
 obtain ⟨b1, b2⟩ := hy
 apply decide_eq_decide.mpr
 omega
theorem inner_same {P : List Int} (h7 : P.length ≤ 7) (hP : ∀ x, x ∈ P → 1 ≤ x ∧ x ≤ 9) : ∀ (j : Nat) (d : Array Int), j < d.size → (∀ q, q ≤ j → inn P.length d[q]!) → (∀ q, q < j → d[q]! < d[j]!) →
    insInner (Go.Proofs.ltOf (ldCf P)) 0 j d = insInner (lt2 P) 0 j d
  | 0, d, _, _, _ => by rw [insInner, insInner]
  | j + 1, d, hj, h1, h2 => by
    have e := agree h7 hP (h1 (j + 1) (Nat.le_refl _)) (h1 j (by omega)) (h2 j (by omega))
    rw [insInner, insInner, e]
    have g := swp_get d (i := j + 1) (j := j) hj (by omega)
    rw [inner_same h7 hP j (swp d (j + 1) j) (by rw [size_swp]; omega) (fun q hq => by
      rw [g]
      split
      · exact h1 _ (Nat.le_refl _)
      · rw [if_neg (by omega)]; exact h1 q (by omega)) (fun q hq => by
      rw [g, g, if_neg (by omega), if_neg (by omega), if_pos rfl]
      exact h2 q (by omega))]
theorem inner_keep (lt : Int → Int → Bool) (lo hi : Int) : ∀ (j : Nat) (d : Array Int), j < d.size → (∀ q, q ≤ j → lo ≤ d[q]! ∧ d[q]! ≤ hi) →
    (insInner lt 0 j d).size = d.size ∧ (∀ q, j < q → (insInner lt 0 j d)[q]! = d[q]!) ∧ (∀ q, q ≤ j → lo ≤ (insInner lt 0 j d)[q]! ∧ (insInner lt 0 j d)[q]! ≤ hi)
  | 0, d, _, h => by rw [insInner]; exact ⟨rfl, fun _ _ => rfl, h⟩
  | j + 1, d, hj, h => by
    rw [insInner]
    split
    · have g := swp_get d (i := j + 1) (j := j) hj (by omega)
      obtain ⟨k1, k2, k3⟩ := inner_keep lt lo hi j (swp d (j + 1) j) (by rw [size_swp]; omega) (fun q hq => by
        rw [g]
        split
        · exact h _ (Nat.le_refl _)
        · rw [if_neg (by omega)]; exact h q (by omega))
      refine ⟨by rw [k1, size_swp], fun q hq => ?_, fun q hq => ?_⟩
      · rw [k2 q (by omega), g, if_neg (by omega), if_neg (by omega)]
      · by_cases hq2 : q ≤ j
        · exact k3 q hq2
        · rw [k2 q (by omega), g, if_neg (by omega), if_pos (by omega)]
          exact h j (by omega)
    · exact ⟨rfl, fun _ _ => rfl, h⟩
theorem outer_same {P : List Int} (h7 : P.length ≤ 7) (hP : ∀ x, x ∈ P → 1 ≤ x ∧ x ≤ 9) : ∀ (m i : Nat) (d : Array Int), P.length - i = m → d.size = P.length → (∀ q, q < i → q < P.length → 1 ≤ d[q]! ∧ d[q]! ≤ (i : Int)) → (∀ q, i ≤ q → q < P.length → d[q]! = (q : Int) + 1) →
    insOuter (Go.Proofs.ltOf (ldCf P)) 0 P.length i d = insOuter (lt2 P) 0 P.length i d
  | 0, i, d, hm, _, _, _ => by rw [insOuter_stop _ _ _ _ _ (by omega), insOuter_stop _ _ _ _ _ (by omega)]
  | m + 1, i, d, hm, hs, h1, h2 => by
    have hi : i < P.length := by omega
    rw [insOuter_go _ _ _ _ _ hi, insOuter_go _ _ _ _ _ hi]
    have hd := h2 i (Nat.le_refl _) hi
    rw [inner_same h7 hP i d (by omega) (fun q hq => by
      by_cases hq2 : q < i
      · have := h1 q hq2 (by omega); exact ⟨this.1, by omega⟩
      · rw [show q = i by omega, hd]; exact ⟨by omega, by omega⟩) (fun q hq => by
      have := h1 q hq (by omega); omega)]
    obtain ⟨k1, k2, k3⟩ := inner_keep (lt2 P) 1 ((i : Int) + 1) i d (by omega) (fun q hq => by
      by_cases hq2 : q < i
      · have := h1 q hq2 (by omega); omega
      · rw [show q = i by omega, hd]; omega)
    exact outer_same h7 hP m (i + 1) _ (by omega) (by rw [k1]; exact hs) (fun q hq hq2 => by have := k3 q (by omega); omega) (fun q hq hq2 => by rw [k2 q (by omega)]; exact h2 q (by omega) hq2)
theorem lt2_swo (P : List Int) : SWO (lt2 P) := by
 unfold lt2
 refine ⟨fun x => by simp, fun x y z h1 h2 => ?_, fun x y z h1 h2 => ?_⟩
 ·rw [decide_eq_true_eq] at *; omega
 rw [decide_eq_false_iff_not] at *; omega
theorem nums_mem (n : Nat) (x : Int) : x ∈ ldNums n ↔ inn n x := by
 unfold ldNums inn
 rw [List.mem_map]
 constructor
 ·rintro ⟨i, hi, rfl⟩
  have := List.mem_range.mp hi
  omega
 rintro ⟨h1, h2⟩
 exact ⟨(x - 1).toNat, List.mem_range.mpr (by omega), by omega⟩
theorem nums_nodup (n : Nat) : (ldNums n).Nodup := by
 unfold ldNums
 rw [List.nodup_iff_pairwise_ne, List.pairwise_map]
 exact List.pairwise_lt_range.imp (fun {a b} h => by have : a < b := h; omega)
theorem eq_key (f : Int → Int) : ∀ (a b : List Int), a.Pairwise (fun x y => f x < f y) → b.Pairwise (fun x y => f x < f y) → (∀ x, x ∈ a ↔ x ∈ b) → a = b
  | [], [], _, _, _ => rfl
  | [], y :: b, _, _, h => by have := (h y).mpr List.mem_cons_self; cases this
  | x :: a, [], _, _, h => by have := (h x).mp List.mem_cons_self; cases this
  | x :: a, y :: b, ha, hb, h => by
    obtain ⟨a1, a2⟩ := List.pairwise_cons.mp ha
    obtain ⟨b1, b2⟩ := List.pairwise_cons.mp hb
    have hxy : x = y := by
      rcases List.mem_cons.mp ((h x).mp List.mem_cons_self) with e | hx
      · exact e
      · rcases List.mem_cons.mp ((h y).mpr List.mem_cons_self) with e | hy
        · exact e.symm
        · have := b1 x hx; have := a1 y hy; omega
    subst hxy
    rw [eq_key f a b a2 b2 (fun z => ?_)]
    constructor
    · intro hz
      rcases List.mem_cons.mp ((h z).mp (List.mem_cons_of_mem _ hz)) with rfl | hz2
      · have := a1 z hz; omega
      · exact hz2
    · intro hz
      rcases List.mem_cons.mp ((h z).mpr (List.mem_cons_of_mem _ hz)) with rfl | hz2
      · have := b1 z hz; omega
      · exact hz2
theorem ord_sorted {P : List Int} (h7 : P.length ≤ 7) (hP : ∀ x, x ∈ P → 1 ≤ x ∧ x ≤ 9) : (ldOrd P).Pairwise (fun x y => key P x < key P y) ∧ ∀ x, x ∈ ldOrd P ↔ inn P.length x := by
 have hs : (ldNums P.length).toArray.size = P.length := by simp [ldNums]
 have e : insertionSort (Go.Proofs.ltOf (ldCf P)) (ldNums P.length).toArray 0 P.length = insertionSort (lt2 P) (ldNums P.length).toArray 0 P.length := by
   have hat : ∀ q, q < P.length → (ldNums P.length).toArray[q]! = (q : Int) + 1 := fun q hq => by
     rw [getElem!_pos _ q (by rw [hs]; exact hq)]
     simp [ldNums]
   unfold insertionSort
   exact outer_same h7 hP _ _ _ rfl hs (fun q hq hq2 => by rw [hat q hq2]; omega) (fun q _ hq2 => hat q hq2)
 obtain ⟨⟨p1, _, p3⟩, s1⟩ := insertionSort_holds (lt2_swo P) (ldNums P.length).toArray 0 P.length (Nat.zero_le _) (by rw [hs]; exact Nat.le_refl _)
 rw [← e] at p1 p3 s1
 generalize hres : insertionSort (Go.Proofs.ltOf (ldCf P)) (ldNums P.length).toArray 0 P.length = res at p1 p3 s1
 have hsz : res.size = P.length := by rw [p1, hs]
 have hp : res.toList.Perm (ldNums P.length) := by
   have e1 : (res.extract 0 P.length) = res := by rw [← hsz]; simp
   have e2 : ((ldNums P.length).toArray.extract 0 P.length) = (ldNums P.length).toArray := by
     have := hs
     apply Array.ext
     · simp [ldNums]
     · intro i h1 h2; simp
   rw [e1, e2] at p3
   simpa using p3
 have hm : ∀ x, x ∈ res.toList ↔ inn P.length x := fun x => by rw [hp.mem_iff, nums_mem]
 have hnd : res.toList.Nodup := (hp.nodup_iff).mpr (nums_nodup _)
 have ho : ldOrd P = res.toList := by
   unfold ldOrd
   rw [hres]
   have : ∀ x, x ∈ res.toList → ldCl P.length x = x := fun x hx => cl_in ((hm x).mp hx)
   rw [List.map_congr_left this]
   simp
 rw [ho]
 refine ⟨?_, hm⟩
 rw [List.pairwise_iff_getElem]
 intro i j hi hj hij
 have hi2 : i < res.size := by simpa using hi
 have hj2 : j < res.size := by simpa using hj
 have h1 := s1 i j (Nat.zero_le _) hij (by omega)
 rw [getElem!_pos res i hi2, getElem!_pos res j hj2] at h1
 unfold lt2 at h1
 rw [decide_eq_false_iff_not] at h1
 rw [Array.getElem_toList, Array.getElem_toList]
 have hne : res[i] ≠ res[j] := fun h => by
   have h2 := List.pairwise_iff_getElem.mp (List.nodup_iff_pairwise_ne.mp hnd) i j hi hj hij
   rw [Array.getElem_toList, Array.getElem_toList] at h2
   exact h2 h
 have a1 := (hm res[i]).mp (by simp)
 have a2 := (hm res[j]).mp (by simp)
 have q1 := po_in hP a1
 have q2 := po_in hP a2
 unfold key at h1 ⊢
 unfold inn at a1 a2
 omega
end Go.Proofs.Ytipahijdcgoemaa.UB
namespace Go.Proofs.Ytipahijdcgoemaa.UD
open Go.RowKit Go.Proofs.YtipahijdcgoemaaW.PrintWords Go.Proofs.YtipahijdcgoemaaW.PrintMore Go.Proofs.Ytipahijdcgoemaa.P Go.Proofs.Ytipahijdcgoemaa.U
set_option linter.unusedVariables false
def codeOk (c : List Int) : Prop := c.length ≤ 65536 ∧ ∀ x, x ∈ c → 0 ≤ x ∧ x ≤ 255
theorem wf_u8 {x : Int} (h : (Lit.int .u8 x).wf = true) : 0 ≤ x ∧ x ≤ 255 := by
 have h1 : (decide (IntKind.u8.min ≤ x) && decide (x ≤ IntKind.u8.max)) = true := h
 rw [Bool.and_eq_true, decide_eq_true_iff, decide_eq_true_iff] at h1
 exact h1
theorem wrap_u64 (n : Int) : IntKind.u64.wrap n = n % 18446744073709551616 := by simp [IntKind.wrap, IntKind.bits, IntKind.signed]
theorem u64_low (n : Int) : 0 ≤ wrap64 (Go.bits .and .u64 (IntKind.u64.wrap n / 1099511627776) 255) ∧ wrap64 (Go.bits .and .u64 (IntKind.u64.wrap n / 1099511627776) 255) ≤ 255 := by
 have h : IntKind.u64.wrap n = n % 18446744073709551616 := wrap_u64 n
 have e := bits_mask .u64 24 (by decide) (fun m h0 h1 => by rw [wrap_u64]; omega) 8 (by decide) (IntKind.u64.wrap n / 1099511627776) (by omega) (by omega)
 have e2 : Go.bits .and .u64 (IntKind.u64.wrap n / 1099511627776) 255 = IntKind.u64.wrap n / 1099511627776 % 256 := e
 rw [e2, wr (by omega) (by omega)]
 omega
theorem next_ev {c : List Int} (hc : codeOk c) {i s : Int} (hi : 0 ≤ i ∧ i ≤ 1000000000) : ∃ r s', spec_l1Cur_next.f c i s = some (r, i + 1, s') ∧ 0 ≤ r ∧ r ≤ 255 := by
 have hw : wrap64 (i + 1) = i + 1 := wr (by omega) (by omega)
 unfold spec_l1Cur_next.f
 rw [hw]
 by_cases h1 : i < (c.length : Int)
 rotate_left
 ·rw [if_neg h1, if_neg (by have := hc.1; omega)]
  exact ⟨_, _, rfl, u64_low _⟩
 obtain ⟨n, rfl⟩ := Int.eq_ofNat_of_zero_le hi.1
 have hn : n < c.length := by omega
 have hb := hc.2 _ (List.getElem_mem hn)
 rw [if_pos h1, if_pos hi.1, if_pos (by omega), rd_at c n hn]
 exact ⟨_, _, rfl, by rw [wr (by omega) (by omega)]; exact hb⟩
theorem tmod_in {b n : Int} (hb : 0 ≤ b) (hn : 0 < n) : 0 ≤ Int.tmod b n ∧ Int.tmod b n < n := by
 rw [Int.tmod_eq_emod_of_nonneg hb]
 exact ⟨Int.emod_nonneg _ (by omega), Int.emod_lt_of_pos _ hn⟩
theorem pick_ev {c : List Int} (hc : codeOk c) {i s n : Int} (hi : 0 ≤ i ∧ i ≤ 999999990) : ∃ r j s', spec_l1Cur_pick.f c i s n = some (r, j, s') ∧ 0 ≤ r ∧ (r < n ∨ n ≤ 1 ∧ r = 0) ∧ i ≤ j ∧ j ≤ i + 2 := by
 unfold spec_l1Cur_pick.f
 by_cases h1 : n ≤ 1
 ·rw [if_pos h1]
  exact ⟨0, i, s, rfl, by omega, Or.inr ⟨h1, rfl⟩, by omega, by omega⟩
 rw [if_neg h1]
 obtain ⟨r1, s1, e1, b1⟩ := next_ev hc (s := s) (i := i) (by omega)
 rw [e1, Option.bind_some]
 dsimp only
 by_cases h2 : n > 200
 rotate_left
 ·rw [if_neg h2, if_neg (by omega)]
  have := tmod_in (b := r1) (n := n) (by omega) (by omega)
  exact ⟨_, _, _, rfl, this.1, Or.inl this.2, by omega, by omega⟩
 rw [if_pos h2]
 obtain ⟨r2, s2, e2, b2⟩ := next_ev hc (s := s1) (i := i + 1) (by omega)
 rw [e2, Option.bind_some]
 dsimp only
 rw [if_neg (by omega), wr (x := r1 * 256) (by omega) (by omega), wr (x := r1 * 256 + r2) (by omega) (by omega)]
 have := tmod_in (b := r1 * 256 + r2) (n := n) (by omega) (by omega)
 exact ⟨_, _, _, rfl, this.1, Or.inl this.2, by omega, by omega⟩
theorem among_ev {c : List Int} (hc : codeOk c) {i s : Int} (hi : 0 ≤ i ∧ i ≤ 999999990) (l : List Int) (hl : 0 < l.length) : ∃ r j s', spec_l1Cur_among.f c i s l = some (r, j, s') ∧ r ∈ l ∧ i ≤ j ∧ j ≤ i + 2 := by
 unfold spec_l1Cur_among.f
 obtain ⟨r, j, s1, e, h0, h1, h2⟩ := pick_ev hc (s := s) (n := (l.length : Int)) hi
 rw [e, Option.bind_some]
 dsimp only
 have hr : r < (l.length : Int) := by rcases h1 with h1 | h1 <;> omega
 rw [if_pos h0, if_pos hr]
 obtain ⟨n, rfl⟩ := Int.eq_ofNat_of_zero_le h0
 have hn : n < l.length := by omega
 exact ⟨_, _, _, rfl, by rw [rd_at l n hn]; exact List.getElem_mem hn, h2⟩
end Go.Proofs.Ytipahijdcgoemaa.UD
