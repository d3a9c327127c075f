/- The numbers that are badly placed: the program's, sorted, and the reference's, each put in its place. -/
import Derived.Test.YtchjkaondonldaaPx0
import Derived.Test.YtchjkaondonldaaPx14
import Derived.Test.YtchjkaondonldaaPx15
import Derived.Test.YtchjkaondonldaaPx17
import Derived.Test.YtchjkaondonldaaPx5
import Derived.Test.YtchjkaondonldaaUBadL
import Derived.Test.YtchjkaondonldaaUPut
import Derived.Test.YtchjkaondonldaaUYardMem
namespace Go.Proofs.Ytchjkaondonldaa.UY
open Go.RowKit Go.Proofs.YtchjkaondonldaaW.PrintWords Go.Proofs.YtchjkaondonldaaW.PrintMore Go.Proofs.Ytchjkaondonldaa.P Go.Proofs.Ytchjkaondonldaa.U Go.Proofs.Ytchjkaondonldaa.UT Go.Proofs.Ytchjkaondonldaa.US
set_option linter.unusedVariables false

def badR (row : List Int) : Nat → Nat → List Int
  | 0, _ => []
  | d + 1, j => (if bad row j = true then [row.getD j 0] else []) ++ badR row d (j + 1)
def badA : List (List Int) → List Int
  | [] => []
  | r :: l => badR r r.length 0 ++ badA l
theorem blist_badR (row : List Int) : ∀ d j (acc : List Int), blist row d j acc = acc ++ badR row d j
  | 0, _, acc => by simp [blist, badR]
  | d + 1, j, acc => by
    unfold blist badR
    rw [blist_badR row d]
    split
    · rw [List.append_assoc]
    · rw [List.nil_append]
theorem badR_sub (row : List Int) : ∀ d j, j + d = row.length → (badR row d j).Sublist (row.drop j)
  | 0, j, h => by unfold badR; exact List.nil_sublist _
  | d + 1, j, h => by
    have hlt : j < row.length := by omega
    unfold badR
    rw [List.drop_eq_getElem_cons hlt, getD_at _ _ _ hlt]
    have ih := badR_sub row d (j + 1) (by omega)
    split
    · exact ih.cons_cons _
    · rw [List.nil_append]; exact ih.cons _
theorem badA_sub : ∀ (l : List (List Int)), (badA l).Sublist l.flatten
  | [] => List.Sublist.refl _
  | r :: l => by
    unfold badA
    rw [List.flatten_cons]
    exact (badR_sub r r.length 0 (by omega)).append (badA_sub l)
theorem badR_len (row : List Int) : ∀ d j, (badR row d j).length ≤ d
  | 0, _ => Nat.le_refl _
  | d + 1, j => by
    unfold badR
    have := badR_len row d (j + 1)
    rw [List.length_append]
    split
    · rw [List.length_singleton]; omega
    · rw [List.length_nil]; omega
theorem badA_len : ∀ (l : List (List Int)), (∀ x, x ∈ l → x.length ≤ 4) → (badA l).length ≤ 4 * l.length
  | [], _ => Nat.le_refl _
  | r :: l, h => by
    unfold badA
    have h1 := badR_len r r.length 0
    have h2 := h r List.mem_cons_self
    have h3 := badA_len l (fun x hx => h x (List.mem_cons_of_mem _ hx))
    rw [List.length_append, List.length_cons]; omega
theorem badA_nodup {l : List (List Int)} (h : okYard l = true) : (badA l).Nodup := by
  unfold okYard at h
  rw [Bool.and_eq_true] at h
  obtain ⟨t, ht⟩ := Option.isSome_iff_exists.mp h.2
  exact (badA_sub l).nodup (chkRows_once 4 l [] t ht).2.1
theorem bad_l {l : List (List Int)} (hn : l.length ≤ 6) (h4 : ∀ x, x ∈ l → x.length ≤ 4) : ∀ d i (acc : List Int), i + d = l.length → acc.length ≤ 4 * i → Ev (fun k => spec_l8Bad.l0 k acc (i : Int) l) (puts acc (badA (l.drop i))) := by
  intro d
  induction d with
  | zero =>
    intro i acc hi ha
    refine Ev.step (fun k => by simp only [spec_l8Bad.l0]; rfl) (ev_neg (by omega) (ev_const ?_))
    rw [List.drop_of_length_le (by omega)]; rfl
  | succ d ih =>
    intro i acc hi ha
    have hlt : i < l.length := by omega
    have h4i := h4 _ (List.getElem_mem hlt)
    refine Ev.step (fun k => by simp only [spec_l8Bad.l0]; rfl) (ev_pos (by omega) ?_)
    rw [List.drop_eq_getElem_cons hlt]
    have inner : ∀ e j (acc : List Int), j + e = l[i].length → acc.length ≤ 4 * i + j → Ev (fun k => spec_l8Bad.l1 k acc (i : Int) (j : Int) l) (puts (puts acc (badR l[i] e j)) (badA (l.drop (i + 1)))) := by
      intro e
      induction e with
      | zero =>
        intro j acc hj ha
        refine Ev.step (fun k => by simp only [spec_l8Bad.l1]; rfl) (ev_pos (by omega) (ev_pos (by omega) ?_))
        rw [rd_l1 l i hlt, wsucc hlt (by omega)]
        exact ev_neg (by omega) (ih (i + 1) acc (by omega) (by omega))
      | succ e ihe =>
        intro j acc hj ha
        have hjt : j < l[i].length := by omega
        refine Ev.step (fun k => by simp only [spec_l8Bad.l1]; rfl) (ev_pos (by omega) (ev_pos (by omega) ?_))
        rw [rd_l1 l i hlt, rd_at _ j hjt, wsucc hjt (by omega)]
        obtain ⟨c, hc, _, hb⟩ := bad_spec l[i] j hjt (by omega)
        refine ev_pos (by omega) (Ev.bind hc ?_)
        unfold badR
        rw [getD_at _ _ _ hjt]
        by_cases h0 : c > 0
        · rw [decide_eq_true h0] at hb
          rw [if_pos hb.symm]
          refine ev_pos h0 (ev_pos (by omega) (Ev.bind (put_ev acc l[i][j] (by omega)) ?_))
          have hp := put_len l[i][j] acc
          exact ihe (j + 1) _ (by omega) (by omega)
        · rw [decide_eq_false h0] at hb
          rw [if_neg (by rw [← hb]; simp)]
          exact ev_neg h0 (ihe (j + 1) acc (by omega) (by omega))
    have h := inner l[i].length 0 acc (by omega) (by omega)
    unfold badA
    rw [puts_app]
    exact h
theorem bad_ev {l : List (List Int)} (hn : l.length ≤ 6) (h4 : ∀ x, x ∈ l → x.length ≤ 4) : Ev (fun k => spec_l8Bad.f k l) (puts [] (badA l)) := by
  unfold spec_l8Bad.f
  exact bad_l hn h4 l.length 0 [] (by omega) (by simp)
theorem sort_ev (l : List Int) (h : l.length ≤ 1048576) : slices_Sort_int_int.f l = some (l.mergeSort fun x y => decide (x ≤ y)) := by
  unfold slices_Sort_int_int.f
  rw [if_pos (by omega)]
theorem all_impl_l {l : List (List Int)} (hn : l.length ≤ 6) (h4 : ∀ x, x ∈ l → x.length ≤ 4) : ∀ d i (acc : List Int), i + d = l.length → acc.length ≤ 4 * i → Ev (fun k => impl_allBadlyPlaced.l0 k acc l (l.length : Int) (i : Int)) ((acc ++ badA (l.drop i)).mergeSort fun x y => decide (x ≤ y)) := by
  intro d
  induction d with
  | zero =>
    intro i acc hi ha
    refine Ev.step (fun k => by simp only [impl_allBadlyPlaced.l0]; rfl) (ev_neg (by omega) (ev_const ?_))
    rw [List.drop_of_length_le (by omega), sort_ev acc (by omega), show badA [] = [] from rfl, List.append_nil]; rfl
  | succ d ih =>
    intro i acc hi ha
    have hlt : i < l.length := by omega
    have h4i := h4 _ (List.getElem_mem hlt)
    refine Ev.step (fun k => by simp only [impl_allBadlyPlaced.l0]; rfl) (ev_pos (by omega) (ev_pos (by omega) (ev_pos (by omega) ?_)))
    rw [rd_l1 l i hlt, wsucc hlt (by omega), List.drop_eq_getElem_cons hlt]
    refine Ev.bind (bp_ev l[i] (by omega)) ?_
    rw [blist_badR, List.nil_append]
    have hb := badR_len l[i] l[i].length 0
    refine ev_pos (by omega) ?_
    have h := ih (i + 1) (acc ++ badR l[i] l[i].length 0) (by omega) (by rw [List.length_append]; omega)
    rw [List.append_assoc] at h
    exact h
theorem all_impl {l : List (List Int)} (h : okYard l = true) : Ev (fun k => impl_allBadlyPlaced.f k l) (puts [] (badA l)) := by
  have hy := okYard_mem h
  unfold impl_allBadlyPlaced.f
  have e := all_impl_l hy.1.2 (fun x hx => (hy.2 x hx).1) l.length 0 [] (by omega) (by simp)
  rw [List.drop_zero, List.nil_append, sort_puts _ (badA_nodup h)] at e
  exact e
theorem badly_same (l : List (List Int)) (hn : l.length ≤ 1048576) (hx : ∀ x, x ∈ l → x.length ≤ 1048576) :
    ∃ (r : List Int) (b : Bool), Ev (fun k => spec_BadlyPlaced.f k l) (r, b) ∧ Ev (fun k => impl_BadlyPlaced.f k l) (r, b) ∧ r.length ≤ 1048576 := by
  unfold spec_BadlyPlaced.f impl_BadlyPlaced.f
  cases h : okYard l
  · refine ⟨[], false, Ev.bind (good_spec l hn hx) ?_, ev_call (show impl_IsValidYard.f l = some (okYard l) from rfl) ?_, by simp⟩
    · rw [h]; exact ev_neg (by simp) (ev_const rfl)
    · rw [h]; exact ev_neg (by simp) (ev_const rfl)
  · have hy := okYard_mem h
    refine ⟨puts [] (badA l), true, Ev.bind (good_spec l hn hx) ?_, ev_call (show impl_IsValidYard.f l = some (okYard l) from rfl) ?_, ?_⟩
    · rw [h]; exact ev_pos rfl (Ev.bind (bad_ev hy.1.2 (fun x hx => (hy.2 x hx).1)) (ev_const rfl))
    · rw [h]; exact ev_pos rfl (Ev.bind (all_impl h) (ev_const rfl))
    · have h1 := puts_len (badA l) []
      have h2 := badA_len l (fun x hx => (hy.2 x hx).1)
      rw [List.length_nil] at h1
      omega
end Go.Proofs.Ytchjkaondonldaa.UY
