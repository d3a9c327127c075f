/- The law of moves in a yard, with all that it takes over. -/
import Derived.Test.YtemildnlfjijmaaPx0
import Derived.Test.YtemildnlfjijmaaPx1
import Derived.Test.YtemildnlfjijmaaPx10
import Derived.Test.YtemildnlfjijmaaPx11
import Derived.Test.YtemildnlfjijmaaPx12
import Derived.Test.YtemildnlfjijmaaPx13
import Derived.Test.YtemildnlfjijmaaPx14
import Derived.Test.YtemildnlfjijmaaPx15
import Derived.Test.YtemildnlfjijmaaPx16
import Derived.Test.YtemildnlfjijmaaPx17
import Derived.Test.YtemildnlfjijmaaPx18
import Derived.Test.YtemildnlfjijmaaPx19
import Derived.Test.YtemildnlfjijmaaPx2
import Derived.Test.YtemildnlfjijmaaPx20
import Derived.Test.YtemildnlfjijmaaPx21
import Derived.Test.YtemildnlfjijmaaPx22
import Derived.Test.YtemildnlfjijmaaPx24
import Derived.Test.YtemildnlfjijmaaPx27
import Derived.Test.YtemildnlfjijmaaPx29
import Derived.Test.YtemildnlfjijmaaPx3
import Derived.Test.YtemildnlfjijmaaPx30
import Derived.Test.YtemildnlfjijmaaPx31
import Derived.Test.YtemildnlfjijmaaPx32
import Derived.Test.YtemildnlfjijmaaPx33
import Derived.Test.YtemildnlfjijmaaPx4
import Derived.Test.YtemildnlfjijmaaPx5
import Derived.Test.YtemildnlfjijmaaPx6
import Derived.Test.YtemildnlfjijmaaPx7
import Derived.Test.YtemildnlfjijmaaPx8
import Derived.Test.YtemildnlfjijmaaPx9
import Derived.Test.YtemildnlfjijmaaU
import Derived.Laws.BitsLemmas
namespace Go.Proofs.Ytemildnlfjijmaa.UT
open Go.RowKit Go.Proofs.YtemildnlfjijmaaW.PrintWords Go.Proofs.YtemildnlfjijmaaW.PrintMore Go.Proofs.Ytemildnlfjijmaa.P Go.Proofs.Ytemildnlfjijmaa.U
set_option linter.unusedVariables false

theorem rd_l1 (l : List (List Int)) (i : Nat) (h : i < l.length) : rd_L4 l (i : Int) = l[i] := by
  unfold rd_L4
  rw [Int.toNat_natCast]
  exact getD_at l i _ h
theorem in_spec (a b c : Int) : spec_l1In.f a b c = some (inr a b c) := by
  unfold spec_l1In.f inr
  by_cases h : b ≤ a <;> simp [h]
theorem has_l (l : List Int) (v : Int) (hn : l.length ≤ 9223372036854775807) : ∀ d i, i + d = l.length → Ev (fun k => spec_l1Has.l0 k l v (i : Int)) ((l.drop i).contains v) := by
  intro d
  induction d with
  | zero =>
    intro i hi
    refine Ev.step (fun k => by simp only [spec_l1Has.l0]; rfl) (ev_neg (by omega) (ev_const ?_))
    rw [List.drop_of_length_le (by omega)]; rfl
  | succ d ih =>
    intro i hi
    have hlt : i < l.length := by omega
    refine Ev.step (fun k => by simp only [spec_l1Has.l0]; rfl) ?_
    refine ev_pos (by omega) (ev_pos (by omega) ?_)
    rw [rd_at l i hlt, wsucc hlt hn, List.drop_eq_getElem_cons hlt, List.contains_cons]
    by_cases e : l[i] = v
    · exact ev_eq (ev_pos e (ev_const rfl)) (by simp [e])
    · exact ev_eq (ev_neg e (ih (i + 1) (by omega))) (by simp [Ne.symm e])
theorem has_ev (l : List Int) (v : Int) (hn : l.length ≤ 9223372036854775807) : Ev (fun k => spec_l1Has.f k l v) (l.contains v) := by
  unfold spec_l1Has.f
  exact has_l l v hn l.length 0 (by omega)
end Go.Proofs.Ytemildnlfjijmaa.UT
namespace Go.Proofs.Ytemildnlfjijmaa.UY
open Go.RowKit Go.Proofs.YtemildnlfjijmaaW.PrintWords Go.Proofs.YtemildnlfjijmaaW.PrintMore Go.Proofs.Ytemildnlfjijmaa.P Go.Proofs.Ytemildnlfjijmaa.U Go.Proofs.Ytemildnlfjijmaa.UT
set_option linter.unusedVariables false

theorem contains_rev (s : List Int) (n : Int) : s.reverse.contains n = s.contains n := by
  rw [Bool.eq_iff_iff]; simp
theorem good_l (l : List (List Int)) (hn : l.length ≤ 9223372036854775807) (hx : ∀ x, x ∈ l → x.length ≤ 1048576) : ∀ d i (s : List Int), i + d = l.length → s.length ≤ i * 1048576 → l.length ≤ 1048576 →
    Ev (fun k => spec_l5Good.l0 k s.reverse (i : Int) l) ((chkRows 4 (l.drop i) s).isSome) := by
  intro d
  induction d with
  | zero =>
    intro i s hi hs _
    refine Ev.step (fun k => by simp only [spec_l5Good.l0]; rfl) ?_
    refine ev_neg (by omega) (ev_const ?_)
    rw [List.drop_of_length_le (by omega)]; rfl
  | succ d ih =>
    intro i s hi hs hll
    have hlt : i < l.length := by omega
    refine Ev.step (fun k => by simp only [spec_l5Good.l0]; rfl) ?_
    refine ev_pos (by omega) (ev_pos (by omega) ?_)
    rw [rd_l1 l i hlt, List.drop_eq_getElem_cons hlt]
    have hxi := hx _ (List.getElem_mem hlt)
    unfold chkRows
    by_cases hc : (l[i].length : Int) ≤ 4
    · rw [if_pos hc]
      refine ev_neg (by omega) ?_
      have inner : ∀ e j (s : List Int), j + e = l[i].length → s.length ≤ i * 1048576 + j → Ev (fun k => spec_l5Good.l1 k s.reverse (i : Int) (j : Int) l) (((chkRow (l[i].drop j) s).bind (chkRows 4 (l.drop (i + 1)))).isSome) := by
        intro e
        induction e with
        | zero =>
          intro j s hj hs
          refine Ev.step (fun k => by simp only [spec_l5Good.l1]; rfl) ?_
          refine ev_pos (by omega) (ev_pos (by omega) ?_)
          rw [rd_l1 l i hlt, wsucc hlt hn]
          refine ev_neg (by omega) ?_
          rw [List.drop_of_length_le (by omega)]
          exact ih (i + 1) s (by omega) (by omega) hll
        | succ e ihe =>
          intro j s hj hs
          have hjt : j < l[i].length := by omega
          refine Ev.step (fun k => by simp only [spec_l5Good.l1]; rfl) ?_
          refine ev_pos (by omega) (ev_pos (by omega) ?_)
          rw [rd_l1 l i hlt, rd_at _ j hjt, wsucc hjt (by omega), List.drop_eq_getElem_cons hjt]
          refine ev_pos (by omega) (ev_pos (by omega) ?_)
          refine ev_call (in_spec _ _ _) ?_
          cases h1 : inr l[i][j] 1 99
          · exact ev_eq (ev_neg (by simp) (ev_const rfl)) (by rw [chkRow_bad (by rw [h1]; rfl)]; rfl)
          refine ev_pos rfl ?_
          have hh := has_ev s.reverse l[i][j] (by rw [List.length_reverse]; omega)
          rw [contains_rev] at hh
          refine Ev.bind hh ?_
          cases h2 : s.contains l[i][j]
          · refine ev_neg (by simp) (ev_pos (by rw [List.length_reverse]; omega) ?_)
            rw [chkRow_ok (by rw [h1, h2]; rfl)]
            have e2 := ihe (j + 1) (l[i][j] :: s) (by omega) (by rw [List.length_cons]; omega)
            rw [List.reverse_cons] at e2
            exact e2
          · exact ev_eq (ev_pos rfl (ev_const rfl)) (by rw [chkRow_bad (by rw [h1, h2]; rfl)]; rfl)
      exact inner l[i].length 0 s (by omega) (Nat.le_trans hs (Nat.le_add_right _ _))
    · rw [if_neg hc]
      exact ev_pos (by omega) (ev_const rfl)
theorem good_spec (l : List (List Int)) (hn : l.length ≤ 1048576) (hx : ∀ x, x ∈ l → x.length ≤ 1048576) : Ev (fun k => spec_l5Good.f k l) (okYard l) := by
  unfold spec_l5Good.f okYard
  refine ev_call (in_spec _ _ _) ?_
  cases h2 : inr (l.length : Int) 1 6
  · exact ev_neg (by simp) (ev_const rfl)
  · exact ev_pos rfl (good_l l (by omega) hx l.length 0 [] (by omega) (by simp) hn)
end Go.Proofs.Ytemildnlfjijmaa.UY
namespace Go.Proofs.Ytemildnlfjijmaa.UY
open Go.RowKit Go.Proofs.YtemildnlfjijmaaW.PrintWords Go.Proofs.YtemildnlfjijmaaW.PrintMore Go.Proofs.Ytemildnlfjijmaa.P Go.Proofs.Ytemildnlfjijmaa.U Go.Proofs.Ytemildnlfjijmaa.UT
set_option linter.unusedVariables false

/-! A valid yard. -/
theorem chkRow_mem : ∀ (l s t : List Int), chkRow l s = some t → ∀ n, n ∈ l → inr n 1 99 = true
  | [], _, _, _, n, hn => by cases hn
  | x :: l, s, t, h, n, hn => by
    unfold chkRow at h
    split at h
    · rename_i hc
      rw [Bool.and_eq_true] at hc
      rcases List.mem_cons.mp hn with rfl | hn
      · exact hc.1
      · exact chkRow_mem l _ _ h n hn
    · cases h
theorem chkRows_mem (cap : Int) : ∀ (l : List (List Int)) (s t : List Int), chkRows cap l s = some t → ∀ x, x ∈ l → (x.length : Int) ≤ cap ∧ ∀ n, n ∈ x → inr n 1 99 = true
  | [], _, _, _, x, hx => by cases hx
  | r :: l, s, t, h, x, hx => by
    unfold chkRows at h
    split at h
    · rename_i hc
      cases h1 : chkRow r s with
      | none => rw [h1] at h; cases h
      | some u =>
        rw [h1] at h
        rcases List.mem_cons.mp hx with rfl | hx
        · exact ⟨hc, chkRow_mem _ _ _ h1⟩
        · exact chkRows_mem cap l _ _ h x hx
    · cases h
theorem okYard_mem {l : List (List Int)} (h : okYard l = true) : (1 ≤ l.length ∧ l.length ≤ 6) ∧ ∀ x, x ∈ l → x.length ≤ 4 ∧ ∀ n, n ∈ x → 1 ≤ n ∧ n ≤ 99 := by
  unfold okYard at h
  rw [Bool.and_eq_true, inr_iff] at h
  obtain ⟨h1, h2⟩ := h
  obtain ⟨t, ht⟩ := Option.isSome_iff_exists.mp h2
  refine ⟨⟨by omega, by omega⟩, fun x hx => ?_⟩
  obtain ⟨h3, h4⟩ := chkRows_mem 4 l _ _ ht x hx
  exact ⟨by omega, fun n hn => inr_iff.mp (h4 n hn)⟩

end Go.Proofs.Ytemildnlfjijmaa.UY
namespace Go.Proofs.Ytemildnlfjijmaa.UC
open Go.RowKit Go.Proofs.YtemildnlfjijmaaW.PrintWords Go.Proofs.YtemildnlfjijmaaW.PrintMore Go.Proofs.Ytemildnlfjijmaa.P Go.Proofs.Ytemildnlfjijmaa.U Go.Proofs.Ytemildnlfjijmaa.UT
set_option linter.unusedVariables false

abbrev C := S71
theorem rd_c (l : List C) (i : Nat) (h : i < l.length) : rd_T71 l (i : Int) = l[i] := by
  unfold rd_T71
  rw [Int.toNat_natCast]
  exact getD_at l i _ h
def ltr (a : ByteArray) (i : Nat) : Bool := if i < 3 then inr (bt a (i : Int)) 65 90 else inr (bt a (i : Int)) 48 57
def val (a : ByteArray) (i : Nat) : Int := ((i : Int) + 2) * (if i < 3 then bt a (i : Int) - 64 else bt a (i : Int) - 48)
def chk (a : ByteArray) : Nat → Nat → Int → Option Int
  | 0, _, s => some s
  | d + 1, i, s => if ltr a i then chk a d (i + 1) (s + val a i) else none
theorem chk_isSome (a : ByteArray) : ∀ (d i : Nat) (s t : Int), (chk a d i s).isSome = (chk a d i t).isSome
  | 0, _, _, _ => rfl
  | d + 1, i, s, t => by
    unfold chk
    cases ltr a i
    · rfl
    · exact chk_isSome a d (i + 1) _ _
theorem val_range (a : ByteArray) (i : Nat) (hi : i < 7) (h : ltr a i = true) : 0 ≤ val a i ∧ val a i ≤ 1000 := by
  unfold ltr at h
  unfold val
  have hr := bt_range a (i : Int)
  rcases (show i = 0 ∨ i = 1 ∨ i = 2 ∨ i = 3 ∨ i = 4 ∨ i = 5 ∨ i = 6 by omega) with rfl | rfl | rfl | rfl | rfl | rfl | rfl <;> (simp [inr_iff] at h ⊢; omega)
theorem seven_l (a : ByteArray) (ha : a.size = 7) : ∀ (d i : Nat), i + d = 7 → Ev (fun k => spec_l2Seven.l0 k a (i : Int)) ((chk a d i 0).isSome) := by
  intro d
  induction d with
  | zero =>
    intro i hi
    refine Ev.step (fun k => by simp only [spec_l2Seven.l0]; rfl) ?_
    exact ev_neg (by omega) (ev_const rfl)
  | succ d ih =>
    intro i hi
    refine Ev.step (fun k => by simp only [spec_l2Seven.l0]; rfl) ?_
    refine ev_pos (by omega) ?_
    rw [wsucc (show i < 7 by omega) (by omega)]
    have h2 := ih (i + 1) (by omega)
    rw [chk_isSome a d (i + 1) 0 (0 + val a i)] at h2
    unfold chk
    by_cases h3 : i < 3
    · refine ev_pos (by omega) (ev_pos (by omega) (ev_pos (by omega) ?_))
      have el : ltr a i = inr (bt a (i : Int)) 65 90 := if_pos h3
      by_cases c1 : bt a (i : Int) < 65
      · refine ev_eq (ev_pos c1 (ev_const rfl)) ?_
        rw [el, inr_not.mpr (by omega)]; rfl
      · refine ev_neg c1 ?_
        by_cases c2 : bt a (i : Int) > 90
        · refine ev_eq (ev_pos c2 (ev_const rfl)) ?_
          rw [el, inr_not.mpr (by omega)]; rfl
        · refine ev_neg c2 (ev_neg (by omega) ?_)
          rw [el, inr_iff.mpr (by omega), if_pos rfl]
          exact h2
    · refine ev_neg (by omega) (ev_pos (by omega) (ev_pos (by omega) (ev_pos (by omega) ?_)))
      have el : ltr a i = inr (bt a (i : Int)) 48 57 := if_neg h3
      by_cases c1 : bt a (i : Int) < 48
      · refine ev_eq (ev_pos c1 (ev_const rfl)) ?_
        rw [el, inr_not.mpr (by omega)]; rfl
      · refine ev_neg c1 ?_
        by_cases c2 : bt a (i : Int) > 57
        · refine ev_eq (ev_pos c2 (ev_const rfl)) ?_
          rw [el, inr_not.mpr (by omega)]; rfl
        · refine ev_neg c2 ?_
          rw [el, inr_iff.mpr (by omega), if_pos rfl]
          exact h2
theorem check_l (a : ByteArray) (ha : a.size = 7) : ∀ (d i : Nat) (s t : Int), i + d = 7 → 0 ≤ s ∧ s ≤ 1000 * i → chk a d i s = some t → Ev (fun k => spec_l2Check.l0 k a s (i : Int)) (65 + t % 23) := by
  intro d
  induction d with
  | zero =>
    intro i s t hi hs h
    injection h with h; subst h
    refine Ev.step (fun k => by simp only [spec_l2Check.l0]; rfl) ?_
    refine ev_neg (by omega) (ev_const ?_)
    rw [Int.tmod_eq_emod_of_nonneg hs.1]
    have := Int.emod_nonneg s (show (23 : Int) ≠ 0 by decide)
    have := Int.emod_lt_of_pos s (show (0 : Int) < 23 by decide)
    congr 1; omega
  | succ d ih =>
    intro i s t hi hs h
    unfold chk at h
    cases hl : ltr a i
    · rw [hl] at h; cases h
    rw [hl, if_pos rfl] at h
    have hv := val_range a i (by omega) hl
    have h2 := ih (i + 1) _ t (by omega) (by omega) h
    have hr := bt_range a (i : Int)
    refine Ev.step (fun k => by simp only [spec_l2Check.l0]; rfl) ?_
    refine ev_pos (by omega) (ev_pos (by omega) (ev_pos (by omega) ?_))
    rw [wsucc (show i < 7 by omega) (by omega)]
    by_cases h3 : i < 3
    · refine ev_pos (by omega) ?_
      have e : wrap64 (s + (wrap64 ((wrap64 ((wrap64 ((wrap64 (bt a (i : Int))) - 65)) + 1)) * (wrap64 ((i : Int) + 2))))) = s + val a i := by
        rw [wr (x := bt a (i : Int)) (by omega) (by omega), wr (x := bt a (i : Int) - 65) (by omega) (by omega), wr (x := bt a (i : Int) - 65 + 1) (by omega) (by omega), wr (x := (i : Int) + 2) (by omega) (by omega)]
        have ev : (bt a (i : Int) - 65 + 1) * ((i : Int) + 2) = val a i := by
          unfold val; rw [if_pos h3, Int.mul_comm]; congr 1; omega
        rw [ev, wr (x := val a i) (by omega) (by omega), wr (by omega) (by omega)]
      rw [e]; exact h2
    · refine ev_neg (by omega) ?_
      have e : wrap64 (s + (wrap64 ((wrap64 ((wrap64 (bt a (i : Int))) - 48)) * (wrap64 ((i : Int) + 2))))) = s + val a i := by
        rw [wr (x := bt a (i : Int)) (by omega) (by omega), wr (x := bt a (i : Int) - 48) (by omega) (by omega), wr (x := (i : Int) + 2) (by omega) (by omega)]
        have ev : (bt a (i : Int) - 48) * ((i : Int) + 2) = val a i := by
          unfold val; rw [if_neg h3, Int.mul_comm]
        rw [ev, wr (x := val a i) (by omega) (by omega), wr (by omega) (by omega)]
      rw [e]; exact h2
def lett (o : Option Int) : Int × Bool := match o with
  | none => (0, false)
  | some t => (65 + t % 23, true)
theorem letter_l (a : ByteArray) (ha : a.size = 7) : ∀ (d i : Nat) (s : Int), i + d = 7 → 0 ≤ s ∧ s ≤ 1000 * i → Ev (fun k => impl_checkLetter.l0 k a s (a.size : Int) (i : Int)) (lett (chk a d i s)) := by
  intro d
  induction d with
  | zero =>
    intro i s hi hs
    refine Ev.step (fun k => by simp only [impl_checkLetter.l0]; rfl) ?_
    refine ev_neg (by omega) (ev_const ?_)
    unfold chk lett
    rw [Int.tmod_eq_emod_of_nonneg hs.1]
    have h1 := Int.emod_nonneg s (show (23 : Int) ≠ 0 by decide)
    have h2 := Int.emod_lt_of_pos s (show (0 : Int) < 23 by decide)
    rw [wr (x := 65 + s % 23) (by omega) (by omega)]
    simp only [Option.some.injEq, Prod.mk.injEq, and_true]
    omega
  | succ d ih =>
    intro i s hi hs
    have hr := bt_range a (i : Int)
    refine Ev.step (fun k => by simp only [impl_checkLetter.l0]; rfl) ?_
    refine ev_pos (by omega) (ev_pos (by omega) (ev_pos (by omega) ?_))
    have go : ∀ t : Bool, (t = true → i < 3 ∧ ltr a i = true) → (t = false → i < 3 → ltr a i = false) → Ev (fun k => impl_checkLetter.j1 k a s (i : Int) (bt a (i : Int)) (a.size : Int) (i : Int) t) (lett (chk a (d + 1) i s)) := by
      intro t ht hf
      refine Ev.step (fun k => by simp only [impl_checkLetter.j1]; rfl) ?_
      rw [wsucc (show i < 7 by omega) (by omega)]
      unfold chk
      cases t
      · refine ev_neg (by simp) ?_
        by_cases h3 : i < 3
        · rw [hf rfl h3]
          exact ev_neg (by omega) (ev_const rfl)
        · refine ev_pos (by omega) ?_
          have el : ltr a i = inr (bt a (i : Int)) 48 57 := if_neg h3
          by_cases c1 : bt a (i : Int) ≥ 48
          · refine ev_pos c1 ?_
            by_cases c2 : bt a (i : Int) ≤ 57
            · have hl : ltr a i = true := by rw [el]; exact inr_iff.mpr (by omega)
              have hv := val_range a i (by omega) hl
              rw [hl, if_pos rfl]
              refine ev_pos c2 ?_
              have e : wrap64 (s + (wrap64 ((wrap64 ((i : Int) + 2)) * ((bt a (i : Int) - 48) % 256)))) = s + val a i := by
                rw [wr (x := (i : Int) + 2) (by omega) (by omega), show (bt a (i : Int) - 48) % 256 = bt a (i : Int) - 48 by omega]
                have ev : ((i : Int) + 2) * (bt a (i : Int) - 48) = val a i := by
                  unfold val; rw [if_neg h3]
                rw [ev, wr (x := val a i) (by omega) (by omega), wr (by omega) (by omega)]
              rw [e]
              exact ih (i + 1) _ (by omega) (by omega)
            · refine ev_eq (ev_neg c2 (ev_const rfl)) ?_
              rw [el, inr_not.mpr (by omega)]; rfl
          · refine ev_eq (ev_neg c1 (ev_const rfl)) ?_
            rw [el, inr_not.mpr (by omega)]; rfl
      · obtain ⟨h3, hl⟩ := ht rfl
        have hv := val_range a i (by omega) hl
        have hb : inr (bt a (i : Int)) 65 90 = true := by rw [← hl]; exact (if_pos h3).symm
        rw [inr_iff] at hb
        rw [hl, if_pos rfl]
        refine ev_pos rfl ?_
        have e : wrap64 (s + (wrap64 ((wrap64 ((i : Int) + 2)) * (((bt a (i : Int) - 65) % 256) + 1)))) = s + val a i := by
          rw [wr (x := (i : Int) + 2) (by omega) (by omega), show (bt a (i : Int) - 65) % 256 + 1 = bt a (i : Int) - 64 by omega]
          have ev : ((i : Int) + 2) * (bt a (i : Int) - 64) = val a i := by
            unfold val; rw [if_pos h3]
          rw [ev, wr (x := val a i) (by omega) (by omega), wr (by omega) (by omega)]
        rw [e]
        exact ih (i + 1) _ (by omega) (by omega)
    by_cases h3 : i < 3
    · have el : ltr a i = inr (bt a (i : Int)) 65 90 := if_pos h3
      refine ev_pos (by omega) ?_
      by_cases c1 : bt a (i : Int) ≥ 65
      · refine ev_pos c1 (go _ (fun h => ⟨h3, ?_⟩) (fun h _ => ?_))
        · rw [el]; exact inr_iff.mpr ⟨c1, of_decide_eq_true h⟩
        · rw [el]; exact inr_not.mpr (fun hh => (of_decide_eq_false h) hh.2)
      · refine ev_neg c1 (go _ (fun h => by cases h) (fun h _ => ?_))
        rw [el]; exact inr_not.mpr (fun hh => c1 hh.1)
    · exact ev_neg (by omega) (go _ (fun h => by cases h) (fun h h4 => absurd h4 h3))
def okId (a : ByteArray) : Bool := decide ((a.size : Int) = 8) && match chk (a.extract 0 7) 7 0 0 with
  | none => false
  | some t => bt a 7 == 65 + t % 23
theorem ext7 (a : ByteArray) (h : a.size = 8) : (a.extract 0 7).size = 7 := by
  rw [ByteArray.size_extract]; omega
theorem id_spec (a : ByteArray) : Ev (fun k => spec_l2Id.f k a) (okId a) := by
  unfold spec_l2Id.f okId
  by_cases h : (a.size : Int) = 8
  · have h7 := ext7 a (by omega)
    rw [decide_eq_true h, Bool.true_and]
    refine ev_pos h (ev_pos (by decide) (ev_pos (by omega) ?_))
    have e1 : Ev (fun k => spec_l2Seven.f k (a.extract 0 7)) ((chk (a.extract 0 7) 7 0 0).isSome) := by
      unfold spec_l2Seven.f
      exact ev_pos (by omega) (seven_l _ h7 7 0 (by omega))
    refine Ev.bind e1 ?_
    cases hc : chk (a.extract 0 7) 7 0 0 with
    | none => exact ev_neg (by simp) (ev_const rfl)
    | some t =>
      refine ev_pos rfl (ev_pos (by omega) ?_)
      have e2 : Ev (fun k => spec_l2Check.f k (a.extract 0 7)) (65 + t % 23) := by
        unfold spec_l2Check.f
        exact check_l _ h7 7 0 0 t (by omega) (by omega) hc
      exact Ev.bind e2 (ev_const rfl)
  · rw [decide_eq_false h, Bool.false_and]
    exact ev_neg h (ev_const rfl)
theorem id_impl (a : ByteArray) : Ev (fun k => impl_IsValidId.f k a) (okId a) := by
  unfold impl_IsValidId.f okId
  by_cases h : (a.size : Int) = 8
  · have h7 := ext7 a (by omega)
    rw [decide_eq_true h, Bool.true_and]
    refine ev_pos h (ev_pos (by decide) (ev_pos (by omega) ?_))
    have e1 : Ev (fun k => impl_checkLetter.f k (a.extract 0 7)) (lett (chk (a.extract 0 7) 7 0 0)) := by
      unfold impl_checkLetter.f
      exact ev_pos (by omega) (letter_l _ h7 7 0 0 (by omega) (by omega))
    refine Ev.bind e1 ?_
    cases hc : chk (a.extract 0 7) 7 0 0 with
    | none => exact ev_neg (by simp [lett]) (ev_const rfl)
    | some t => exact ev_pos rfl (ev_pos (by omega) (ev_const rfl))
  · rw [decide_eq_false h, Bool.false_and]
    exact ev_neg h (ev_const rfl)
theorem within_impl (a b c : Int) : impl_within.f a b c = some (inr a b c) := by
  unfold impl_within.f inr
  by_cases h : b ≤ a <;> simp [h]
def okCont (x : C) : Bool := okId x.f0 && (inr x.f1 1 2 && (inr x.f2 1 32000 && (inr x.f3 1 3 && inr x.f4 1 9)))
theorem cont_spec (x : C) : Ev (fun k => spec_l2Good.f k x.f0 x.f1 x.f2 x.f3 x.f4) (okCont x) := by
  unfold spec_l2Good.f okCont
  refine Ev.bind (id_spec _) ?_
  cases okId x.f0
  · exact ev_neg (by simp) (ev_const rfl)
  refine ev_pos rfl (ev_call (in_spec _ _ _) ?_)
  cases inr x.f1 1 2
  · exact ev_neg (by simp) (ev_const rfl)
  refine ev_pos rfl (ev_call (in_spec _ _ _) ?_)
  cases inr x.f2 1 32000
  · exact ev_neg (by simp) (ev_const rfl)
  refine ev_pos rfl (ev_call (in_spec _ _ _) ?_)
  cases inr x.f3 1 3
  · exact ev_neg (by simp) (ev_const rfl)
  exact ev_pos rfl (ev_call (in_spec _ _ _) (ev_const rfl))
theorem cont_impl (x : C) : Ev (fun k => impl_IsValidContainer.f k x.f0 x.f1 x.f2 x.f3 x.f4) (okCont x) := by
  unfold impl_IsValidContainer.f okCont
  refine Ev.bind (id_impl _) ?_
  cases okId x.f0
  · exact ev_neg (by simp) (ev_const rfl)
  refine ev_pos rfl (ev_call (within_impl _ _ _) ?_)
  cases inr x.f1 1 2
  · exact ev_neg (by simp) (ev_const rfl)
  refine ev_pos rfl (ev_call (within_impl _ _ _) ?_)
  cases inr x.f3 1 3
  · exact ev_eq (ev_neg (by simp) (ev_const rfl)) (by simp)
  refine ev_pos rfl (ev_call (within_impl _ _ _) ?_)
  cases inr x.f2 1 32000
  · exact ev_neg (by simp) (ev_const rfl)
  exact ev_pos rfl (ev_call (within_impl _ _ _) (ev_const rfl))
theorem idxC_range (p : C → Bool) : ∀ (l : List C) (i : Nat), idxC p l i = -1 ∨ ((i : Int) ≤ idxC p l i ∧ idxC p l i < (i + l.length : Nat))
  | [], i => Or.inl rfl
  | x :: l, i => by
    unfold idxC
    by_cases h : p x = true
    · rw [if_pos h]; right; simp only [List.length_cons]; omega
    · rw [if_neg h]
      rcases idxC_range p l (i + 1) with h1 | h1
      · exact Or.inl h1
      · right; simp only [List.length_cons]; omega
theorem idxC_app (p : C → Bool) : ∀ (l m : List C) (i : Nat), idxC p (l ++ m) i = if idxC p l i < 0 then idxC p m (i + l.length) else idxC p l i
  | [], m, i => by simp [idxC]
  | x :: l, m, i => by
    rw [List.cons_append]
    unfold idxC
    by_cases h : p x = true
    · rw [if_pos h, if_pos h, if_neg (by omega)]
    · rw [if_neg h, if_neg h, idxC_app p l m (i + 1)]
      simp only [List.length_cons]
      rw [show i + 1 + l.length = i + (l.length + 1) by omega]
      cases m with
      | nil => rfl
      | cons y m => rfl
theorem findc_l (l : List C) (id : ByteArray) (hn : l.length ≤ 9223372036854775807) : ∀ d i, i + d = l.length → Ev (fun k => spec_l2Find.l0 k l id (i : Int)) (idxC (sameId id) (l.drop i) i) := by
  intro d
  induction d with
  | zero =>
    intro i hi
    refine Ev.step (fun k => by simp only [spec_l2Find.l0]; rfl) ?_
    refine ev_neg (by omega) (ev_const ?_)
    rw [List.drop_of_length_le (by omega)]; rfl
  | succ d ih =>
    intro i hi
    have hlt : i < l.length := by omega
    refine Ev.step (fun k => by simp only [spec_l2Find.l0]; rfl) ?_
    refine ev_pos (by omega) (ev_pos (by omega) ?_)
    rw [rd_c l i hlt, wsucc hlt hn, List.drop_eq_getElem_cons hlt]
    unfold idxC sameId
    by_cases h : l[i].f0.toList = id.toList
    · refine ev_eq (ev_pos h (ev_const rfl)) ?_
      rw [if_pos (by simpa using h)]
    · refine ev_eq (ev_neg h (ih (i + 1) (by omega))) ?_
      rw [if_neg (by simpa using h)]; rfl
theorem findc_spec (l : List C) (id : ByteArray) (hn : l.length ≤ 9223372036854775807) : Ev (fun k => spec_l2Find.f k l id) (idxC (sameId id) l 0) := by
  unfold spec_l2Find.f
  exact findc_l l id hn l.length 0 (by omega)
def lst : List C → List C → Bool
  | _, [] => true
  | pre, x :: xs => okCont x && (decide (idxC (sameId x.f0) pre 0 < 0) && lst (pre ++ [x]) xs)
def okList (l : List C) : Bool := lst [] l && decide ((l.length : Int) ≤ 12)
theorem list_l (l : List C) (hn : l.length ≤ 1048576) : ∀ d i, i + d = l.length → i ≤ 13 → Ev (fun k => spec_l2List.l0 k l (i : Int)) (lst (l.take i) (l.drop i) && decide ((l.length : Int) ≤ 12)) := by
  intro d
  induction d with
  | zero =>
    intro i hi h13
    refine Ev.step (fun k => by simp only [spec_l2List.l0]; rfl) ?_
    refine ev_neg (by omega) (Ev.step (fun k => by simp only [spec_l2List.j1]; rfl) ?_)
    refine ev_neg (by simp) (ev_const ?_)
    rw [List.drop_of_length_le (by omega)]; rfl
  | succ d ih =>
    intro i hi h13
    have hlt : i < l.length := by omega
    refine Ev.step (fun k => by simp only [spec_l2List.l0]; rfl) ?_
    refine ev_pos (by omega) (Ev.step (fun k => by simp only [spec_l2List.j1]; rfl) ?_)
    by_cases h12 : (i : Int) ≤ 12
    · refine ev_pos (by simpa using h12) (ev_pos (by omega) (ev_pos (by omega) ?_))
      rw [rd_c l i hlt, wsucc hlt (by omega), List.drop_eq_getElem_cons hlt]
      unfold lst
      refine Ev.bind (cont_spec l[i]) ?_
      cases okCont l[i]
      · exact ev_neg (by simp) (ev_const rfl)
      refine ev_pos rfl (Ev.bind (findc_spec l l[i].f0 (by omega)) ?_)
      have e : idxC (sameId l[i].f0) l 0 = if idxC (sameId l[i].f0) (l.take i) 0 < 0 then (i : Int) else idxC (sameId l[i].f0) (l.take i) 0 := by
        have hs : l = l.take i ++ (l[i] :: l.drop (i + 1)) := by rw [← List.drop_eq_getElem_cons hlt, List.take_append_drop]
        have h1 := idxC_app (sameId l[i].f0) (l.take i) (l[i] :: l.drop (i + 1)) 0
        rw [← hs] at h1
        rw [h1]
        have h2 : idxC (sameId l[i].f0) (l[i] :: l.drop (i + 1)) (0 + (l.take i).length) = (i : Int) := by
          unfold idxC
          rw [if_pos (by simp [sameId]), List.length_take]
          omega
        rw [h2]
      rw [e]
      by_cases hc : idxC (sameId l[i].f0) (l.take i) 0 < 0
      · rw [if_pos hc, decide_eq_true hc]
        have h2 := ih (i + 1) (by omega) (by omega)
        rw [List.take_succ_eq_append_getElem hlt] at h2
        exact ev_pos rfl h2
      · rw [if_neg hc, decide_eq_false hc]
        have hr := idxC_range (sameId l[i].f0) (l.take i) 0
        rw [List.length_take] at hr
        exact ev_neg (by omega) (ev_const rfl)
    · refine ev_eq (ev_neg (by simpa using h12) (ev_const rfl)) ?_
      rw [decide_eq_false (by omega), Bool.and_false]
theorem list_spec (l : List C) (hn : l.length ≤ 1048576) : Ev (fun k => spec_l2List.f k l) (okList l) := by
  unfold spec_l2List.f
  exact list_l l hn l.length 0 (by omega) (by omega)
theorem conts_l (l : List C) (hn : l.length ≤ 1048576) : ∀ d i, i + d = l.length → Ev (fun k => impl_IsValidContainers.l0 k l l (l.length : Int) (i : Int)) (lst (l.take i) (l.drop i) && decide ((l.length : Int) ≤ 12)) := by
  intro d
  induction d with
  | zero =>
    intro i hi
    refine Ev.step (fun k => by simp only [impl_IsValidContainers.l0]; rfl) ?_
    refine ev_neg (by omega) (ev_const ?_)
    rw [List.drop_of_length_le (by omega)]; rfl
  | succ d ih =>
    intro i hi
    have hlt : i < l.length := by omega
    refine Ev.step (fun k => by simp only [impl_IsValidContainers.l0]; rfl) ?_
    refine ev_pos (by omega) (ev_pos (by omega) (ev_pos (by omega) ?_))
    rw [rd_c l i hlt, wsucc hlt (by omega), List.drop_eq_getElem_cons hlt]
    unfold lst
    refine Ev.bind (cont_impl l[i]) ?_
    cases okCont l[i]
    · exact ev_neg (by simp) (ev_const rfl)
    refine ev_pos rfl (ev_pos (by omega) (ev_call rfl ?_))
    rw [Int.toNat_natCast]
    by_cases hc : idxC (sameId l[i].f0) (l.take i) 0 < 0
    · rw [decide_eq_true hc]
      have h2 := ih (i + 1) (by omega)
      rw [List.take_succ_eq_append_getElem hlt] at h2
      exact ev_neg (by omega) h2
    · rw [decide_eq_false hc]
      exact ev_pos (by omega) (ev_const rfl)
theorem conts_impl (l : List C) (hn : l.length ≤ 1048576) : Ev (fun k => impl_IsValidContainers.f k l) (okList l) := by
  unfold impl_IsValidContainers.f
  exact conts_l l hn l.length 0 (by omega)
end Go.Proofs.Ytemildnlfjijmaa.UC
namespace Go.Proofs.Ytemildnlfjijmaa.UF
open Go.RowKit Go.Proofs.YtemildnlfjijmaaW.PrintWords Go.Proofs.YtemildnlfjijmaaW.PrintMore Go.Proofs.Ytemildnlfjijmaa.P Go.Proofs.Ytemildnlfjijmaa.U Go.Proofs.Ytemildnlfjijmaa.UT Go.Proofs.Ytemildnlfjijmaa.UY Go.Proofs.Ytemildnlfjijmaa.UC
set_option linter.unusedVariables false

abbrev F := S73
/-! What is asked. -/
def boxIn (l : List (List Int)) (n : Int) : Bool := l.all fun r => r.all fun x => decide (x ≤ n)
def okAsk (l : List (List Int)) (cs : List C) (a : Int) : Bool := okYard l && (okList cs && (inr a 0 6 && boxIn l (cs.length : Int)))
theorem box_spec (l : List (List Int)) (cs : List C) (hn : l.length ≤ 1048576) (hx : ∀ x, x ∈ l → x.length ≤ 1048576) : ∀ d i, i + d = l.length → Ev (fun k => spec_l7Asked.l0 k cs (i : Int) l) (boxIn (l.drop i) (cs.length : Int)) := by
  intro d
  induction d with
  | zero =>
    intro i hi
    refine Ev.step (fun k => by simp only [spec_l7Asked.l0]; rfl) ?_
    refine ev_neg (by omega) (ev_const ?_)
    rw [List.drop_of_length_le (by omega)]; rfl
  | succ d ih =>
    intro i hi
    have hlt : i < l.length := by omega
    have hxi := hx _ (List.getElem_mem hlt)
    refine Ev.step (fun k => by simp only [spec_l7Asked.l0]; rfl) ?_
    refine ev_pos (by omega) ?_
    rw [List.drop_eq_getElem_cons hlt]
    have inner : ∀ e j, j + e = l[i].length → Ev (fun k => spec_l7Asked.l1 k cs (i : Int) (j : Int) l) (((l[i].drop j).all fun x => decide (x ≤ (cs.length : Int))) && boxIn (l.drop (i + 1)) (cs.length : Int)) := by
      intro e
      induction e with
      | zero =>
        intro j hj
        refine Ev.step (fun k => by simp only [spec_l7Asked.l1]; rfl) ?_
        refine ev_pos (by omega) (ev_pos (by omega) ?_)
        rw [rd_l1 l i hlt, wsucc hlt (by omega), List.drop_of_length_le (show l[i].length ≤ j by omega)]
        exact ev_neg (by omega) (ev_eq (ih (i + 1) (by omega)) (by simp))
      | succ e ihe =>
        intro j hj
        have hjt : j < l[i].length := by omega
        refine Ev.step (fun k => by simp only [spec_l7Asked.l1]; rfl) ?_
        refine ev_pos (by omega) (ev_pos (by omega) ?_)
        rw [rd_l1 l i hlt, rd_at _ j hjt, wsucc hjt (by omega), List.drop_eq_getElem_cons hjt, List.all_cons]
        refine ev_pos (by omega) (ev_pos (by omega) ?_)
        by_cases hc : l[i][j] > (cs.length : Int)
        · exact ev_eq (ev_pos hc (ev_const rfl)) (by rw [decide_eq_false (by omega)]; rfl)
        · exact ev_eq (ev_neg hc (ihe (j + 1) (by omega))) (by rw [decide_eq_true (by omega)]; rfl)
    have h := inner l[i].length 0 (by omega)
    rw [List.drop_zero] at h
    exact h
theorem ask_spec (l : List (List Int)) (cs : List C) (a : Int) (hn : l.length ≤ 1048576) (hx : ∀ x, x ∈ l → x.length ≤ 1048576) (hc : cs.length ≤ 1048576) : Ev (fun k => spec_l7Asked.f k l cs a) (okAsk l cs a) := by
  unfold spec_l7Asked.f okAsk
  refine Ev.bind (good_spec l hn hx) ?_
  cases okYard l
  · refine ev_neg (by simp) (Ev.step (fun k => by simp only [spec_l7Asked.j0]; rfl) ?_)
    exact ev_pos (by simp) (ev_const rfl)
  refine ev_pos rfl (Ev.bind (list_spec cs hc) ?_)
  cases okList cs
  · refine ev_neg (by simp) (Ev.step (fun k => by simp only [spec_l7Asked.j0]; rfl) ?_)
    exact ev_pos (by simp) (ev_const rfl)
  refine ev_pos rfl (ev_call (in_spec _ _ _) (Ev.step (fun k => by simp only [spec_l7Asked.j0]; rfl) ?_))
  cases inr a 0 6
  · exact ev_pos (by simp) (ev_const rfl)
  · exact ev_neg (by simp) (box_spec l cs hn hx l.length 0 (by omega))
theorem box_impl (l : List (List Int)) (cs : List C) (hn : l.length ≤ 1048576) (hx : ∀ x, x ∈ l → x.length ≤ 1048576) : ∀ d i, i + d = l.length → Ev (fun k => impl_areYard.l0 k cs l (l.length : Int) (i : Int)) (boxIn (l.drop i) (cs.length : Int)) := by
  intro d
  induction d with
  | zero =>
    intro i hi
    refine Ev.step (fun k => by simp only [impl_areYard.l0]; rfl) ?_
    refine ev_neg (by omega) (ev_const ?_)
    rw [List.drop_of_length_le (by omega)]; rfl
  | succ d ih =>
    intro i hi
    have hlt : i < l.length := by omega
    have hxi := hx _ (List.getElem_mem hlt)
    refine Ev.step (fun k => by simp only [impl_areYard.l0]; rfl) ?_
    refine ev_pos (by omega) (ev_pos (by omega) (ev_pos (by omega) ?_))
    rw [rd_l1 l i hlt, List.drop_eq_getElem_cons hlt]
    have inner : ∀ e j, j + e = l[i].length → Ev (fun k => impl_areYard.l1 k cs l (l.length : Int) (i : Int) l[i] (l[i].length : Int) (j : Int)) (((l[i].drop j).all fun x => decide (x ≤ (cs.length : Int))) && boxIn (l.drop (i + 1)) (cs.length : Int)) := by
      intro e
      induction e with
      | zero =>
        intro j hj
        refine Ev.step (fun k => by simp only [impl_areYard.l1]; rfl) ?_
        rw [wsucc hlt (by omega), List.drop_of_length_le (show l[i].length ≤ j by omega)]
        exact ev_neg (by omega) (ev_eq (ih (i + 1) (by omega)) (by simp))
      | succ e ihe =>
        intro j hj
        have hjt : j < l[i].length := by omega
        refine Ev.step (fun k => by simp only [impl_areYard.l1]; rfl) ?_
        refine ev_pos (by omega) (ev_pos (by omega) (ev_pos (by omega) ?_))
        rw [rd_at _ j hjt, wsucc hjt (by omega), List.drop_eq_getElem_cons hjt, List.all_cons]
        by_cases hc : l[i][j] > (cs.length : Int)
        · exact ev_eq (ev_pos hc (ev_const rfl)) (by rw [decide_eq_false (by omega)]; rfl)
        · exact ev_eq (ev_neg hc (ihe (j + 1) (by omega))) (by rw [decide_eq_true (by omega)]; rfl)
    have h := inner l[i].length 0 (by omega)
    rw [List.drop_zero] at h
    exact h
theorem ask_impl (l : List (List Int)) (cs : List C) (a : Int) (hn : l.length ≤ 1048576) (hx : ∀ x, x ∈ l → x.length ≤ 1048576) (hc : cs.length ≤ 1048576) : Ev (fun k => impl_areYard.f k l cs a) (okAsk l cs a) := by
  unfold impl_areYard.f okAsk
  refine ev_call (show impl_IsValidYard.f l = some (okYard l) from rfl) ?_
  cases okYard l
  · refine ev_neg (by simp) (Ev.step (fun k => by simp only [impl_areYard.j0]; rfl) ?_)
    exact ev_pos (by simp) (ev_const rfl)
  refine ev_pos rfl (Ev.bind (conts_impl cs hc) ?_)
  cases okList cs
  · refine ev_neg (by simp) (Ev.step (fun k => by simp only [impl_areYard.j0]; rfl) ?_)
    exact ev_pos (by simp) (ev_const rfl)
  refine ev_pos rfl (ev_call (within_impl _ _ _) (Ev.step (fun k => by simp only [impl_areYard.j0]; rfl) ?_))
  cases inr a 0 6
  · exact ev_pos (by simp) (ev_const rfl)
  · exact ev_neg (by simp) (box_impl l cs hn hx l.length 0 (by omega))

/-! What a place breaks. -/
def K (cs : List C) (n : Int) : C := rd_T71 cs (n - 1)
def r1 (cs : List C) (row : List Int) (j : Nat) : Prop := 0 < j ∧ (K cs (rd row (j : Int))).f2 > (K cs (rd row ((j : Int) - 1))).f2
def r2 (cs : List C) (row : List Int) (j : Nat) : Prop := 0 < j ∧ ¬ (K cs (rd row (j : Int))).f1 = (K cs (rd row ((j : Int) - 1))).f1
def r3 (cs : List C) (row : List Int) (j : Nat) : Prop := 0 < j ∧ (K cs (rd row (j : Int))).f3 = 3
def r4 (cs : List C) (a i : Int) (row : List Int) (j : Nat) : Prop := (K cs (rd row (j : Int))).f3 = 2 ∧ i ≥ a
instance (cs : List C) (row : List Int) (j : Nat) : Decidable (r1 cs row j) := by unfold r1; infer_instance
instance (cs : List C) (row : List Int) (j : Nat) : Decidable (r2 cs row j) := by unfold r2; infer_instance
instance (cs : List C) (row : List Int) (j : Nat) : Decidable (r3 cs row j) := by unfold r3; infer_instance
instance (cs : List C) (a i : Int) (row : List Int) (j : Nat) : Decidable (r4 cs a i row j) := by unfold r4; infer_instance
def rl (cs : List C) (a i : Int) (row : List Int) (j : Nat) : List Int :=
  ((((if r1 cs row j then [1] else []) ++ if r2 cs row j then [2] else []) ++ if r3 cs row j then [3] else []) ++ if r4 cs a i row j then [4] else [])
def mk (i : Nat) (j : Nat) (r : Int) : F := ⟨r, (i : Int), (j : Int)⟩
theorem rl_len (cs : List C) (a i : Int) (row : List Int) (j : Nat) : (rl cs a i row j).length ≤ 4 := by
  unfold rl
  simp only [List.length_append]
  have h : ∀ (p : Prop) [Decidable p] (x : Int), (if p then [x] else []).length ≤ 1 := by intro p _ x; split <;> simp
  have := h (r1 cs row j) 1
  have := h (r2 cs row j) 2
  have := h (r3 cs row j) 3
  have := h (r4 cs a i row j) 4
  omega

/-- A yard of six stacks at most, four numbers from 1 to 99 in each. -/
def low99 (l : List (List Int)) : Prop := (1 ≤ l.length ∧ l.length ≤ 6) ∧ ∀ x, x ∈ l → x.length ≤ 4 ∧ ∀ n, n ∈ x → 1 ≤ n ∧ n ≤ 99
theorem cell_in {l : List (List Int)} {cs : List C} (hy : low99 l) (hb : boxIn l (cs.length : Int) = true) {i : Nat} (hi : i < l.length) {j : Nat} (hj : j < l[i].length) :
    1 ≤ rd l[i] (j : Int) ∧ rd l[i] (j : Int) ≤ 99 ∧ rd l[i] (j : Int) ≤ (cs.length : Int) := by
  rw [rd_at _ j hj]
  have hm := List.getElem_mem hi
  have h1 := (hy.2 _ hm).2 _ (List.getElem_mem hj)
  unfold boxIn at hb
  have h2 := List.all_eq_true.mp hb _ hm
  have h3 := List.all_eq_true.mp h2 _ (List.getElem_mem hj)
  exact ⟨h1.1, h1.2, of_decide_eq_true h3⟩

theorem at_spec {l : List (List Int)} {cs : List C} (hy : low99 l) (hb : boxIn l (cs.length : Int) = true) (a : Int) {i : Nat} (hi : i < l.length) {j : Nat} (hj : j < l[i].length) :
    Ev (fun k => spec_l7At.f k l cs a (i : Int) (j : Int)) ((rl cs a i l[i] j).map (mk i j)) := by
  have h1 := cell_in hy hb hi hj
  have h4 := (hy.2 _ (List.getElem_mem hi)).1
  unfold spec_l7At.f
  rw [rd_l1 l i hi]
  refine ev_pos (by omega) (ev_pos (by omega) (ev_pos (by omega) (ev_pos (by omega) ?_)))
  rw [wr (x := rd l[i] (j : Int) - 1) (by omega) (by omega)]
  refine ev_pos (by omega) (ev_pos (by omega) ?_)
  have T5 : ∀ acc : List F, Ev (fun k => spec_l7At.l0 k cs a (i : Int) (j : Int) acc 5 l (K cs (rd l[i] (j : Int))).f0 (K cs (rd l[i] (j : Int))).f1 (K cs (rd l[i] (j : Int))).f2 (K cs (rd l[i] (j : Int))).f3 (K cs (rd l[i] (j : Int))).f4) acc := by
    intro acc
    refine Ev.step (fun k => by simp only [spec_l7At.l0]; rfl) ?_
    exact ev_neg (by decide) (ev_const rfl)
  have T4 : ∀ acc : List F, acc.length < 10 → Ev (fun k => spec_l7At.l0 k cs a (i : Int) (j : Int) acc 4 l (K cs (rd l[i] (j : Int))).f0 (K cs (rd l[i] (j : Int))).f1 (K cs (rd l[i] (j : Int))).f2 (K cs (rd l[i] (j : Int))).f3 (K cs (rd l[i] (j : Int))).f4) (acc ++ (if r4 cs a i l[i] j then [4] else []).map (mk i j)) := by
    intro acc ha
    refine Ev.step (fun k => by simp only [spec_l7At.l0]; rfl) ?_
    refine ev_pos (by decide) (ev_neg (by decide) (ev_neg (by decide) (ev_neg (by decide) ?_)))
    rw [show wrap64 (4 + 1) = 5 from (wr (by decide) (by decide)).trans (by decide)]
    by_cases c1 : (K cs (rd l[i] (j : Int))).f3 = 2
    · refine ev_pos c1 ?_
      by_cases c2 : (i : Int) ≥ a
      · refine ev_pos c2 (ev_pos (by omega) (ev_eq (T5 _) ?_))
        rw [if_pos ⟨c1, c2⟩]; rfl
      · refine ev_neg c2 (ev_eq (T5 _) ?_)
        rw [if_neg (fun h => c2 h.2)]; simp
    · refine ev_neg c1 (ev_eq (T5 _) ?_)
      rw [if_neg (fun h => c1 h.1)]; simp
  have T3 : ∀ acc : List F, acc.length < 9 → Ev (fun k => spec_l7At.l0 k cs a (i : Int) (j : Int) acc 3 l (K cs (rd l[i] (j : Int))).f0 (K cs (rd l[i] (j : Int))).f1 (K cs (rd l[i] (j : Int))).f2 (K cs (rd l[i] (j : Int))).f3 (K cs (rd l[i] (j : Int))).f4) ((acc ++ (if r3 cs l[i] j then [3] else []).map (mk i j)) ++ (if r4 cs a i l[i] j then [4] else []).map (mk i j)) := by
    intro acc ha
    refine Ev.step (fun k => by simp only [spec_l7At.l0]; rfl) ?_
    refine ev_pos (by decide) (ev_neg (by decide) (ev_neg (by decide) (ev_pos (by decide) ?_)))
    rw [show wrap64 (3 + 1) = 4 from (wr (by decide) (by decide)).trans (by decide)]
    by_cases c0 : (j : Int) > 0
    · refine ev_pos c0 ?_
      by_cases c1 : (K cs (rd l[i] (j : Int))).f3 = 3
      · rw [if_pos (show r3 cs l[i] j from ⟨by omega, c1⟩)]
        exact ev_pos c1 (ev_pos (by omega) (T4 _ (by simp; omega)))
      · rw [if_neg (show ¬ r3 cs l[i] j from fun h => c1 h.2)]
        exact ev_neg c1 (ev_eq (T4 _ (by omega)) (by simp))
    · rw [if_neg (show ¬ r3 cs l[i] j from fun h => by have := h.1; omega)]
      exact ev_neg c0 (ev_eq (T4 _ (by omega)) (by simp))
  have T2 : ∀ acc : List F, acc.length < 8 → Ev (fun k => spec_l7At.l0 k cs a (i : Int) (j : Int) acc 2 l (K cs (rd l[i] (j : Int))).f0 (K cs (rd l[i] (j : Int))).f1 (K cs (rd l[i] (j : Int))).f2 (K cs (rd l[i] (j : Int))).f3 (K cs (rd l[i] (j : Int))).f4) (((acc ++ (if r2 cs l[i] j then [2] else []).map (mk i j)) ++ (if r3 cs l[i] j then [3] else []).map (mk i j)) ++ (if r4 cs a i l[i] j then [4] else []).map (mk i j)) := by
    intro acc ha
    refine Ev.step (fun k => by simp only [spec_l7At.l0]; rfl) ?_
    refine ev_pos (by decide) (ev_neg (by decide) (ev_pos (by decide) ?_))
    rw [show wrap64 (2 + 1) = 3 from (wr (by decide) (by decide)).trans (by decide), rd_l1 l i hi]
    by_cases c0 : (j : Int) > 0
    · have h2 := cell_in hy hb hi (show j - 1 < l[i].length by omega)
      rw [show ((j - 1 : Nat) : Int) = (j : Int) - 1 by omega] at h2
      refine ev_pos c0 (ev_pos (by omega) (ev_pos (by omega) ?_))
      rw [wr (x := (j : Int) - 1) (by omega) (by omega)]
      refine ev_pos (by omega) (ev_pos (by omega) ?_)
      rw [wr (x := rd l[i] ((j : Int) - 1) - 1) (by omega) (by omega)]
      refine ev_pos (by omega) (ev_pos (by omega) ?_)
      by_cases c1 : (K cs (rd l[i] (j : Int))).f1 = (K cs (rd l[i] ((j : Int) - 1))).f1
      · rw [if_neg (show ¬ r2 cs l[i] j from fun h => h.2 c1)]
        exact ev_pos c1 (ev_eq (T3 _ (by omega)) (by simp))
      · rw [if_pos (show r2 cs l[i] j from ⟨by omega, c1⟩)]
        exact ev_neg c1 (ev_pos (by omega) (T3 _ (by simp; omega)))
    · rw [if_neg (show ¬ r2 cs l[i] j from fun h => by have := h.1; omega)]
      exact ev_neg c0 (ev_eq (T3 _ (by omega)) (by simp))
  have T1 : Ev (fun k => spec_l7At.l0 k cs a (i : Int) (j : Int) [] 1 l (K cs (rd l[i] (j : Int))).f0 (K cs (rd l[i] (j : Int))).f1 (K cs (rd l[i] (j : Int))).f2 (K cs (rd l[i] (j : Int))).f3 (K cs (rd l[i] (j : Int))).f4) ((((if r1 cs l[i] j then [1] else []).map (mk i j) ++ (if r2 cs l[i] j then [2] else []).map (mk i j)) ++ (if r3 cs l[i] j then [3] else []).map (mk i j)) ++ (if r4 cs a i l[i] j then [4] else []).map (mk i j)) := by
    refine Ev.step (fun k => by simp only [spec_l7At.l0]; rfl) ?_
    refine ev_pos (by decide) (ev_pos (by decide) ?_)
    rw [show wrap64 (1 + 1) = 2 from (wr (by decide) (by decide)).trans (by decide), rd_l1 l i hi]
    by_cases c0 : (j : Int) > 0
    · have h2 := cell_in hy hb hi (show j - 1 < l[i].length by omega)
      rw [show ((j - 1 : Nat) : Int) = (j : Int) - 1 by omega] at h2
      refine ev_pos c0 (ev_pos (by omega) (ev_pos (by omega) ?_))
      rw [wr (x := (j : Int) - 1) (by omega) (by omega)]
      refine ev_pos (by omega) (ev_pos (by omega) ?_)
      rw [wr (x := rd l[i] ((j : Int) - 1) - 1) (by omega) (by omega)]
      refine ev_pos (by omega) (ev_pos (by omega) ?_)
      by_cases c1 : (K cs (rd l[i] (j : Int))).f2 > (K cs (rd l[i] ((j : Int) - 1))).f2
      · rw [if_pos (show r1 cs l[i] j from ⟨by omega, c1⟩)]
        exact ev_pos c1 (ev_pos (by simp) (T2 _ (by simp)))
      · rw [if_neg (show ¬ r1 cs l[i] j from fun h => c1 h.2)]
        exact ev_neg c1 (ev_eq (T2 _ (by simp)) (by simp))
    · rw [if_neg (show ¬ r1 cs l[i] j from fun h => by have := h.1; omega)]
      exact ev_neg c0 (ev_eq (T2 _ (by simp)) (by simp))
  refine ev_eq T1 ?_
  unfold rl
  simp only [List.map_append]

theorem broken_impl {row : List Int} {cs : List C} (a : Int) (i : Nat) {j : Nat} (hj : j < row.length) (hr : row.length ≤ 4) (hc : ∀ j, j < row.length → 1 ≤ rd row (j : Int) ∧ rd row (j : Int) ≤ 99 ∧ rd row (j : Int) ≤ (cs.length : Int)) :
    Ev (fun k => impl_brokenRules.f k row cs a (i : Int) (j : Int)) (rl cs a i row j) := by
  have h1 := hc j hj
  unfold impl_brokenRules.f
  refine ev_call rfl ?_
  refine ev_pos (by omega) (ev_pos (by omega) ?_)
  rw [wr (x := rd row (j : Int) - 1) (by omega) (by omega)]
  refine ev_pos (by omega) (ev_pos (by omega) ?_)
  by_cases c0 : (j : Int) > 0
  · have h2 := hc (j - 1) (by omega)
    rw [show ((j - 1 : Nat) : Int) = (j : Int) - 1 by omega] at h2
    refine ev_pos c0 ?_
    rw [wr (x := (j : Int) - 1) (by omega) (by omega)]
    refine ev_pos (by omega) (ev_pos (by omega) ?_)
    rw [wr (x := rd row ((j : Int) - 1) - 1) (by omega) (by omega)]
    refine ev_pos (by omega) (ev_pos (by omega) ?_)
    have J1 : ∀ acc : List Int, acc.length < 10 → Ev (fun k => impl_brokenRules.j1 k a (i : Int) acc (K cs (rd row (j : Int))).f0 (K cs (rd row (j : Int))).f1 (K cs (rd row (j : Int))).f2 (K cs (rd row (j : Int))).f3 (K cs (rd row (j : Int))).f4) ((acc ++ if r3 cs row j then [3] else []) ++ if r4 cs a i row j then [4] else []) := by
      intro acc ha
      refine Ev.step (fun k => by simp only [impl_brokenRules.j1]; rfl) ?_
      by_cases c1 : (K cs (rd row (j : Int))).f3 = 3
      · refine ev_pos c1 (ev_pos (by omega) (ev_call rfl (ev_neg (by omega) (ev_const ?_))))
        rw [if_pos (show r3 cs row j from ⟨by omega, c1⟩), if_neg (show ¬ r4 cs a i row j from fun h => by have := h.1; omega)]
        simp
      · refine ev_neg c1 ?_
        rw [if_neg (show ¬ r3 cs row j from fun h => c1 h.2)]
        by_cases c2 : (K cs (rd row (j : Int))).f3 = 2
        · refine ev_pos c2 ?_
          by_cases c3 : (i : Int) ≥ a
          · refine ev_pos c3 (ev_pos (by omega) (ev_const ?_))
            rw [if_pos (show r4 cs a i row j from ⟨c2, c3⟩)]; simp
          · refine ev_neg c3 (ev_const ?_)
            rw [if_neg (show ¬ r4 cs a i row j from fun h => c3 h.2)]; simp
        · refine ev_neg c2 (ev_const ?_)
          rw [if_neg (show ¬ r4 cs a i row j from fun h => c2 h.1)]; simp
    have J0 : ∀ acc : List Int, acc.length < 9 → Ev (fun k => impl_brokenRules.j0 k a (i : Int) acc (K cs (rd row (j : Int))).f0 (K cs (rd row (j : Int))).f1 (K cs (rd row (j : Int))).f2 (K cs (rd row (j : Int))).f3 (K cs (rd row (j : Int))).f4 (K cs (rd row ((j : Int) - 1))).f0 (K cs (rd row ((j : Int) - 1))).f1 (K cs (rd row ((j : Int) - 1))).f2 (K cs (rd row ((j : Int) - 1))).f3 (K cs (rd row ((j : Int) - 1))).f4) (((acc ++ if r2 cs row j then [2] else []) ++ if r3 cs row j then [3] else []) ++ if r4 cs a i row j then [4] else []) := by
      intro acc ha
      refine Ev.step (fun k => by simp only [impl_brokenRules.j0]; rfl) ?_
      by_cases c1 : (K cs (rd row (j : Int))).f1 = (K cs (rd row ((j : Int) - 1))).f1
      · rw [if_neg (show ¬ r2 cs row j from fun h => h.2 c1)]
        exact ev_pos c1 (ev_eq (J1 _ (by omega)) (by simp))
      · rw [if_pos (show r2 cs row j from ⟨by omega, c1⟩)]
        exact ev_neg c1 (ev_pos (by omega) (J1 _ (by simp; omega)))
    unfold rl
    by_cases c1 : (K cs (rd row (j : Int))).f2 > (K cs (rd row ((j : Int) - 1))).f2
    · rw [if_pos (show r1 cs row j from ⟨by omega, c1⟩)]
      exact ev_pos c1 (ev_pos (by simp) (J0 _ (by simp)))
    · rw [if_neg (show ¬ r1 cs row j from fun h => c1 h.2)]
      exact ev_neg c1 (J0 _ (by simp))
  · refine ev_neg c0 ?_
    unfold rl
    rw [if_neg (show ¬ r1 cs row j from fun h => by have := h.1; omega), if_neg (show ¬ r2 cs row j from fun h => by have := h.1; omega), if_neg (show ¬ r3 cs row j from fun h => by have := h.1; omega)]
    by_cases c2 : (K cs (rd row (j : Int))).f3 = 2
    · refine ev_pos c2 ?_
      by_cases c3 : (i : Int) ≥ a
      · refine ev_pos c3 (ev_pos (by simp) (ev_const ?_))
        rw [if_pos (show r4 cs a i row j from ⟨c2, c3⟩)]; simp
      · refine ev_neg c3 (ev_const ?_)
        rw [if_neg (show ¬ r4 cs a i row j from fun h => c3 h.2)]; simp
    · refine ev_neg c2 (ev_const ?_)
      rw [if_neg (show ¬ r4 cs a i row j from fun h => c2 h.1)]; simp

/-! All findings. -/
def fRow (cs : List C) (a : Int) (i : Nat) (row : List Int) : Nat → Nat → List F → List F
  | 0, _, acc => acc
  | e + 1, j, acc => fRow cs a i row e (j + 1) (acc ++ (rl cs a i row j).map (mk i j))
def fAll (cs : List C) (a : Int) : List (List Int) → Nat → List F → List F
  | [], _, acc => acc
  | row :: l, i, acc => fAll cs a l (i + 1) (fRow cs a i row row.length 0 acc)
def found (l : List (List Int)) (cs : List C) (a : Int) : List F := fAll cs a l 0 []
theorem find_spec_l {l : List (List Int)} {cs : List C} (hy : low99 l) (hb : boxIn l (cs.length : Int) = true) (a : Int) : ∀ (d i : Nat) (acc : List F), i + d = l.length → acc.length ≤ 16 * i →
    Ev (fun k => spec_l7Findings.l0 k cs a acc (i : Int) l) (fAll cs a (l.drop i) i acc) := by
  have h6 := hy.1
  intro d
  induction d with
  | zero =>
    intro i acc hi ha
    refine Ev.step (fun k => by simp only [spec_l7Findings.l0]; rfl) ?_
    refine ev_neg (by omega) (ev_const ?_)
    rw [List.drop_of_length_le (by omega)]; rfl
  | succ d ih =>
    intro i acc hi ha
    have hlt : i < l.length := by omega
    have h4 := (hy.2 _ (List.getElem_mem hlt)).1
    refine Ev.step (fun k => by simp only [spec_l7Findings.l0]; rfl) ?_
    refine ev_pos (by omega) ?_
    rw [List.drop_eq_getElem_cons hlt]
    have inner : ∀ (e j : Nat) (acc : List F), j + e = l[i].length → acc.length ≤ 16 * i + 4 * j → Ev (fun k => spec_l7Findings.l1 k cs a acc (i : Int) (j : Int) l) (fAll cs a (l.drop (i + 1)) (i + 1) (fRow cs a i l[i] e j acc)) := by
      intro e
      induction e with
      | zero =>
        intro j acc hj ha
        refine Ev.step (fun k => by simp only [spec_l7Findings.l1]; rfl) ?_
        refine ev_pos (by omega) (ev_pos (by omega) ?_)
        rw [rd_l1 l i hlt, wsucc hlt (by omega)]
        exact ev_neg (by omega) (ih (i + 1) acc (by omega) (by omega))
      | succ e ihe =>
        intro j acc hj ha
        have hjt : j < l[i].length := by omega
        have hl := rl_len cs a i l[i] j
        refine Ev.step (fun k => by simp only [spec_l7Findings.l1]; rfl) ?_
        refine ev_pos (by omega) (ev_pos (by omega) ?_)
        rw [rd_l1 l i hlt, wsucc hjt (by omega)]
        refine ev_pos (by omega) (Ev.bind (at_spec hy hb a hlt hjt) (ev_pos ?_ ?_))
        · rw [List.length_map]; omega
        · exact ihe (j + 1) _ (by omega) (by rw [List.length_append, List.length_map]; omega)
    exact inner l[i].length 0 acc (by omega) (by omega)
theorem found_spec {l : List (List Int)} {cs : List C} (hy : low99 l) (hb : boxIn l (cs.length : Int) = true) (a : Int) : Ev (fun k => spec_l7Findings.f k l cs a) (found l cs a) := by
  unfold spec_l7Findings.f found
  exact find_spec_l hy hb a l.length 0 [] (by omega) (by simp)
theorem find_impl_l {l : List (List Int)} {cs : List C} (hy : low99 l) (hb : boxIn l (cs.length : Int) = true) (a : Int) : ∀ (d i : Nat) (acc : List F), i + d = l.length → acc.length ≤ 16 * i →
    Ev (fun k => impl_yardFindings.l0 k cs a acc l (l.length : Int) (i : Int)) (fAll cs a (l.drop i) i acc) := by
  have h6 := hy.1
  intro d
  induction d with
  | zero =>
    intro i acc hi ha
    refine Ev.step (fun k => by simp only [impl_yardFindings.l0]; rfl) ?_
    refine ev_neg (by omega) (ev_const ?_)
    rw [List.drop_of_length_le (by omega)]; rfl
  | succ d ih =>
    intro i acc hi ha
    have hlt : i < l.length := by omega
    have h4 := (hy.2 _ (List.getElem_mem hlt)).1
    refine Ev.step (fun k => by simp only [impl_yardFindings.l0]; rfl) ?_
    refine ev_pos (by omega) (ev_pos (by omega) (ev_pos (by omega) ?_))
    rw [rd_l1 l i hlt, List.drop_eq_getElem_cons hlt]
    have inner : ∀ (e j : Nat) (acc : List F), j + e = l[i].length → acc.length ≤ 16 * i + 4 * j → Ev (fun k => impl_yardFindings.l1 k cs a acc (i : Int) l[i] l (l.length : Int) (i : Int) (l[i].length : Int) (j : Int)) (fAll cs a (l.drop (i + 1)) (i + 1) (fRow cs a i l[i] e j acc)) := by
      intro e
      induction e with
      | zero =>
        intro j acc hj ha
        refine Ev.step (fun k => by simp only [impl_yardFindings.l1]; rfl) ?_
        rw [wsucc hlt (by omega)]
        exact ev_neg (by omega) (ih (i + 1) acc (by omega) (by omega))
      | succ e ihe =>
        intro j acc hj ha
        have hjt : j < l[i].length := by omega
        have hl := rl_len cs a i l[i] j
        refine Ev.step (fun k => by simp only [impl_yardFindings.l1]; rfl) ?_
        refine ev_pos (by omega) (Ev.bind (broken_impl a i hjt h4 (fun j hj => cell_in hy hb hlt hj)) ?_)
        generalize hrs : rl cs a i l[i] j = rs at hl
        have deep : ∀ (f m : Nat) (acc' : List F), m + f = rs.length → acc'.length = acc.length + m → acc' = acc ++ (rs.take m).map (mk i j) →
            Ev (fun k => impl_yardFindings.l2 k cs a acc' (i : Int) l[i] (j : Int) l (l.length : Int) (i : Int) (l[i].length : Int) (j : Int) rs (rs.length : Int) (m : Int)) (fAll cs a (l.drop (i + 1)) (i + 1) (fRow cs a i l[i] e (j + 1) (acc ++ rs.map (mk i j)))) := by
          intro f
          induction f with
          | zero =>
            intro m acc' hm ha2 he
            refine Ev.step (fun k => by simp only [impl_yardFindings.l2]; rfl) ?_
            rw [wsucc hjt (by omega)]
            rw [List.take_of_length_le (by omega)] at he
            rw [← he]
            exact ev_neg (by omega) (ihe (j + 1) _ (by omega) (by omega))
          | succ f ihf =>
            intro m acc' hm ha2 he
            have hmt : m < rs.length := by omega
            refine Ev.step (fun k => by simp only [impl_yardFindings.l2]; rfl) ?_
            refine ev_pos (by omega) (ev_pos (by omega) (ev_pos (by omega) (ev_pos (by omega) ?_)))
            rw [wsucc hmt (by omega)]
            refine ihf (m + 1) _ (by omega) (by simp; omega) ?_
            rw [he, List.take_succ_eq_append_getElem hmt, List.map_append, rd_at rs m hmt, List.append_assoc]; rfl
        have h := deep rs.length 0 acc (by omega) (by omega) (by simp)
        unfold fRow
        rw [hrs]
        exact h
    exact inner l[i].length 0 acc (by omega) (by omega)
theorem found_impl {l : List (List Int)} {cs : List C} (hy : low99 l) (hb : boxIn l (cs.length : Int) = true) (a : Int) : Ev (fun k => impl_yardFindings.f k l cs a) (found l cs a) := by
  unfold impl_yardFindings.f found
  exact find_impl_l hy hb a l.length 0 [] (by omega) (by simp)
theorem okAsk_in {l : List (List Int)} {cs : List C} {a : Int} (h : okAsk l cs a = true) : okYard l = true ∧ boxIn l (cs.length : Int) = true := by
  unfold okAsk at h
  simp only [Bool.and_eq_true] at h
  exact ⟨h.1, h.2.2.2⟩

end Go.Proofs.Ytemildnlfjijmaa.UF
namespace Go.Proofs.Ytemildnlfjijmaa.UY
open Go.RowKit Go.Proofs.YtemildnlfjijmaaW.PrintWords Go.Proofs.YtemildnlfjijmaaW.PrintMore Go.Proofs.Ytemildnlfjijmaa.P Go.Proofs.Ytemildnlfjijmaa.U Go.Proofs.Ytemildnlfjijmaa.UT
set_option linter.unusedVariables false

/-! Where a number stands. -/
def inYard (l : List (List Int)) (v : Int) : Bool := l.any fun r => r.contains v
def findR (v : Int) : List (List Int) → Nat → Int × Int
  | [], _ => (-1, -1)
  | r :: l, i => if r.contains v = true then ((i : Int), (r.idxOf v : Int)) else findR v l (i + 1)
theorem idx_l (l : List Int) (v : Int) (hn : l.length ≤ 1048576) : ∀ d i, i + d = l.length → Ev (fun k => slices_Index_int_int.l0 k l v (l.length : Int) (i : Int)) (if (l.drop i).contains v = true then ((i + (l.drop i).idxOf v : Nat) : Int) else -1) := by
  intro d
  induction d with
  | zero =>
    intro i hi
    refine Ev.step (fun k => by simp only [slices_Index_int_int.l0]; rfl) ?_
    refine ev_neg (by omega) (ev_const ?_)
    rw [List.drop_of_length_le (by omega)]; rfl
  | succ d ih =>
    intro i hi
    have hlt : i < l.length := by omega
    refine Ev.step (fun k => by simp only [slices_Index_int_int.l0]; rfl) ?_
    refine ev_pos (by omega) (ev_pos (by omega) (ev_pos (by omega) ?_))
    rw [rd_at l i hlt, wsucc hlt (by omega), List.drop_eq_getElem_cons hlt]
    by_cases hc : v = l[i]
    · refine ev_eq (ev_pos hc (ev_const rfl)) ?_
      rw [if_pos (by rw [List.contains_cons, show (v == l[i]) = true by simpa using hc]; rfl), List.idxOf_cons, show (l[i] == v) = true by simpa using hc.symm]; simp
    · have e := ih (i + 1) (by omega)
      refine ev_eq (ev_neg hc e) ?_
      have hb : (l[i] == v) = false := by simp; omega
      rw [List.contains_cons, List.idxOf_cons, hb, show (v == l[i]) = false by simp; omega]
      simp only [Bool.false_or, cond_false]
      by_cases h2 : (l.drop (i + 1)).contains v = true
      · rw [if_pos h2, if_pos h2]; omega
      · rw [if_neg h2, if_neg h2]
theorem idx_ev (l : List Int) (v : Int) (hn : l.length ≤ 1048576) : Ev (fun k => slices_Index_int_int.f k l v) (if l.contains v = true then ((l.idxOf v : Nat) : Int) else -1) := by
  unfold slices_Index_int_int.f
  have h := idx_l l v hn l.length 0 (by omega)
  rw [List.drop_zero, Nat.zero_add] at h
  exact h
theorem place_l (l : List (List Int)) (v : Int) (hn : l.length ≤ 1048576) (hx : ∀ x, x ∈ l → x.length ≤ 1048576) : ∀ d i, i + d = l.length → Ev (fun k => impl_placeOf.l0 k v l (l.length : Int) (i : Int)) (findR v (l.drop i) i) := by
  intro d
  induction d with
  | zero =>
    intro i hi
    refine Ev.step (fun k => by simp only [impl_placeOf.l0]; rfl) ?_
    refine ev_neg (by omega) (ev_const ?_)
    rw [List.drop_of_length_le (by omega)]; rfl
  | succ d ih =>
    intro i hi
    have hlt : i < l.length := by omega
    refine Ev.step (fun k => by simp only [impl_placeOf.l0]; rfl) ?_
    refine ev_pos (by omega) (ev_pos (by omega) (ev_pos (by omega) ?_))
    rw [rd_l1 l i hlt, wsucc hlt (by omega), List.drop_eq_getElem_cons hlt]
    refine Ev.bind (idx_ev _ v (hx _ (List.getElem_mem hlt))) ?_
    unfold findR
    cases h : l[i].contains v
    · rw [if_neg (by simp), if_neg (by simp)]
      exact ev_neg (by omega) (ih (i + 1) (by omega))
    · rw [if_pos rfl, if_pos rfl]
      exact ev_pos (by omega) (ev_const rfl)
theorem place_impl (l : List (List Int)) (v : Int) (hn : l.length ≤ 1048576) (hx : ∀ x, x ∈ l → x.length ≤ 1048576) : Ev (fun k => impl_placeOf.f k l v) (findR v l 0) := by
  unfold impl_placeOf.f
  exact place_l l v hn hx l.length 0 (by omega)
theorem find_l (l : List (List Int)) (v : Int) (hn : l.length ≤ 1048576) (hx : ∀ x, x ∈ l → x.length ≤ 1048576) : ∀ d i, i + d = l.length → Ev (fun k => spec_l5Find.l0 k v (i : Int) l) (findR v (l.drop i) i) := by
  intro d
  induction d with
  | zero =>
    intro i hi
    refine Ev.step (fun k => by simp only [spec_l5Find.l0]; rfl) ?_
    refine ev_neg (by omega) (ev_const ?_)
    rw [List.drop_of_length_le (by omega)]; rfl
  | succ d ih =>
    intro i hi
    have hlt : i < l.length := by omega
    have hxi := hx _ (List.getElem_mem hlt)
    refine Ev.step (fun k => by simp only [spec_l5Find.l0]; rfl) ?_
    refine ev_pos (by omega) ?_
    rw [List.drop_eq_getElem_cons hlt]
    have inner : ∀ e j, j + e = l[i].length → Ev (fun k => spec_l5Find.l1 k v (i : Int) (j : Int) l) (if (l[i].drop j).contains v = true then ((i : Int), ((j + (l[i].drop j).idxOf v : Nat) : Int)) else findR v (l.drop (i + 1)) (i + 1)) := by
      intro e
      induction e with
      | zero =>
        intro j hj
        refine Ev.step (fun k => by simp only [spec_l5Find.l1]; rfl) ?_
        refine ev_pos (by omega) (ev_pos (by omega) ?_)
        rw [rd_l1 l i hlt, wsucc hlt (by omega), List.drop_of_length_le (show l[i].length ≤ j by omega)]
        exact ev_neg (by omega) (ih (i + 1) (by omega))
      | succ e ihe =>
        intro j hj
        have hjt : j < l[i].length := by omega
        refine Ev.step (fun k => by simp only [spec_l5Find.l1]; rfl) ?_
        refine ev_pos (by omega) (ev_pos (by omega) ?_)
        rw [rd_l1 l i hlt, rd_at _ j hjt, wsucc hjt (by omega), List.drop_eq_getElem_cons hjt]
        refine ev_pos (by omega) (ev_pos (by omega) ?_)
        by_cases hc : l[i][j] = v
        · refine ev_eq (ev_pos hc (ev_const rfl)) ?_
          rw [if_pos (by simp [hc]), List.idxOf_cons, hc]; simp
        · refine ev_eq (ev_neg hc (ihe (j + 1) (by omega))) ?_
          have hb : (l[i][j] == v) = false := by simp; omega
          rw [List.contains_cons, List.idxOf_cons, hb, show (v == l[i][j]) = false by simp; omega]
          simp only [Bool.false_or, cond_false]
          by_cases h2 : (l[i].drop (j + 1)).contains v = true
          · rw [if_pos h2, if_pos h2]; simp only [Prod.mk.injEq, true_and]; omega
          · rw [if_neg h2, if_neg h2]
    have h := inner l[i].length 0 (by omega)
    rw [List.drop_zero, Nat.zero_add] at h
    exact h
theorem find_spec (l : List (List Int)) (v : Int) (hn : l.length ≤ 1048576) (hx : ∀ x, x ∈ l → x.length ≤ 1048576) : Ev (fun k => spec_l5Find.f k l v) (findR v l 0) := by
  unfold spec_l5Find.f
  exact find_l l v hn hx l.length 0 (by omega)

/-! Numbers that may come. -/
end Go.Proofs.Ytemildnlfjijmaa.UY
namespace Go.Proofs.Ytemildnlfjijmaa.UY
open Go.RowKit Go.Proofs.YtemildnlfjijmaaW.PrintWords Go.Proofs.YtemildnlfjijmaaW.PrintMore Go.Proofs.Ytemildnlfjijmaa.P Go.Proofs.Ytemildnlfjijmaa.U Go.Proofs.Ytemildnlfjijmaa.UT
set_option linter.unusedVariables false

/-! A copy. -/
theorem own1_spec (l : List Int) (hn : l.length ≤ 1048576) : spec_l1Own.f l = some l := by
  unfold spec_l1Own.f
  show (if ([] : List Int).length + l.length < 17592186044416 then some ([] ++ l) else none) = some l
  rw [if_pos (by simp; omega)]; rfl
theorem own1_impl (l : List Int) (hn : l.length ≤ 1048576) : slices_Clone_int_int.f l = some l := by
  unfold slices_Clone_int_int.f
  rw [if_pos (by omega)]
theorem own_spec_l (l : List (List Int)) (hn : l.length ≤ 1048576) (hx : ∀ x, x ∈ l → x.length ≤ 1048576) : ∀ d i, i + d = l.length → Ev (fun k => spec_l5Own.l0 k (i : Int) l (l.take i)) l := by
  intro d
  induction d with
  | zero =>
    intro i hi
    refine Ev.step (fun k => by simp only [spec_l5Own.l0]; rfl) (ev_neg (by omega) (ev_const ?_))
    rw [List.take_of_length_le (by omega)]
  | succ d ih =>
    intro i hi
    have hlt : i < l.length := by omega
    refine Ev.step (fun k => by simp only [spec_l5Own.l0]; rfl) (ev_pos (by omega) (ev_pos (by omega) ?_))
    rw [rd_l1 l i hlt, wsucc hlt (by omega)]
    refine ev_call (own1_spec _ (hx _ (List.getElem_mem hlt))) (ev_pos (by rw [List.length_take]; omega) ?_)
    have h := ih (i + 1) (by omega)
    rw [List.take_succ_eq_append_getElem hlt] at h
    exact h
theorem own_spec (l : List (List Int)) (hn : l.length ≤ 1048576) (hx : ∀ x, x ∈ l → x.length ≤ 1048576) : Ev (fun k => spec_l5Own.f k l) l := by
  unfold spec_l5Own.f
  exact own_spec_l l hn hx l.length 0 (by omega)
theorem own_impl_l (l : List (List Int)) (hn : l.length ≤ 1048576) (hx : ∀ x, x ∈ l → x.length ≤ 1048576) : ∀ d i, i + d = l.length → Ev (fun k => impl_ownYard.l0 k l (l.length : Int) (i : Int) (l.take i)) l := by
  intro d
  induction d with
  | zero =>
    intro i hi
    refine Ev.step (fun k => by simp only [impl_ownYard.l0]; rfl) (ev_neg (by omega) (ev_const ?_))
    rw [List.take_of_length_le (by omega)]
  | succ d ih =>
    intro i hi
    have hlt : i < l.length := by omega
    refine Ev.step (fun k => by simp only [impl_ownYard.l0]; rfl) (ev_pos (by omega) (ev_pos (by omega) (ev_pos (by omega) ?_)))
    rw [rd_l1 l i hlt, wsucc hlt (by omega)]
    refine ev_call (own1_impl _ (hx _ (List.getElem_mem hlt))) (ev_pos (by rw [List.length_take]; omega) ?_)
    have h := ih (i + 1) (by omega)
    rw [List.take_succ_eq_append_getElem hlt] at h
    exact h
theorem own_impl (l : List (List Int)) (hn : l.length ≤ 1048576) (hx : ∀ x, x ∈ l → x.length ≤ 1048576) : Ev (fun k => impl_ownYard.f k l) l := by
  unfold impl_ownYard.f
  exact own_impl_l l hn hx l.length 0 (by omega)

/-! One number more on a stack. -/
end Go.Proofs.Ytemildnlfjijmaa.UY
namespace Go.Proofs.Ytemildnlfjijmaa.UD
open Go.RowKit Go.Proofs.YtemildnlfjijmaaW.PrintWords Go.Proofs.YtemildnlfjijmaaW.PrintMore Go.Proofs.Ytemildnlfjijmaa.P Go.Proofs.Ytemildnlfjijmaa.U
set_option linter.unusedVariables false

def codeOk (c : List Int) : Prop := c.length ≤ 65536 ∧ ∀ x, x ∈ c → 0 ≤ x ∧ x ≤ 255
theorem wf_u8 {x : Int} (h : (Lit.int .u8 x).wf = true) : 0 ≤ x ∧ x ≤ 255 := by
  have h1 : (decide (IntKind.u8.min ≤ x) && decide (x ≤ IntKind.u8.max)) = true := h
  rw [Bool.and_eq_true, decide_eq_true_iff, decide_eq_true_iff] at h1
  exact h1
theorem wrap_u64 (n : Int) : IntKind.u64.wrap n = n % 18446744073709551616 := by simp [IntKind.wrap, IntKind.bits, IntKind.signed]
theorem u64_low (n : Int) : 0 ≤ wrap64 (Go.bits .and .u64 (IntKind.u64.wrap n / 1099511627776) 255) ∧ wrap64 (Go.bits .and .u64 (IntKind.u64.wrap n / 1099511627776) 255) ≤ 255 := by
  have h : IntKind.u64.wrap n = n % 18446744073709551616 := wrap_u64 n
  have e := bits_mask .u64 24 (by decide) (fun m h0 h1 => by rw [wrap_u64]; omega) 8 (by decide) (IntKind.u64.wrap n / 1099511627776) (by omega) (by omega)
  have e2 : Go.bits .and .u64 (IntKind.u64.wrap n / 1099511627776) 255 = IntKind.u64.wrap n / 1099511627776 % 256 := e
  rw [e2, wr (by omega) (by omega)]
  omega
theorem next_ev {c : List Int} (hc : codeOk c) {i s : Int} (hi : 0 ≤ i ∧ i ≤ 1000000000) : ∃ r s', spec_l1Cur_next.f c i s = some (r, i + 1, s') ∧ 0 ≤ r ∧ r ≤ 255 := by
  have hw : wrap64 (i + 1) = i + 1 := wr (by omega) (by omega)
  unfold spec_l1Cur_next.f
  rw [hw]
  by_cases h1 : i < (c.length : Int)
  · obtain ⟨n, rfl⟩ := Int.eq_ofNat_of_zero_le hi.1
    have hn : n < c.length := by omega
    have hb := hc.2 _ (List.getElem_mem hn)
    rw [if_pos h1, if_pos hi.1, if_pos (by omega), rd_at c n hn]
    exact ⟨_, _, rfl, by rw [wr (by omega) (by omega)]; exact hb⟩
  · rw [if_neg h1, if_neg (by have := hc.1; omega)]
    exact ⟨_, _, rfl, u64_low _⟩
theorem tmod_in {b n : Int} (hb : 0 ≤ b) (hn : 0 < n) : 0 ≤ Int.tmod b n ∧ Int.tmod b n < n := by
  rw [Int.tmod_eq_emod_of_nonneg hb]
  exact ⟨Int.emod_nonneg _ (by omega), Int.emod_lt_of_pos _ hn⟩
theorem pick_ev {c : List Int} (hc : codeOk c) {i s n : Int} (hi : 0 ≤ i ∧ i ≤ 999999990) : ∃ r j s', spec_l1Cur_pick.f c i s n = some (r, j, s') ∧ 0 ≤ r ∧ (r < n ∨ n ≤ 1 ∧ r = 0) ∧ i ≤ j ∧ j ≤ i + 2 := by
  unfold spec_l1Cur_pick.f
  by_cases h1 : n ≤ 1
  · rw [if_pos h1]
    exact ⟨0, i, s, rfl, by omega, Or.inr ⟨h1, rfl⟩, by omega, by omega⟩
  rw [if_neg h1]
  obtain ⟨r1, s1, e1, b1⟩ := next_ev hc (s := s) (i := i) (by omega)
  rw [e1, Option.bind_some]
  dsimp only
  by_cases h2 : n > 200
  · rw [if_pos h2]
    obtain ⟨r2, s2, e2, b2⟩ := next_ev hc (s := s1) (i := i + 1) (by omega)
    rw [e2, Option.bind_some]
    dsimp only
    rw [if_neg (by omega), wr (x := r1 * 256) (by omega) (by omega), wr (x := r1 * 256 + r2) (by omega) (by omega)]
    have := tmod_in (b := r1 * 256 + r2) (n := n) (by omega) (by omega)
    exact ⟨_, _, _, rfl, this.1, Or.inl this.2, by omega, by omega⟩
  · rw [if_neg h2, if_neg (by omega)]
    have := tmod_in (b := r1) (n := n) (by omega) (by omega)
    exact ⟨_, _, _, rfl, this.1, Or.inl this.2, by omega, by omega⟩
theorem among_ev {c : List Int} (hc : codeOk c) {i s : Int} (hi : 0 ≤ i ∧ i ≤ 999999990) (l : List Int) (hl : 0 < l.length) : ∃ r j s', spec_l1Cur_among.f c i s l = some (r, j, s') ∧ r ∈ l ∧ i ≤ j ∧ j ≤ i + 2 := by
  unfold spec_l1Cur_among.f
  obtain ⟨r, j, s1, e, h0, h1, h2⟩ := pick_ev hc (s := s) (n := (l.length : Int)) hi
  rw [e, Option.bind_some]
  dsimp only
  have hr : r < (l.length : Int) := by rcases h1 with h1 | h1 <;> omega
  rw [if_pos h0, if_pos hr]
  obtain ⟨n, rfl⟩ := Int.eq_ofNat_of_zero_le h0
  have hn : n < l.length := by omega
  exact ⟨_, _, _, rfl, by rw [rd_at l n hn]; exact List.getElem_mem hn, h2⟩
end Go.Proofs.Ytemildnlfjijmaa.UD
namespace Go.Proofs.Ytemildnlfjijmaa.UF
open Go.RowKit Go.Proofs.YtemildnlfjijmaaW.PrintWords Go.Proofs.YtemildnlfjijmaaW.PrintMore Go.Proofs.Ytemildnlfjijmaa.P Go.Proofs.Ytemildnlfjijmaa.U Go.Proofs.Ytemildnlfjijmaa.UT Go.Proofs.Ytemildnlfjijmaa.UY Go.Proofs.Ytemildnlfjijmaa.UC Go.Proofs.Ytemildnlfjijmaa.UD
set_option linter.unusedVariables false
/-! The yards that are drawn. -/
def YB (l : List (List Int)) : Prop := (1 ≤ l.length ∧ l.length ≤ 4) ∧ ∀ x, x ∈ l → x.length ≤ 4
theorem YB.own {l : List (List Int)} (h : YB l) : Ev (fun k => spec_l5Own.f k l) l := own_spec l (by have := h.1; omega) (fun x hx => by have := h.2 x hx; omega)
theorem YB.set {l : List (List Int)} (h : YB l) (t : Nat) (r : List Int) (hr : r.length ≤ 4) : YB (l.set t r) := by
  refine ⟨by rw [List.length_set]; exact h.1, fun x hx => ?_⟩
  rcases List.mem_or_eq_of_mem_set hx with hx | rfl
  · exact h.2 x hx
  · exact hr
theorem getD_four {l : List (List Int)} (h : ∀ x, x ∈ l → x.length ≤ 4) (t : Nat) : (l.getD t []).length ≤ 4 := by
  by_cases ht : t < l.length
  · rw [getD_at _ _ _ ht]; exact h _ (List.getElem_mem ht)
  · rw [show l.getD t [] = [] by simp [List.getD, List.getElem?_eq_none (by omega : l.length ≤ t)]]; simp
theorem move_ev {l : List (List Int)} (h : YB l) {a b : Nat} (ha : a < l.length) (hb : b < l.length) (h0 : 0 < (l.getD a []).length) (h4 : (l.getD b []).length < 4) (hab : a ≠ b) : ∃ l', Ev (fun k => spec_l5Move.f k l (a : Int) (b : Int)) l' ∧ YB l' := by
  refine ⟨l5Mv l a b, ?_, ?_⟩
  · unfold spec_l5Move.f
    refine Ev.bind h.own (ev_const ?_)
    unfold spec_l5Move.g
    rw [if_pos ⟨by omega, by omega, by omega, by omega, by rw [Int.toNat_natCast]; exact h0, fun x hx => by have := h.2 x hx; omega⟩, Int.toNat_natCast, Int.toNat_natCast]
  · unfold l5Mv
    have hc : YB (l5Cut l a) := by
      unfold l5Cut
      exact h.set a _ (by rw [List.length_take]; have := getD_four h.2 a; omega)
    refine hc.set b _ ?_
    have e : (l5Cut l a).getD b [] = l.getD b [] := by
      unfold l5Cut
      have hb2 : b < (l.set a ((l.getD a []).take ((l.getD a []).length - 1))).length := by rw [List.length_set]; exact hb
      rw [getD_at _ _ _ hb2, getD_at _ _ _ hb, List.getElem_set, if_neg hab]
    rw [e, List.length_append, List.length_singleton]; omega
theorem yard_l2 {c : List Int} (hc : codeOk c) : ∀ (m : Nat) (i s : Int) (l : List (List Int)), YB l → 0 ≤ i → i + 4 * m ≤ 900000000 → ∃ (l' : List (List Int)) (j s' : Int), Ev (fun k => spec_l1Cur_yard.l2 k (m : Int) c i s l) (l', j, s') ∧ YB l' ∧ i ≤ j ∧ j ≤ i + 4 * m
  | 0, i, s, l, h, h0, h1 => by
    refine ⟨l, i, s, ?_, h, by omega, by omega⟩
    refine Ev.step (fun k => by simp only [spec_l1Cur_yard.l2]; rfl) ?_
    exact ev_neg (by omega) (Ev.bind h.own (ev_const rfl))
  | m + 1, i, s, l, h, h0, h1 => by
    obtain ⟨a, i1, s1, e1, a0, a1, g1⟩ := pick_ev hc (s := s) (n := (l.length : Int)) (i := i) (by omega)
    obtain ⟨b, i2, s2, e2, b0, b1, g2⟩ := pick_ev hc (s := s1) (n := (l.length : Int)) (i := i1) (by omega)
    have hl := h.1
    obtain ⟨a, rfl⟩ := Int.eq_ofNat_of_zero_le a0
    obtain ⟨b, rfl⟩ := Int.eq_ofNat_of_zero_le b0
    have hw : wrap64 ((((m + 1 : Nat) : Int)) - 1) = (m : Int) := by rw [wr (by omega) (by omega)]; omega
    have ea : rd_L4 l (a : Int) = l.getD a [] := by unfold rd_L4; rw [Int.toNat_natCast]
    have eb : rd_L4 l (b : Int) = l.getD b [] := by unfold rd_L4; rw [Int.toNat_natCast]
    by_cases hab : (a : Int) = (b : Int)
    · obtain ⟨l', j, s', g3, g4, g5, g6⟩ := yard_l2 hc m i2 s2 l h (by omega) (by omega)
      refine ⟨l', j, s', ?_, g4, by omega, by omega⟩
      refine Ev.step (fun k => by simp only [spec_l1Cur_yard.l2]; rfl) ?_
      refine ev_pos (by omega) (ev_call e1 (ev_call e2 (ev_pos hab ?_)))
      rw [hw]; exact g3
    by_cases ha : (((l.getD a []).length : Int) > 0)
    · by_cases hb : (((l.getD b []).length : Int) < 4)
      · obtain ⟨l1, m1, m2⟩ := move_ev h (a := a) (b := b) (by omega) (by omega) (by omega) (by omega) (by omega)
        obtain ⟨l', j, s', g3, g4, g5, g6⟩ := yard_l2 hc m i2 s2 l1 m2 (by omega) (by omega)
        refine ⟨l', j, s', ?_, g4, by omega, by omega⟩
        refine Ev.step (fun k => by simp only [spec_l1Cur_yard.l2]; rfl) ?_
        refine ev_pos (by omega) (ev_call e1 (ev_call e2 (ev_neg hab (ev_pos (by omega) (ev_pos (by (try dsimp only); omega) ?_)))))
        try dsimp only
        rw [ea, eb, hw]
        exact ev_pos ha (ev_pos (by omega) (ev_pos (by omega) (ev_pos hb (Ev.bind m1 g3))))
      · obtain ⟨l', j, s', g3, g4, g5, g6⟩ := yard_l2 hc m i2 s2 l h (by omega) (by omega)
        refine ⟨l', j, s', ?_, g4, by omega, by omega⟩
        refine Ev.step (fun k => by simp only [spec_l1Cur_yard.l2]; rfl) ?_
        refine ev_pos (by omega) (ev_call e1 (ev_call e2 (ev_neg hab (ev_pos (by omega) (ev_pos (by (try dsimp only); omega) ?_)))))
        try dsimp only
        rw [ea, eb, hw]
        exact ev_pos ha (ev_pos (by omega) (ev_pos (by omega) (ev_neg hb g3)))
    · obtain ⟨l', j, s', g3, g4, g5, g6⟩ := yard_l2 hc m i2 s2 l h (by omega) (by omega)
      refine ⟨l', j, s', ?_, g4, by omega, by omega⟩
      refine Ev.step (fun k => by simp only [spec_l1Cur_yard.l2]; rfl) ?_
      refine ev_pos (by omega) (ev_call e1 (ev_call e2 (ev_neg hab (ev_pos (by omega) (ev_pos (by (try dsimp only); omega) ?_)))))
      try dsimp only
      rw [ea, hw]
      exact ev_neg ha g3
theorem yard_l1 {c : List Int} (hc : codeOk c) : ∀ (m : Nat) (i s : Int) (l : List (List Int)), YB l → 0 ≤ i → i + 2 * m ≤ 800000000 → ∃ (l' : List (List Int)) (j s' : Int), Ev (fun k => spec_l1Cur_yard.l1 k (m : Int) c i s l) (l', j, s') ∧ YB l' ∧ i ≤ j ∧ j ≤ i + 2 * m + 100
  | 0, i, s, l, h, h0, h1 => by
    obtain ⟨a, i1, s1, e1, a0, a1, g1⟩ := pick_ev hc (s := s) (n := 4) (i := i) (by omega)
    obtain ⟨a, rfl⟩ := Int.eq_ofNat_of_zero_le a0
    obtain ⟨l', j, s', g3, g4, g5, g6⟩ := yard_l2 hc a i1 s1 l h (by omega) (by omega)
    refine ⟨l', j, s', ?_, g4, by omega, by omega⟩
    refine Ev.step (fun k => by simp only [spec_l1Cur_yard.l1]; rfl) ?_
    exact ev_neg (by omega) (ev_call e1 g3)
  | m + 1, i, s, l, h, h0, h1 => by
    obtain ⟨a, i1, s1, e1, a0, a1, g1⟩ := pick_ev hc (s := s) (n := (l.length : Int)) (i := i) (by omega)
    have hl := h.1
    obtain ⟨a, rfl⟩ := Int.eq_ofNat_of_zero_le a0
    have hw : wrap64 ((((m + 1 : Nat) : Int)) - 1) = (m : Int) := by
      by_cases hm : ((m + 1 : Nat) : Int) ≤ 9223372036854775807
      · rw [wr (by omega) (by omega)]; omega
      · omega
    have ea : rd_L4 l (a : Int) = l.getD a [] := by unfold rd_L4; rw [Int.toNat_natCast]
    by_cases ha : (((l.getD a []).length : Int) < 4)
    · obtain ⟨l', j, s', g3, g4, g5, g6⟩ := yard_l1 hc m i1 s1 (l.set a (l.getD a [] ++ [((m + 1 : Nat) : Int)])) (h.set a _ (by rw [List.length_append, List.length_singleton]; omega)) (by omega) (by omega)
      refine ⟨l', j, s', ?_, g4, by omega, by omega⟩
      refine Ev.step (fun k => by simp only [spec_l1Cur_yard.l1]; rfl) ?_
      refine ev_pos (by omega) (ev_call e1 (ev_pos (by omega) (ev_pos (by (try dsimp only); omega) ?_)))
      try dsimp only
      rw [ea, hw]
      refine ev_pos ha (ev_pos (by omega) ?_)
      rw [Int.toNat_natCast]
      exact g3
    · obtain ⟨l', j, s', g3, g4, g5, g6⟩ := yard_l1 hc m i1 s1 l h (by omega) (by omega)
      refine ⟨l', j, s', ?_, g4, by omega, by omega⟩
      refine Ev.step (fun k => by simp only [spec_l1Cur_yard.l1]; rfl) ?_
      refine ev_pos (by omega) (ev_call e1 (ev_pos (by omega) (ev_pos (by (try dsimp only); omega) ?_)))
      try dsimp only
      rw [ea, hw]
      exact ev_neg ha g3
theorem yard_l0 {c : List Int} (hc : codeOk c) : ∀ (m : Nat) (i s : Int) (l : List (List Int)), l.length + m ≤ 4 → 1 ≤ l.length + m → (∀ x, x ∈ l → x.length ≤ 4) → 0 ≤ i → i ≤ 700000000 → ∃ (l' : List (List Int)) (j s' : Int), Ev (fun k => spec_l1Cur_yard.l0 k (m : Int) c i s l) (l', j, s') ∧ YB l' ∧ i ≤ j ∧ j ≤ i + 1000
  | 0, i, s, l, h1, h2, h3, h4, h5 => by
    obtain ⟨a, i1, s1, e1, a0, a1, g1⟩ := pick_ev hc (s := s) (n := 8) (i := i) (by omega)
    obtain ⟨a, rfl⟩ := Int.eq_ofNat_of_zero_le a0
    obtain ⟨l', j, s', g3, g4, g5, g6⟩ := yard_l1 hc (1 + a) i1 s1 l ⟨by omega, h3⟩ (by omega) (by omega)
    refine ⟨l', j, s', ?_, g4, by omega, by omega⟩
    refine Ev.step (fun k => by simp only [spec_l1Cur_yard.l0]; rfl) ?_
    refine ev_neg (by omega) (ev_call e1 ?_)
    try dsimp only
    rw [show wrap64 (1 + (a : Int)) = ((1 + a : Nat) : Int) by rw [wr (by omega) (by omega)]; omega]
    exact g3
  | m + 1, i, s, l, h1, h2, h3, h4, h5 => by
    obtain ⟨l', j, s', g3, g4, g5, g6⟩ := yard_l0 hc m i s (l ++ [[]]) (by rw [List.length_append, List.length_singleton]; omega) (by rw [List.length_append, List.length_singleton]; omega) (fun x hx => by
      rcases List.mem_append.mp hx with hx | hx
      · exact h3 x hx
      · rw [List.mem_singleton.mp hx]; simp) h4 h5
    refine ⟨l', j, s', ?_, g4, g5, g6⟩
    refine Ev.step (fun k => by simp only [spec_l1Cur_yard.l0]; rfl) ?_
    refine ev_pos (by omega) (ev_pos (by omega) ?_)
    rw [show wrap64 ((((m + 1 : Nat) : Int)) - 1) = (m : Int) by rw [wr (by omega) (by omega)]; omega]
    exact g3
theorem yard_ev {c : List Int} (hc : codeOk c) {i s : Int} (hi : 0 ≤ i ∧ i ≤ 600000000) : ∃ (l : List (List Int)) (j s' : Int), Ev (fun k => spec_l1Cur_yard.f k c i s) (l, j, s') ∧ YB l ∧ i ≤ j ∧ j ≤ i + 2000 := by
  unfold spec_l1Cur_yard.f
  obtain ⟨a, i1, s1, e1, a0, a1, g1⟩ := pick_ev hc (s := s) (n := 4) (i := i) (by omega)
  obtain ⟨a, rfl⟩ := Int.eq_ofNat_of_zero_le a0
  obtain ⟨l', j, s', g3, g4, g5, g6⟩ := yard_l0 hc (1 + a) i1 s1 [] (by rw [List.length_nil]; omega) (by rw [List.length_nil]; omega) (fun x hx => by cases hx) (by omega) (by omega)
  refine ⟨l', j, s', ev_call e1 ?_, g4, by omega, by omega⟩
  try dsimp only
  rw [show wrap64 (1 + (a : Int)) = ((1 + a : Nat) : Int) by rw [wr (by omega) (by omega)]; omega]
  exact g3
def AB (l : List (List Int)) : Prop := l.length ≤ 20 ∧ ∀ x, x ∈ l → x.length ≤ 20
theorem any_l0 {c : List Int} (hc : codeOk c) : ∀ (m n : Nat) (i s : Int) (l : List (List Int)), n + m = 8 → l.length ≤ 4 + n → (∀ x, x ∈ l → x.length ≤ 20) → 0 ≤ i → i + 2 * m ≤ 900000000 → ∃ (l' : List (List Int)) (j s' : Int), Ev (fun k => spec_l1Cur_anyYard.l0 k (n : Int) c i s l) (l', j, s') ∧ AB l' ∧ i ≤ j ∧ j ≤ i + 2 * m + 2
  | 0, n, i, s, l, hn, h1, h2, h3, h4 => by
    obtain ⟨a, i1, s1, e1, a0, a1, g1⟩ := pick_ev hc (s := s) (n := 2) (i := i) (by omega)
    by_cases h5 : (l.length : Int) < wrap64 (6 + a)
    · refine ⟨l, i1, s1, ?_, ⟨by omega, h2⟩, by omega, by omega⟩
      refine Ev.step (fun k => by simp only [spec_l1Cur_anyYard.l0]; rfl) ?_
      exact ev_call e1 (ev_pos h5 (ev_neg (by omega) (ev_const rfl)))
    · refine ⟨l, i1, s1, ?_, ⟨by omega, h2⟩, by omega, by omega⟩
      refine Ev.step (fun k => by simp only [spec_l1Cur_anyYard.l0]; rfl) ?_
      exact ev_call e1 (ev_neg h5 (ev_const rfl))
  | m + 1, n, i, s, l, hn, h1, h2, h3, h4 => by
    obtain ⟨a, i1, s1, e1, a0, a1, g1⟩ := pick_ev hc (s := s) (n := 2) (i := i) (by omega)
    by_cases h5 : (l.length : Int) < wrap64 (6 + a)
    · obtain ⟨l', j, s', g3, g4, g5, g6⟩ := any_l0 hc m (n + 1) i1 s1 (l ++ [[wrap64 (40 + (n : Int))]]) (by omega) (by rw [List.length_append, List.length_singleton]; omega) (fun x hx => by
        rcases List.mem_append.mp hx with hx | hx
        · exact h2 x hx
        · rw [List.mem_singleton.mp hx]; simp) (by omega) (by omega)
      refine ⟨l', j, s', ?_, g4, by omega, by omega⟩
      refine Ev.step (fun k => by simp only [spec_l1Cur_anyYard.l0]; rfl) ?_
      refine ev_call e1 (ev_pos h5 (ev_pos (by omega) (ev_pos (by omega) ?_)))
      rw [wsucc (n := 8) (by omega) (by omega)]
      exact g3
    · refine ⟨l, i1, s1, ?_, ⟨by omega, h2⟩, by omega, by omega⟩
      refine Ev.step (fun k => by simp only [spec_l1Cur_anyYard.l0]; rfl) ?_
      exact ev_call e1 (ev_neg h5 (ev_const rfl))
theorem any_ev {c : List Int} (hc : codeOk c) {i s : Int} (hi : 0 ≤ i ∧ i ≤ 500000000) : ∃ (l : List (List Int)) (j s' : Int), Ev (fun k => spec_l1Cur_anyYard.f k c i s) (l, j, s') ∧ AB l ∧ i ≤ j ∧ j ≤ i + 3000 := by
  unfold spec_l1Cur_anyYard.f
  obtain ⟨y, i1, s1, e1, hy, g1⟩ := yard_ev hc (i := i) (s := s) (by omega)
  obtain ⟨a, i2, s2, e2, a0, a1, g2⟩ := pick_ev hc (s := s1) (n := (y.length : Int)) (i := i1) (by omega)
  obtain ⟨z, i3, s3, e3, z0, z1, g3⟩ := pick_ev hc (s := s2) (n := 24) (i := i2) (by omega)
  obtain ⟨a, rfl⟩ := Int.eq_ofNat_of_zero_le a0
  have hl := hy.1
  have hAB : AB y := ⟨by omega, fun x hx => by have := hy.2 x hx; omega⟩
  have ea : rd_L4 y (a : Int) = y.getD a [] := by unfold rd_L4; rw [Int.toNat_natCast]
  have h4 := getD_four hy.2 a
  have hset : ∀ r : List Int, r.length ≤ 20 → AB (y.set (a : Int).toNat r) := fun r hr => ⟨by rw [List.length_set]; omega, fun x hx => by
    rcases List.mem_or_eq_of_mem_set hx with hx | rfl
    · exact hAB.2 x hx
    · exact hr⟩
  by_cases c0 : z = 0
  · obtain ⟨b, i4, s4, e4, _, g4⟩ := among_ev hc (s := s3) (i := i3) (by omega) [0, 100, 99, 1] (by decide)
    refine ⟨y.set (a : Int).toNat (y.getD a [] ++ [b]), i4, s4, Ev.bind e1 (ev_call e2 (ev_call e3 (ev_pos c0 (ev_pos (by (try dsimp only); omega) (ev_pos (by (try dsimp only); omega) (ev_call e4 ?_)))))), hset (y.getD a [] ++ [b]) (by rw [List.length_append, List.length_singleton]; omega), by omega, by omega⟩
    try dsimp only
    rw [ea]
    exact ev_pos (by omega) (ev_const rfl)
  by_cases c1 : z = 1
  · exact ⟨y.set (a : Int).toNat [21, 22, 23, 24, 25], i3, s3, Ev.bind e1 (ev_call e2 (ev_call e3 (ev_neg c0 (ev_pos c1 (ev_pos (by (try dsimp only); omega) (ev_pos (by (try dsimp only); omega) (ev_const rfl))))))), hset [21, 22, 23, 24, 25] (by simp), by (try dsimp only); omega, by (try dsimp only); omega⟩
  by_cases c2 : z = 2
  · exact ⟨[], i3, s3, Ev.bind e1 (ev_call e2 (ev_call e3 (ev_neg c0 (ev_neg c1 (ev_pos c2 (ev_const rfl)))))), ⟨by simp, fun x hx => by cases hx⟩, by (try dsimp only); omega, by (try dsimp only); omega⟩
  by_cases c3 : z = 3
  · obtain ⟨l', j, s', g5, g6, g7, g8⟩ := any_l0 hc 8 0 i3 s3 y (by omega) (by omega) hAB.2 (by omega) (by omega)
    exact ⟨l', j, s', Ev.bind e1 (ev_call e2 (ev_call e3 (ev_neg c0 (ev_neg c1 (ev_neg c2 (ev_pos c3 g5)))))), g6, by omega, by omega⟩
  · exact ⟨y, i3, s3, Ev.bind e1 (ev_call e2 (ev_call e3 (ev_neg c0 (ev_neg c1 (ev_neg c2 (ev_neg c3 (ev_const rfl))))))), hAB, by (try dsimp only); omega, by (try dsimp only); omega⟩
theorem chkRow_once : ∀ (l s t : List Int), chkRow l s = some t → (∀ x, x ∈ t ↔ x ∈ s ∨ x ∈ l) ∧ l.Nodup ∧ ∀ x, x ∈ l → ¬ x ∈ s
  | [], s, t, h => by injection h with h; subst h; simp
  | n :: l, s, t, h => by
    unfold chkRow at h
    split at h
    · rename_i hc
      rw [Bool.and_eq_true] at hc
      have hn : ¬ n ∈ s := by simpa using hc.2
      obtain ⟨h1, h2, h3⟩ := chkRow_once l (n :: s) t h
      refine ⟨fun x => by rw [h1, List.mem_cons, List.mem_cons]; grind, List.nodup_cons.mpr ⟨fun hm => h3 n hm List.mem_cons_self, h2⟩, fun x hx hs => ?_⟩
      rcases List.mem_cons.mp hx with rfl | hx
      · exact hn hs
      · exact h3 x hx (List.mem_cons_of_mem _ hs)
    · cases h
theorem chkRows_once (cap : Int) : ∀ (l : List (List Int)) (s t : List Int), chkRows cap l s = some t → (∀ x, x ∈ t ↔ x ∈ s ∨ x ∈ l.flatten) ∧ l.flatten.Nodup ∧ ∀ x, x ∈ l.flatten → ¬ x ∈ s
  | [], s, t, h => by injection h with h; subst h; simp
  | r :: l, s, t, h => by
    unfold chkRows at h
    split at h
    · cases h1 : chkRow r s with
      | none => rw [h1] at h; cases h
      | some u =>
        rw [h1] at h
        obtain ⟨a1, a2, a3⟩ := chkRow_once r s u h1
        obtain ⟨b1, b2, b3⟩ := chkRows_once cap l u t h
        rw [List.flatten_cons]
        refine ⟨fun x => by rw [b1, a1, List.mem_append]; grind, List.nodup_append.mpr ⟨a2, b2, fun x hx y hy e => ?_⟩, fun x hx hs => ?_⟩
        · subst e; exact b3 x hy ((a1 x).mpr (Or.inr hx))
        · rcases List.mem_append.mp hx with hx | hx
          · exact a3 x hx hs
          · exact b3 x hx ((a1 x).mpr (Or.inl hs))
    · cases h
theorem size_strOf (l : List Int) : (strOfNums l).size = l.length := by unfold strOfNums; simp [ByteArray.size]
/-! The containers that are drawn. -/
theorem dig_size (q : Int) (h0 : 0 ≤ q) (h1 : q ≤ 9) : ((⟨#[48, 49, 50, 51, 52, 53, 54, 55, 56, 57]⟩ : ByteArray).extract q.toNat (wrap64 (q + 1)).toNat).size = 1 := by
  rw [wr (by omega) (by omega), ByteArray.size_extract]
  have : (⟨#[48, 49, 50, 51, 52, 53, 54, 55, 56, 57]⟩ : ByteArray).size = 10 := rfl
  omega
theorem num_one {n d : Int} {s : ByteArray} (hn : 0 ≤ n ∧ n ≤ 100000) (hd : 0 < d ∧ d ≤ 1000) (hs : s.size ≤ 100) : ∃ u : ByteArray, u.size = 1 ∧ ∀ r, Ev (fun k => spec_l2Number.l0 k n (s ++ u) (wrap64 (Int.tdiv d 10))) r → Ev (fun k => spec_l2Number.l0 k n s d) r := by
  have hq : 0 ≤ Int.tdiv n d ∧ Int.tdiv n d ≤ 100000 := by
    rw [Int.tdiv_eq_ediv_of_nonneg hn.1]
    exact ⟨Int.ediv_nonneg hn.1 (by omega), Int.le_trans (Int.ediv_le_self _ hn.1) hn.2⟩
  have hw : wrap64 (Int.tdiv n d) = Int.tdiv n d := wr (by omega) (by omega)
  have hm := tmod_in hq.1 (show (0 : Int) < 10 by decide)
  refine ⟨_, dig_size (Int.tmod (wrap64 (Int.tdiv n d)) 10) (by rw [hw]; exact hm.1) (by rw [hw]; omega), fun r h => ?_⟩
  refine Ev.step (fun k => by simp only [spec_l2Number.l0]; rfl) (ev_pos (by omega) (ev_neg (by omega) ?_))
  have h1 := dig_size (Int.tmod (wrap64 (Int.tdiv n d)) 10) (by rw [hw]; exact hm.1) (by rw [hw]; omega)
  refine ev_pos (by rw [hw]; exact hm.1) (ev_pos ?_ (ev_pos ?_ (ev_pos (by omega) h)))
  · rw [hw, wr (x := _ + 1) (by omega) (by omega)]; omega
  · rw [hw, wr (x := _ + 1) (by omega) (by omega)]; omega
theorem check_any (a : ByteArray) (ha : a.size = 7) : ∀ (d i : Nat) (s : Int), i + d = 7 → ∃ r, Ev (fun k => spec_l2Check.l0 k a s (i : Int)) r := by
  intro d
  induction d with
  | zero =>
    intro i s hi
    refine ⟨(65 + ((Int.tmod s 23) % 256)) % 256, ?_⟩
    refine Ev.step (fun k => by simp only [spec_l2Check.l0]; rfl) ?_
    exact ev_neg (by omega) (ev_const rfl)
  | succ d ih =>
    intro i s hi
    have hw : wrap64 ((i : Int) + 1) = ((i + 1 : Nat) : Int) := wsucc (n := 7) (by omega) (by omega)
    by_cases h3 : (i : Int) < 3
    · obtain ⟨r, hr⟩ := ih (i + 1) (wrap64 (s + wrap64 (wrap64 (wrap64 (wrap64 (bt a i) - 65) + 1) * wrap64 ((i : Int) + 2)))) (by omega)
      refine ⟨r, ?_⟩
      refine Ev.step (fun k => by simp only [spec_l2Check.l0]; rfl) ?_
      exact ev_pos (by omega) (ev_pos (by omega) (ev_pos (by omega) (ev_pos h3 (by rw [hw]; exact hr))))
    · obtain ⟨r, hr⟩ := ih (i + 1) (wrap64 (s + wrap64 (wrap64 (wrap64 (bt a i) - 48) * wrap64 ((i : Int) + 2)))) (by omega)
      refine ⟨r, ?_⟩
      refine Ev.step (fun k => by simp only [spec_l2Check.l0]; rfl) ?_
      exact ev_pos (by omega) (ev_pos (by omega) (ev_pos (by omega) (ev_neg h3 (by rw [hw]; exact hr))))
theorem num_ev {n : Int} {a : ByteArray} (hn : 0 ≤ n ∧ n ≤ 100000) (ha : a.size = 3) : ∃ r, Ev (fun k => spec_l2Number.f k a n) r ∧ 1 ≤ r.size ∧ r.size ≤ 1000 := by
  obtain ⟨u1, s1, e1⟩ := num_one (s := a) (d := 1000) hn (by decide) (by omega)
  obtain ⟨u2, s2, e2⟩ := num_one (s := a ++ u1) (d := 100) hn (by decide) (by rw [ByteArray.size_append]; omega)
  obtain ⟨u3, s3, e3⟩ := num_one (s := a ++ u1 ++ u2) (d := 10) hn (by decide) (by rw [ByteArray.size_append, ByteArray.size_append]; omega)
  obtain ⟨u4, s4, e4⟩ := num_one (s := a ++ u1 ++ u2 ++ u3) (d := 1) hn (by decide) (by rw [ByteArray.size_append, ByteArray.size_append, ByteArray.size_append]; omega)
  have hz : (a ++ u1 ++ u2 ++ u3 ++ u4).size = 7 := by rw [ByteArray.size_append, ByteArray.size_append, ByteArray.size_append, ByteArray.size_append]; omega
  obtain ⟨t, ht⟩ := check_any _ hz 7 0 0 (by omega)
  have w1 : wrap64 (Int.tdiv 1000 10) = 100 := (wr (by decide) (by decide)).trans (by decide)
  have w2 : wrap64 (Int.tdiv 100 10) = 10 := (wr (by decide) (by decide)).trans (by decide)
  have w3 : wrap64 (Int.tdiv 10 10) = 1 := (wr (by decide) (by decide)).trans (by decide)
  have w4 : wrap64 (Int.tdiv 1 10) = 0 := (wr (by decide) (by decide)).trans (by decide)
  rw [w1] at e1
  rw [w2] at e2
  rw [w3] at e3
  rw [w4] at e4
  have hs : (strOfNums [t]).size = 1 := by rw [size_strOf]; rfl
  refine ⟨a ++ u1 ++ u2 ++ u3 ++ u4 ++ strOfNums [t], ?_, by rw [ByteArray.size_append]; omega, by rw [ByteArray.size_append]; omega⟩
  refine e1 _ (e2 _ (e3 _ (e4 _ ?_)))
  refine Ev.step (fun k => by simp only [spec_l2Number.l0]; rfl) (ev_neg (by omega) (Ev.bind ht ?_))
  show Ev (fun k => if (a ++ u1 ++ u2 ++ u3 ++ u4).size + (strOfNums [t]).size ≤ 9223372036854775807 then some (a ++ u1 ++ u2 ++ u3 ++ u4 ++ strOfNums [t]) else none) _
  exact ev_pos (by omega) (ev_const rfl)
theorem one_e {c : List Int} (hc : codeOk c) {i s n : Int} (hi : 0 ≤ i ∧ i ≤ 999999990) : ∃ b j s', spec_l1Cur_one.f c i s n = some (b, j, s') ∧ i ≤ j ∧ j ≤ i + 2 := by
  obtain ⟨r, j, s', h, _, _, h1, h2⟩ := pick_ev hc (s := s) (n := n) hi
  exact ⟨r == 0, j, s', by unfold spec_l1Cur_one.f; rw [h]; rfl, h1, h2⟩
theorem of_e {c : List Int} (hc : codeOk c) {i s : Int} (hi : 0 ≤ i ∧ i ≤ 999999990) (l : List ByteArray) (hl : 0 < l.length) (h3 : ∀ x, x ∈ l → x.size = 3) : ∃ a j s', spec_l1Cur_of.f c i s l = some (a, j, s') ∧ a.size = 3 ∧ i ≤ j ∧ j ≤ i + 2 := by
  obtain ⟨r, j, s', h, h0, hr, h1, h2⟩ := pick_ev hc (s := s) (n := (l.length : Int)) hi
  have hr2 : r < (l.length : Int) := by omega
  refine ⟨_, j, s', by unfold spec_l1Cur_of.f; rw [h]; simp only [Option.bind_some]; rw [if_pos h0, if_pos hr2], ?_, h1, h2⟩
  refine h3 _ ?_
  unfold rdOf
  rw [List.getD_eq_getElem?_getD, List.getElem?_eq_getElem (show r.toNat < l.length by omega)]
  exact List.getElem_mem _
theorem id_e {c : List Int} (hc : codeOk c) {i s : Int} (hi : 0 ≤ i ∧ i ≤ 900000000) : ∃ a j s', Ev (fun k => spec_l1Cur_id.f k c i s) (a, j, s') ∧ (1 ≤ a.size ∧ a.size ≤ 1000) ∧ i ≤ j ∧ j ≤ i + 6 := by
  obtain ⟨a, j1, s1, h1, ha, b1, c1⟩ := of_e hc (s := s) (i := i) (by omega) [(⟨#[65, 66, 67]⟩ : ByteArray), (⟨#[88, 89, 90]⟩ : ByteArray), (⟨#[83, 69, 65]⟩ : ByteArray), (⟨#[90, 90, 90]⟩ : ByteArray)] (by decide) (by intro x hx; simp only [List.mem_cons, List.not_mem_nil, or_false] at hx; rcases hx with rfl | rfl | rfl | rfl <;> rfl)
  obtain ⟨p, j2, s2, h2, hp0, hp, b2, c2⟩ := pick_ev hc (s := s1) (n := 200) (i := j1) (by omega)
  obtain ⟨m, j3, s3, h3, hm, b3, c3⟩ := among_ev hc (s := s2) (i := j2) (by omega) [1, 7, 50] (by decide)
  have hm2 : m = 1 ∨ m = 7 ∨ m = 50 := by simpa using hm
  have hpm : 0 ≤ p * m ∧ p * m ≤ 100000 := by rcases hm2 with rfl | rfl | rfl <;> omega
  have hw : wrap64 (p * m) = p * m := by
    obtain ⟨z, hz⟩ : ∃ z, z = p * m := ⟨_, rfl⟩
    rw [← hz] at hpm ⊢
    exact wr (by omega) (by omega)
  obtain ⟨r, hr, hz⟩ := num_ev (n := p * m) (a := a) hpm ha
  refine ⟨r, j3, s3, ?_, hz, by omega, by omega⟩
  unfold spec_l1Cur_id.f
  refine ev_call h1 (ev_call h2 (ev_call h3 (Ev.bind ?_ (ev_const rfl))))
  rw [hw]
  exact hr
theorem cont_e {c : List Int} (hc : codeOk c) {i s : Int} (hi : 0 ≤ i ∧ i ≤ 800000000) : ∃ a p q r t j s', Ev (fun k => spec_l1Cur_container.f k c i s) (a, p, q, r, t, j, s') ∧ (1 ≤ a.size ∧ a.size ≤ 1000) ∧ i ≤ j ∧ j ≤ i + 14 := by
  obtain ⟨a, j0, s0, h0, ha, b0, c0⟩ := id_e hc (s := s) (i := i) (by omega)
  obtain ⟨p, j1, s1, h1, _, _, b1, c1⟩ := pick_ev hc (s := s0) (n := 2) (i := j0) (by omega)
  obtain ⟨q, j2, s2, h2, _, b2, c2⟩ := among_ev hc (s := s1) (i := j1) (by omega) [1, 2000, 8000, 12000, 20000, 28000, 32000] (by decide)
  obtain ⟨r, j3, s3, h3, _, b3, c3⟩ := among_ev hc (s := s2) (i := j2) (by omega) [1, 1, 2, 3] (by decide)
  obtain ⟨t, j4, s4, h4, _, _, b4, c4⟩ := pick_ev hc (s := s3) (n := 4) (i := j3) (by omega)
  refine ⟨a, wrap64 (1 + p), q, r, wrap64 (1 + t), j4, s4, ?_, ha, by omega, by omega⟩
  unfold spec_l1Cur_container.f
  exact Ev.bind h0 (ev_call h1 (ev_call h2 (ev_call h3 (ev_call h4 (ev_const rfl)))))
theorem spoil_e {c : List Int} (hc : codeOk c) {i s : Int} (hi : 0 ≤ i ∧ i ≤ 900000000) {a : ByteArray} (ha : 1 ≤ a.size ∧ a.size ≤ 1000) : ∃ b j s', spec_l1Cur_spoilt.f c i s a ⟨#[65, 48, 66, 49]⟩ = some (b, j, s') ∧ i ≤ j ∧ j ≤ i + 6 := by
  obtain ⟨p, j1, s1, h1, p0, pn, b1, c1⟩ := pick_ev hc (s := s) (n := (a.size : Int)) (i := i) (by omega)
  obtain ⟨q, j2, s2, h2, q0, qn, b2, c2⟩ := pick_ev hc (s := s1) (n := 4) (i := j1) (by omega)
  obtain ⟨d, j3, s3, h3, _, _, b3, c3⟩ := pick_ev hc (s := s2) (n := 3) (i := j2) (by omega)
  refine ⟨spR a p q d, j3, s3, ?_, by omega, by omega⟩
  unfold spec_l1Cur_spoilt.f
  rw [if_pos ⟨rfl, ha.1, ha.2⟩, h1]
  simp only [Option.bind_some]
  rw [h2]
  simp only [Option.bind_some]
  rw [h3]
  simp only [Option.bind_some]
  rw [if_pos ⟨⟨p0, by omega⟩, q0, by omega⟩]
theorem anyId_j {c : List Int} (hc : codeOk c) {i s : Int} (hi : 0 ≤ i ∧ i ≤ 900000000) (x : ByteArray) : ∃ a j s', Ev (fun k => spec_l1Cur_anyId.j0 k x c i s) (a, j, s') ∧ i ≤ j ∧ j ≤ i + 2 := by
  obtain ⟨b, j, s1, h, b1, c1⟩ := one_e hc (s := s) (n := 24) (i := i) (by omega)
  cases b with
  | false =>
    refine ⟨x, j, s1, ?_, b1, c1⟩
    refine Ev.step (fun k => by simp only [spec_l1Cur_anyId.j0]; rfl) ?_
    exact ev_call h (ev_neg (by simp) (ev_const rfl))
  | true =>
    obtain ⟨r, hr, _⟩ := num_ev (n := 9999) (a := (⟨#[81, 81, 81]⟩ : ByteArray)) (by decide) rfl
    refine ⟨r, j, s1, ?_, b1, c1⟩
    refine Ev.step (fun k => by simp only [spec_l1Cur_anyId.j0]; rfl) ?_
    exact ev_call h (ev_pos rfl (Ev.bind hr (ev_const rfl)))
theorem anyId_e {c : List Int} (hc : codeOk c) {i s : Int} (hi : 0 ≤ i ∧ i ≤ 800000000) : ∃ a j s', Ev (fun k => spec_l1Cur_anyId.f k c i s) (a, j, s') ∧ i ≤ j ∧ j ≤ i + 16 := by
  obtain ⟨a, j0, s0, h0, ha, b0, c0⟩ := id_e hc (s := s) (i := i) (by omega)
  obtain ⟨b, j1, s1, h1, b1, c1⟩ := one_e hc (s := s0) (n := 8) (i := j0) (by omega)
  cases b with
  | false =>
    obtain ⟨r, j2, s2, h2, b2, c2⟩ := anyId_j hc (s := s1) (i := j1) (by omega) a
    refine ⟨r, j2, s2, ?_, by omega, by omega⟩
    unfold spec_l1Cur_anyId.f
    exact Ev.bind h0 (ev_call h1 (ev_neg (by simp) h2))
  | true =>
    obtain ⟨u, j2, s2, h2, b2, c2⟩ := spoil_e hc (s := s1) (i := j1) (by omega) ha
    obtain ⟨r, j3, s3, h3, b3, c3⟩ := anyId_j hc (s := s2) (i := j2) (by omega) u
    refine ⟨r, j3, s3, ?_, by omega, by omega⟩
    unfold spec_l1Cur_anyId.f
    exact Ev.bind h0 (ev_call h1 (ev_pos rfl (ev_call h2 h3)))
theorem anyCont_e {c : List Int} (hc : codeOk c) {i s : Int} (hi : 0 ≤ i ∧ i ≤ 700000000) : ∃ a p q r t j s', Ev (fun k => spec_l1Cur_anyContainer.f k c i s) (a, p, q, r, t, j, s') ∧ i ≤ j ∧ j ≤ i + 40 := by
  obtain ⟨a, p, q, r, t, j0, s0, h0, _, b0, c0⟩ := cont_e hc (s := s) (i := i) (by omega)
  obtain ⟨x, j1, s1, h1, _, _, b1, c1⟩ := pick_ev hc (s := s0) (n := 24) (i := j0) (by omega)
  have up : ∀ {r}, Ev (fun k => (spec_l1Cur_container.f k c i s).bind fun bt176 => ((spec_l1Cur_pick.f c bt176.2.2.2.2.2.1 bt176.2.2.2.2.2.2 24).bind fun bt184 => (if bt184.1 = 0 then ((spec_l1Cur_anyId.f k c bt184.2.1 bt184.2.2).bind fun bt187 => (some (bt187.1, bt176.2.1, bt176.2.2.1, bt176.2.2.2.1, bt176.2.2.2.2.1, bt187.2.1, bt187.2.2))) else (if bt184.1 = 1 then ((spec_l1Cur_among.f c bt184.2.1 bt184.2.2 (([0, 3, 2] : List Int))).bind fun bt193 => (some (bt176.1, bt193.1, bt176.2.2.1, bt176.2.2.2.1, bt176.2.2.2.2.1, bt193.2.1, bt193.2.2))) else (if bt184.1 = 2 then ((spec_l1Cur_among.f c bt184.2.1 bt184.2.2 (([0, 32001, 32000, 1] : List Int))).bind fun bt199 => (some (bt176.1, bt176.2.1, bt199.1, bt176.2.2.2.1, bt176.2.2.2.2.1, bt199.2.1, bt199.2.2))) else (if bt184.1 = 3 then ((spec_l1Cur_among.f c bt184.2.1 bt184.2.2 (([0, 4, 3] : List Int))).bind fun bt205 => (some (bt176.1, bt176.2.1, bt176.2.2.1, bt205.1, bt176.2.2.2.2.1, bt205.2.1, bt205.2.2))) else (if bt184.1 = 4 then ((spec_l1Cur_among.f c bt184.2.1 bt184.2.2 (([0, 10, 9] : List Int))).bind fun bt211 => (some (bt176.1, bt176.2.1, bt176.2.2.1, bt176.2.2.2.1, bt211.1, bt211.2.1, bt211.2.2))) else (some (bt176.1, bt176.2.1, bt176.2.2.1, bt176.2.2.2.1, bt176.2.2.2.2.1, bt184.2.1, bt184.2.2))))))))) r → Ev (fun k => spec_l1Cur_anyContainer.f k c i s) r := fun h => by unfold spec_l1Cur_anyContainer.f; exact h
  by_cases x0 : x = 0
  · obtain ⟨u, j2, s2, h2, b2, c2⟩ := anyId_e hc (s := s1) (i := j1) (by omega)
    exact ⟨u, p, q, r, t, j2, s2, up (Ev.bind h0 (ev_call h1 (ev_pos x0 (Ev.bind h2 (ev_const rfl))))), by omega, by omega⟩
  by_cases x1 : x = 1
  · obtain ⟨u, j2, s2, h2, _, b2, c2⟩ := among_ev hc (s := s1) (i := j1) (by omega) [0, 3, 2] (by decide)
    exact ⟨a, u, q, r, t, j2, s2, up (Ev.bind h0 (ev_call h1 (ev_neg x0 (ev_pos x1 (ev_call h2 (ev_const rfl)))))), by omega, by omega⟩
  by_cases x2 : x = 2
  · obtain ⟨u, j2, s2, h2, _, b2, c2⟩ := among_ev hc (s := s1) (i := j1) (by omega) [0, 32001, 32000, 1] (by decide)
    exact ⟨a, p, u, r, t, j2, s2, up (Ev.bind h0 (ev_call h1 (ev_neg x0 (ev_neg x1 (ev_pos x2 (ev_call h2 (ev_const rfl))))))), by omega, by omega⟩
  by_cases x3 : x = 3
  · obtain ⟨u, j2, s2, h2, _, b2, c2⟩ := among_ev hc (s := s1) (i := j1) (by omega) [0, 4, 3] (by decide)
    exact ⟨a, p, q, u, t, j2, s2, up (Ev.bind h0 (ev_call h1 (ev_neg x0 (ev_neg x1 (ev_neg x2 (ev_pos x3 (ev_call h2 (ev_const rfl)))))))), by omega, by omega⟩
  by_cases x4 : x = 4
  · obtain ⟨u, j2, s2, h2, _, b2, c2⟩ := among_ev hc (s := s1) (i := j1) (by omega) [0, 10, 9] (by decide)
    exact ⟨a, p, q, r, u, j2, s2, up (Ev.bind h0 (ev_call h1 (ev_neg x0 (ev_neg x1 (ev_neg x2 (ev_neg x3 (ev_pos x4 (ev_call h2 (ev_const rfl))))))))), by omega, by omega⟩
  · exact ⟨a, p, q, r, t, j1, s1, up (Ev.bind h0 (ev_call h1 (ev_neg x0 (ev_neg x1 (ev_neg x2 (ev_neg x3 (ev_neg x4 (ev_const rfl)))))))), by omega, by omega⟩
theorem conts_l1 {c : List Int} (hc : codeOk c) : ∀ (m n : Nat) (i s : Int) (l : List C), n + m = 14 → l.length ≤ 7 + n → 0 ≤ i → i + 2 * m ≤ 700000000 → ∃ (l' : List C) (j s' : Int), Ev (fun k => spec_l1Cur_containers.l1 k l (n : Int) c i s) (l', j, s') ∧ l'.length ≤ 30 ∧ i ≤ j ∧ j ≤ i + 2 * m + 2 := by
  intro m
  induction m with
  | zero =>
    intro n i s l hn hl h0 h1
    obtain ⟨x, j1, s1, e1, x0, xn, b1, c1⟩ := pick_ev hc (s := s) (n := 2) (i := i) (by omega)
    by_cases ht : (l.length : Int) < wrap64 (12 + x)
    · refine ⟨l, j1, s1, ?_, by omega, b1, by omega⟩
      refine Ev.step (fun k => by simp only [spec_l1Cur_containers.l1]; rfl) ?_
      exact ev_call e1 (ev_pos ht (ev_neg (by omega) (ev_const rfl)))
    · refine ⟨l, j1, s1, ?_, by omega, b1, by omega⟩
      refine Ev.step (fun k => by simp only [spec_l1Cur_containers.l1]; rfl) ?_
      exact ev_call e1 (ev_neg ht (ev_const rfl))
  | succ m ih =>
    intro n i s l hn hl h0 h1
    obtain ⟨x, j1, s1, e1, x0, xn, b1, c1⟩ := pick_ev hc (s := s) (n := 2) (i := i) (by omega)
    by_cases ht : (l.length : Int) < wrap64 (12 + x)
    · obtain ⟨u, hu, _⟩ := num_ev (n := (n : Int)) (a := (⟨#[77, 65, 88]⟩ : ByteArray)) (by omega) rfl
      obtain ⟨l2, j2, s2, e2, hl2, b2, c2⟩ := ih (n + 1) j1 s1 (l ++ [(⟨u, 1, wrap64 (100 + (n : Int)), 1, wrap64 (1 + (Int.tmod (n : Int) 9))⟩ : C)]) (by omega) (by rw [List.length_append, List.length_singleton]; omega) (by omega) (by omega)
      refine ⟨l2, j2, s2, ?_, hl2, by omega, by omega⟩
      refine Ev.step (fun k => by simp only [spec_l1Cur_containers.l1]; rfl) ?_
      refine ev_call e1 (ev_pos ht (ev_pos (by omega) (Ev.bind hu (ev_pos (by omega) ?_))))
      rw [show wrap64 ((n : Int) + 1) = ((n + 1 : Nat) : Int) from wsucc (n := 14) (by omega) (by omega)]
      exact e2
    · refine ⟨l, j1, s1, ?_, by omega, b1, by omega⟩
      refine Ev.step (fun k => by simp only [spec_l1Cur_containers.l1]; rfl) ?_
      exact ev_call e1 (ev_neg ht (ev_const rfl))
theorem conts_l0 {c : List Int} (hc : codeOk c) : ∀ (m : Nat) (i s : Int) (l : List C), l.length + m ≤ 7 → 0 ≤ i → i + 14 * m ≤ 600000000 → ∃ (l' : List C) (j s' : Int), Ev (fun k => spec_l1Cur_containers.l0 k l (m : Int) c i s) (l', j, s') ∧ l'.length ≤ 30 ∧ i ≤ j ∧ j ≤ i + 14 * m + 100 := by
  intro m
  induction m with
  | zero =>
    intro i s l hl h0 h1
    obtain ⟨x, j1, s1, e1, x0, xn, b1, c1⟩ := pick_ev hc (s := s) (n := 20) (i := i) (by omega)
    have st : ∀ {r}, Ev (fun k => (if x = 0 then ((spec_l1Cur_anyContainer.f k c j1 s1).bind fun bt235 => (if l.length < 2932031007402 then (some ((l ++ [(⟨bt235.1, bt235.2.1, bt235.2.2.1, bt235.2.2.2.1, bt235.2.2.2.2.1⟩ : C)]), bt235.2.2.2.2.2.1, bt235.2.2.2.2.2.2)) else (none))) else (if x = 1 then (if (l.length : Int) > 0 then ((spec_l1Cur_pick.f c j1 s1 (l.length : Int)).bind fun bt245 => (if 0 ≤ bt245.1 then (if bt245.1 < (l.length : Int) then (if l.length < 2932031007402 then (some ((l ++ [(⟨(rd_T71 l bt245.1).f0, (rd_T71 l bt245.1).f1, (rd_T71 l bt245.1).f2, (rd_T71 l bt245.1).f3, (rd_T71 l bt245.1).f4⟩ : C)]), bt245.2.1, bt245.2.2)) else (none)) else (none)) else (none))) else (some (l, j1, s1))) else (if x = 2 then (spec_l1Cur_containers.l1 k l 0 c j1 s1) else (some (l, j1, s1)))))) r → Ev (fun k => spec_l1Cur_containers.l0 k l ((0 : Nat) : Int) c i s) r := fun h => Ev.step (fun k => by simp only [spec_l1Cur_containers.l0]; rfl) (ev_neg (by omega) (ev_call e1 h))
    by_cases y0 : x = 0
    · obtain ⟨a, p, q, r, t, j2, s2, e2, b2, c2⟩ := anyCont_e hc (s := s1) (i := j1) (by omega)
      exact ⟨_, j2, s2, st (ev_pos y0 (Ev.bind e2 (ev_pos (by omega) (ev_const rfl)))), by rw [List.length_append, List.length_singleton]; omega, by omega, by omega⟩
    by_cases y1 : x = 1
    · by_cases hl0 : (l.length : Int) > 0
      · obtain ⟨u, j2, s2, e2, u0, un, b2, c2⟩ := pick_ev hc (s := s1) (n := (l.length : Int)) (i := j1) (by omega)
        exact ⟨_, j2, s2, st (ev_neg y0 (ev_pos y1 (ev_pos hl0 (ev_call e2 (ev_pos u0 (ev_pos (by omega) (ev_pos (by omega) (ev_const rfl)))))))), by rw [List.length_append, List.length_singleton]; omega, by omega, by omega⟩
      · exact ⟨l, j1, s1, st (ev_neg y0 (ev_pos y1 (ev_neg hl0 (ev_const rfl)))), by omega, by omega, by omega⟩
    by_cases y2 : x = 2
    · obtain ⟨l2, j2, s2, e2, hl2, b2, c2⟩ := conts_l1 hc 14 0 j1 s1 l (by omega) (by omega) (by omega) (by omega)
      exact ⟨l2, j2, s2, st (ev_neg y0 (ev_neg y1 (ev_pos y2 e2))), hl2, by omega, by omega⟩
    · exact ⟨l, j1, s1, st (ev_neg y0 (ev_neg y1 (ev_neg y2 (ev_const rfl)))), by omega, by omega, by omega⟩
  | succ m ih =>
    intro i s l hl h0 h1
    obtain ⟨a, p, q, r, t, j1, s1, e1, _, b1, c1⟩ := cont_e hc (s := s) (i := i) (by omega)
    have hf := findc_spec l a (by omega)
    have hw : wrap64 (((m + 1 : Nat) : Int) - 1) = (m : Int) := by rw [wr (by omega) (by omega)]; omega
    by_cases hi : idxC (sameId a) l 0 < 0
    · obtain ⟨l2, j2, s2, e2, hl2, b2, c2⟩ := ih j1 s1 (l ++ [(⟨a, p, q, r, t⟩ : C)]) (by rw [List.length_append, List.length_singleton]; omega) (by omega) (by omega)
      refine ⟨l2, j2, s2, ?_, hl2, by omega, by omega⟩
      refine Ev.step (fun k => by simp only [spec_l1Cur_containers.l0]; rfl) ?_
      refine ev_pos (by omega) (Ev.bind e1 (Ev.bind hf (ev_pos hi (ev_pos (by omega) ?_))))
      rw [hw]
      exact e2
    · obtain ⟨l2, j2, s2, e2, hl2, b2, c2⟩ := ih j1 s1 l (by omega) (by omega) (by omega)
      refine ⟨l2, j2, s2, ?_, hl2, by omega, by omega⟩
      refine Ev.step (fun k => by simp only [spec_l1Cur_containers.l0]; rfl) ?_
      refine ev_pos (by omega) (Ev.bind e1 (Ev.bind hf (ev_neg hi ?_)))
      rw [hw]
      exact e2
theorem conts_e {c : List Int} (hc : codeOk c) {i s : Int} (hi : 0 ≤ i ∧ i ≤ 500000000) : ∃ (l : List C) (j s' : Int), Ev (fun k => spec_l1Cur_containers.f k c i s) (l, j, s') ∧ l.length ≤ 30 ∧ i ≤ j ∧ j ≤ i + 300 := by
  obtain ⟨x, j1, s1, e1, x0, xn, b1, c1⟩ := pick_ev hc (s := s) (n := 8) (i := i) (by omega)
  obtain ⟨l, j2, s2, e2, hl, b2, c2⟩ := conts_l0 hc x.toNat j1 s1 [] (by simp; omega) (by omega) (by omega)
  rw [Int.toNat_of_nonneg x0] at e2
  refine ⟨l, j2, s2, ?_, hl, by omega, by omega⟩
  unfold spec_l1Cur_containers.f
  exact ev_call e1 e2
/-! The yard that is filled with them. -/
theorem fill_j {c : List Int} (hc : codeOk c) {i s : Int} (hi : 0 ≤ i ∧ i ≤ 900000000) (ls : List C) (y : List (List Int)) : ∃ (p j s' : Int), Ev (fun k => spec_l1Cur_filled.j2 k ls c i s y) (y, ls, p, j, s') ∧ i ≤ j ∧ j ≤ i + 4 := by
  obtain ⟨t, j1, s1, e1, t0, tn, b1, c1⟩ := pick_ev hc (s := s) (n := 24) (i := i) (by omega)
  have hq := spec_l1Cur_filled.cut_le t0 (show t < 24 by omega)
  have h4 : 0 < (([0, 1, 2, 6, (-1), 7] : List Int).take (spec_l1Cur_filled.cutn t)).length := by
    rw [List.length_take]
    have h5 : 0 < spec_l1Cur_filled.cutn t := by
      unfold spec_l1Cur_filled.cutn
      have ht : Int.tdiv t 11 = t / 11 := Int.tdiv_eq_ediv_of_nonneg t0
      rw [ht, wr (x := t / 11) (by omega) (by omega), wr (by omega) (by omega)]
      omega
    have : ([0, 1, 2, 6, (-1), 7] : List Int).length = 6 := rfl
    omega
  obtain ⟨p, j2, s2, e2, _, b2, c2⟩ := among_ev hc (s := s1) (i := j1) (by omega) _ h4
  have e3 : spec_l1Cur_filled.among c j1 s1 [0, 1, 2, 6, (-1), 7] t = some (p, j2, s2) := by
    unfold spec_l1Cur_filled.among
    rw [if_pos ⟨t0, by omega⟩]
    exact e2
  refine ⟨p, j2, s2, ?_, by omega, by omega⟩
  refine Ev.step (fun k => by simp only [spec_l1Cur_filled.j2]; rfl) ?_
  exact ev_call e1 (ev_call e3 (ev_const rfl))
theorem fill_l1 {c : List Int} (hc : codeOk c) (ls : List C) (hls : ls.length ≤ 30) : ∀ (m n : Nat) (i s : Int) (y : List (List Int)), n + m = ls.length + 1 → 1 ≤ n → YB y → 0 ≤ i → i + 2 * m ≤ 400000000 → ∃ (y' : List (List Int)) (p j s' : Int), Ev (fun k => spec_l1Cur_filled.l1 k ls (n : Int) c i s y) (y', ls, p, j, s') ∧ AB y' ∧ i ≤ j ∧ j ≤ i + 2 * m + 3010 := by
  intro m
  induction m with
  | zero =>
    intro n i s y hn h1 hy h0 hb
    obtain ⟨x, j1, s1, e1, x0, xn, b1, c1⟩ := pick_ev hc (s := s) (n := 40) (i := i) (by omega)
    have hAB : AB y := ⟨by have := hy.1; omega, fun r hr => by have := hy.2 r hr; omega⟩
    have st : ∀ {r}, Ev (fun k => (if x = 0 then (if 0 < (y.length : Int) then (if (rd_L4 y 0).length < 17592186044416 then (spec_l1Cur_filled.j2 k ls c j1 s1 (y.set (0 : Int).toNat ((rd_L4 y 0) ++ [wrap64 ((ls.length : Int) + 1)]))) else (none)) else (none)) else (if x = 1 then ((spec_l1Cur_anyYard.f k c j1 s1).bind fun bt388 => (spec_l1Cur_filled.j2 k ls c bt388.2.1 bt388.2.2 bt388.1)) else (spec_l1Cur_filled.j2 k ls c j1 s1 y)))) r → Ev (fun k => spec_l1Cur_filled.l1 k ls (n : Int) c i s y) r := fun h => Ev.step (fun k => by simp only [spec_l1Cur_filled.l1]; rfl) (ev_neg (by omega) (ev_call e1 h))
    by_cases y0 : x = 0
    · have hr0 : (rd_L4 y 0).length ≤ 4 := getD_four hy.2 0
      obtain ⟨p, j2, s2, e2, b2, c2⟩ := fill_j hc (s := s1) (i := j1) (by omega) ls (y.set (0 : Int).toNat ((rd_L4 y 0) ++ [wrap64 ((ls.length : Int) + 1)]))
      refine ⟨_, p, j2, s2, st (ev_pos y0 (ev_pos (by have := hy.1; omega) (ev_pos (by omega) e2))), ⟨by rw [List.length_set]; have := hy.1; omega, fun r hr => ?_⟩, by omega, by omega⟩
      rcases List.mem_or_eq_of_mem_set hr with hr | rfl
      · have := hy.2 r hr; omega
      · rw [List.length_append, List.length_singleton]; omega
    by_cases y1 : x = 1
    · obtain ⟨yy, j2, s2, e2, hA, b2, c2⟩ := any_ev hc (s := s1) (i := j1) (by omega)
      obtain ⟨p, j3, s3, e3, b3, c3⟩ := fill_j hc (s := s2) (i := j2) (by omega) ls yy
      exact ⟨yy, p, j3, s3, st (ev_neg y0 (ev_pos y1 (Ev.bind e2 e3))), hA, by omega, by omega⟩
    · obtain ⟨p, j3, s3, e3, b3, c3⟩ := fill_j hc (s := s1) (i := j1) (by omega) ls y
      exact ⟨y, p, j3, s3, st (ev_neg y0 (ev_neg y1 e3)), hAB, by omega, by omega⟩
  | succ m ih =>
    intro n i s y hn h1 hy h0 hb
    have hwl : wrap64 ((y.length : Int) + 1) = (y.length : Int) + 1 := wr (by omega) (by have := hy.1; omega)
    obtain ⟨x, j1, s1, e1, x0, xn, b1, c1⟩ := pick_ev hc (s := s) (n := wrap64 ((y.length : Int) + 1)) (i := i) (by omega)
    have hw : wrap64 ((n : Int) + 1) = ((n + 1 : Nat) : Int) := wsucc (n := 40) (by omega) (by omega)
    by_cases hx : x < (y.length : Int)
    · have hr0 : (rd_L4 y x).length ≤ 4 := getD_four hy.2 x.toNat
      by_cases h4 : ((rd_L4 y x).length : Int) < 4
      · obtain ⟨y2, p, j2, s2, e2, hA, b2, c2⟩ := ih (n + 1) j1 s1 (y.set x.toNat ((rd_L4 y x) ++ [(n : Int)])) (by omega) (by omega) (hy.set _ _ (by rw [List.length_append, List.length_singleton]; omega)) (by omega) (by omega)
        refine ⟨y2, p, j2, s2, ?_, hA, by omega, by omega⟩
        refine Ev.step (fun k => by simp only [spec_l1Cur_filled.l1]; rfl) ?_
        refine ev_pos (by omega) (ev_call e1 (ev_pos hx (ev_pos x0 (ev_pos h4 (ev_pos (show (rd_L4 y x).length < 17592186044416 by omega) ?_)))))
        rw [hw]
        exact e2
      · obtain ⟨y2, p, j2, s2, e2, hA, b2, c2⟩ := ih (n + 1) j1 s1 y (by omega) (by omega) hy (by omega) (by omega)
        refine ⟨y2, p, j2, s2, ?_, hA, by omega, by omega⟩
        refine Ev.step (fun k => by simp only [spec_l1Cur_filled.l1]; rfl) ?_
        refine ev_pos (by omega) (ev_call e1 (ev_pos hx (ev_pos x0 (ev_neg h4 ?_))))
        rw [hw]
        exact e2
    · obtain ⟨y2, p, j2, s2, e2, hA, b2, c2⟩ := ih (n + 1) j1 s1 y (by omega) (by omega) hy (by omega) (by omega)
      refine ⟨y2, p, j2, s2, ?_, hA, by omega, by omega⟩
      refine Ev.step (fun k => by simp only [spec_l1Cur_filled.l1]; rfl) ?_
      refine ev_pos (by omega) (ev_call e1 (ev_neg hx ?_))
      rw [hw]
      exact e2
theorem fill_l0 {c : List Int} (hc : codeOk c) (ls : List C) (hls : ls.length ≤ 30) : ∀ (m : Nat) (i s : Int) (y : List (List Int)), y.length + m ≤ 4 → 1 ≤ y.length + m → (∀ r, r ∈ y → r.length ≤ 4) → 0 ≤ i → i ≤ 300000000 → ∃ (y' : List (List Int)) (p j s' : Int), Ev (fun k => spec_l1Cur_filled.l0 k ls (m : Int) c i s y) (y', ls, p, j, s') ∧ AB y' ∧ i ≤ j ∧ j ≤ i + 4000 := by
  intro m
  induction m with
  | zero =>
    intro i s y h1 h2 h3 h0 hb
    obtain ⟨y2, p, j2, s2, e2, hA, b2, c2⟩ := fill_l1 hc ls hls ls.length 1 i s y (by omega) (by omega) ⟨⟨by omega, by omega⟩, h3⟩ (by omega) (by omega)
    refine ⟨y2, p, j2, s2, ?_, hA, by omega, by omega⟩
    refine Ev.step (fun k => by simp only [spec_l1Cur_filled.l0]; rfl) ?_
    exact ev_neg (by omega) e2
  | succ m ih =>
    intro i s y h1 h2 h3 h0 hb
    obtain ⟨y2, p, j2, s2, e2, hA, b2, c2⟩ := ih i s (y ++ [[]]) (by rw [List.length_append, List.length_singleton]; omega) (by rw [List.length_append, List.length_singleton]; omega) (fun r hr => by rw [List.mem_append, List.mem_singleton] at hr; rcases hr with hr | rfl; exact h3 r hr; simp) h0 hb
    refine ⟨y2, p, j2, s2, ?_, hA, b2, c2⟩
    refine Ev.step (fun k => by simp only [spec_l1Cur_filled.l0]; rfl) ?_
    refine ev_pos (by omega) (ev_pos (by omega) ?_)
    rw [show wrap64 (((m + 1 : Nat) : Int) - 1) = (m : Int) by rw [wr (by omega) (by omega)]; omega]
    exact e2
theorem fill_e {c : List Int} (hc : codeOk c) {i s : Int} (hi : 0 ≤ i ∧ i ≤ 200000000) : ∃ (y : List (List Int)) (ls : List C) (p j s' : Int), Ev (fun k => spec_l1Cur_filled.f k c i s) (y, ls, p, j, s') ∧ AB y ∧ ls.length ≤ 30 ∧ i ≤ j ∧ j ≤ i + 5000 := by
  obtain ⟨ls, j1, s1, e1, hl, b1, c1⟩ := conts_e hc (s := s) (i := i) (by omega)
  obtain ⟨x, j2, s2, e2, x0, xn, b2, c2⟩ := pick_ev hc (s := s1) (n := 4) (i := j1) (by omega)
  obtain ⟨y, p, j3, s3, e3, hA, b3, c3⟩ := fill_l0 hc ls hl (x + 1).toNat j2 s2 [] (by simp; omega) (by simp; omega) (by simp) (by omega) (by omega)
  refine ⟨y, ls, p, j3, s3, ?_, hA, hl, by omega, by omega⟩
  unfold spec_l1Cur_filled.f
  refine Ev.bind e1 (ev_call e2 ?_)
  rw [wr (by omega) (by omega), show (1 : Int) + x = ((x + 1).toNat : Int) by omega]
  exact e3
theorem dasL_e {c : List Int} (hc : codeOk c) {y : List (List Int)} (hA : AB y) : ∀ (m t : Nat) (n i s : Int), 0 ≤ i → i + 2 * m ≤ 900000000 → ∃ r : Int × Int × Int, Ev (fun k => dasL k c y m t n i s) r
  | 0, _, n, i, s, _, _ => ⟨(n, i, s), ev_const rfl⟩
  | m + 1, t, n, i, s, h0, h1 => by
    obtain ⟨b, j1, s1, e1, b1, c1⟩ := one_e hc (s := s) (n := 6) (i := i) (by omega)
    have st : ∀ {r}, Ev (fun k => (spec_l1Cur_one.f c i s 6).bind fun o => if o.1 = true then some (n, o.2.1, o.2.2) else (spec_l5Find.f k y (t : Int)).bind fun q => dasL k c y m (t + 1) (if q.1 < 0 then (t : Int) else n) o.2.1 o.2.2) r → Ev (fun k => dasL k c y (m + 1) t n i s) r := fun h => h
    cases b with
    | true => exact ⟨_, st (ev_call e1 (ev_pos rfl (ev_const rfl)))⟩
    | false =>
      have hf := find_spec y (t : Int) (by have := hA.1; omega) (fun x hx => by have := hA.2 x hx; omega)
      obtain ⟨r, hr⟩ := dasL_e hc hA m (t + 1) (if (findR (t : Int) y 0).1 < 0 then (t : Int) else n) j1 s1 (by omega) (by omega)
      exact ⟨r, st (ev_call e1 (ev_neg (by simp) (Ev.bind hf hr)))⟩
theorem drawA_e {c : List Int} (hc : codeOk c) : ∃ (y : List (List Int)) (ls : List C) (p n : Int), Ev (fun k => spec_DrawAllowedStacks.f k c) (y, ls, p, n) ∧ AB y ∧ ls.length ≤ 30 := by
  obtain ⟨y, ls, p, j, s, e0, hA, hl, b0, c0⟩ := fill_e hc (s := 0) (i := 0) (by omega)
  obtain ⟨x, j1, s1, e1, _, _, b1, c1⟩ := pick_ev hc (s := s) (n := wrap64 ((ls.length : Int) + 2)) (i := j) (by omega)
  obtain ⟨q, j2, s2, e2, _, _, b2, c2⟩ := pick_ev hc (s := s1) (n := 12) (i := j1) (by omega)
  obtain ⟨⟨n, i3, s3⟩, e3⟩ := dasL_e hc hA ls.length 1 (wrap64 (x - wrap64 (Int.tdiv q 11))) j2 s2 (by omega) (by omega)
  refine ⟨y, ls, p, n, ?_, hA, hl⟩
  unfold spec_DrawAllowedStacks.f
  refine Ev.bind e0 ?_
  refine ev_pos (show ls.length < 1000000 by omega) ?_
  exact ev_call e1 (ev_call e2 (Ev.bind e3 (ev_const rfl)))
theorem drawH_e {c : List Int} (hc : codeOk c) : ∃ (y : List (List Int)) (ls : List C) (p : Int), Ev (fun k => spec_DrawHelpfulMoves.f k c) (y, ls, p) ∧ AB y ∧ ls.length ≤ 30 := by
  obtain ⟨y, ls, p, j, s, e0, hA, hl, b0, c0⟩ := fill_e hc (s := 0) (i := 0) (by omega)
  refine ⟨y, ls, p, ?_, hA, hl⟩
  unfold spec_DrawHelpfulMoves.f spec_DrawYardFindings.f
  exact Ev.bind e0 (ev_const rfl)
end Go.Proofs.Ytemildnlfjijmaa.UF
namespace Go.Proofs.Ytemildnlfjijmaa.UF
open Go.RowKit Go.Proofs.YtemildnlfjijmaaW.PrintWords Go.Proofs.YtemildnlfjijmaaW.PrintMore Go.Proofs.Ytemildnlfjijmaa.P Go.Proofs.Ytemildnlfjijmaa.U Go.Proofs.Ytemildnlfjijmaa.UT Go.Proofs.Ytemildnlfjijmaa.UY Go.Proofs.Ytemildnlfjijmaa.UC
set_option linter.unusedVariables false

/-! A number put on an allowed stack. -/
theorem low_push {l : List (List Int)} (hy : low99 l) {i : Nat} (hi : i < l.length) {n : Int} (hn : 1 ≤ n ∧ n ≤ 99) (hr : l[i].length < 4) : low99 (l.set i (l[i] ++ [n])) := by
  refine ⟨by rw [List.length_set]; exact hy.1, fun x hx => ?_⟩
  rcases List.mem_or_eq_of_mem_set hx with hx | rfl
  · exact hy.2 x hx
  · refine ⟨by rw [List.length_append, List.length_singleton]; omega, fun m hm => ?_⟩
    rw [List.mem_append, List.mem_singleton] at hm
    rcases hm with hm | rfl
    · exact (hy.2 _ (List.getElem_mem hi)).2 m hm
    · exact hn
theorem box_push {l : List (List Int)} {N : Int} (hb : boxIn l N = true) {i : Nat} (hi : i < l.length) {n : Int} (hn : n ≤ N) : boxIn (l.set i (l[i] ++ [n])) N = true := by
  unfold boxIn at hb ⊢
  rw [List.all_eq_true] at hb ⊢
  intro x hx
  rcases List.mem_or_eq_of_mem_set hx with hx | rfl
  · exact hb x hx
  · rw [List.all_eq_true]
    intro m hm
    rw [List.mem_append, List.mem_singleton] at hm
    rcases hm with hm | rfl
    · exact List.all_eq_true.mp (hb _ (List.getElem_mem hi)) m hm
    · exact decide_eq_true hn
def alw (cs : List C) (a n : Int) : List (List Int) → Nat → List Int
  | [], _ => []
  | r :: l, i => (if r.length < 4 ∧ (rl cs a (i : Int) (r ++ [n]) r.length).length = 0 then [(i : Int)] else []) ++ alw cs a n l (i + 1)
theorem alw_len (cs : List C) (a n : Int) : ∀ (l : List (List Int)) (i : Nat), (alw cs a n l i).length ≤ l.length
  | [], _ => Nat.le_refl _
  | r :: l, i => by
    unfold alw
    have := alw_len cs a n l (i + 1)
    rw [List.length_append, List.length_cons]
    split
    · rw [List.length_singleton]; omega
    · rw [List.length_nil]; omega
theorem row_in {l : List (List Int)} {cs : List C} (hy : okYard l = true) (hb : boxIn l (cs.length : Int) = true) {i : Nat} (hi : i < l.length) {n : Int} (hn : 1 ≤ n ∧ n ≤ (cs.length : Int)) (h99 : n ≤ 99) :
    ∀ j, j < (l[i] ++ [n]).length → 1 ≤ rd (l[i] ++ [n]) (j : Int) ∧ rd (l[i] ++ [n]) (j : Int) ≤ 99 ∧ rd (l[i] ++ [n]) (j : Int) ≤ (cs.length : Int) := by
  intro j hj
  rw [rd_at _ j hj]
  by_cases h : j < l[i].length
  · rw [List.getElem_append_left h]
    have := cell_in (okYard_mem hy) hb hi h
    rw [rd_at _ j h] at this
    exact this
  · rw [List.length_append, List.length_singleton] at hj
    have e : j = l[i].length := by omega
    subst e
    rw [List.getElem_append_right (Nat.le_refl _)]
    simp
    omega
theorem go_ev {l : List (List Int)} {cs : List C} (hy : okYard l = true) (hb : boxIn l (cs.length : Int) = true) (a : Int) {n : Int} (hn : 1 ≤ n ∧ n ≤ (cs.length : Int)) (h99 : n ≤ 99) : ∀ d i (acc : List Int), i + d = l.length →
    Ev (fun k => impl_AllowedStacks.go k l cs a n d i acc) (acc ++ alw cs a n (l.drop i) i) := by
  intro d
  induction d with
  | zero =>
    intro i acc hi
    rw [List.drop_of_length_le (by omega), show alw cs a n [] i = [] from rfl, List.append_nil]
    exact ev_const rfl
  | succ d ih =>
    intro i acc hi
    have hlt : i < l.length := by omega
    have h4 := ((okYard_mem hy).2 _ (List.getElem_mem hlt)).1
    unfold impl_AllowedStacks.go
    rw [List.drop_eq_getElem_cons hlt, getD_at _ _ _ hlt, alw]
    by_cases hr : l[i].length < 4
    · have hbr := broken_impl (row := l[i] ++ [n]) (cs := cs) a i (j := l[i].length) (by rw [List.length_append, List.length_singleton]; omega) (by rw [List.length_append, List.length_singleton]; omega) (row_in hy hb hlt hn h99)
      refine ev_pos hr (Ev.bind hbr ?_)
      by_cases h0 : (rl cs a (i : Int) (l[i] ++ [n]) l[i].length).length = 0
      · rw [if_pos h0, if_pos ⟨hr, h0⟩, ← List.append_assoc]
        exact ih (i + 1) _ (by omega)
      · rw [if_neg h0, if_neg (fun h => h0 h.2), List.nil_append]
        exact ih (i + 1) _ (by omega)
    · rw [if_neg (fun h => hr h.1), List.nil_append]
      exact ev_neg hr (ih (i + 1) _ (by omega))
theorem put_spec {l : List (List Int)} (hn : l.length ≤ 1048576) (hx : ∀ x, x ∈ l → x.length ≤ 1048576) (i : Nat) (hi : i < l.length) (n : Int) : Ev (fun k => spec_l7Put.f k l (i : Int) n) (l.set i (l[i] ++ [n])) := by
  unfold spec_l7Put.f
  refine Ev.bind (own_spec l hn hx) ?_
  have := hx _ (List.getElem_mem hi)
  rw [rd_l1 l i hi]
  refine ev_pos (by omega) (ev_pos (by omega) (ev_pos (by omega) (ev_const ?_)))
  rw [Int.toNat_natCast]
theorem alw_spec {l : List (List Int)} {cs : List C} (hy : okYard l = true) (hb : boxIn l (cs.length : Int) = true) (a : Int) {n : Int} (hn : 1 ≤ n ∧ n ≤ (cs.length : Int)) (h99 : n ≤ 99) : ∀ d i (acc : List Int), i + d = l.length → acc.length ≤ i →
    Ev (fun k => spec_AllowedStacks.l0 k cs a n acc (i : Int) l) (acc ++ alw cs a n (l.drop i) i, true) := by
  have hm := okYard_mem hy
  intro d
  induction d with
  | zero =>
    intro i acc hi ha
    refine Ev.step (fun k => by simp only [spec_AllowedStacks.l0]; rfl) (ev_neg (by omega) (ev_const ?_))
    rw [List.drop_of_length_le (by omega), show alw cs a n [] i = [] from rfl, List.append_nil]
  | succ d ih =>
    intro i acc hi ha
    have hlt : i < l.length := by omega
    have h4 := (hm.2 _ (List.getElem_mem hlt)).1
    refine Ev.step (fun k => by simp only [spec_AllowedStacks.l0]; rfl) (ev_pos (by omega) (ev_pos (by omega) ?_))
    rw [rd_l1 l i hlt, wsucc hlt (by omega), List.drop_eq_getElem_cons hlt, alw]
    by_cases hr : l[i].length < 4
    · refine ev_neg (by omega) (Ev.bind (put_spec (by omega) (fun x hx => by have := (hm.2 x hx).1; omega) i hlt n) ?_)
      have hil : i < (l.set i (l[i] ++ [n])).length := by rw [List.length_set]; exact hlt
      have he : (l.set i (l[i] ++ [n]))[i] = l[i] ++ [n] := List.getElem_set_self hil
      have hat := at_spec (l := l.set i (l[i] ++ [n])) (cs := cs) (low_push hm hlt ⟨hn.1, h99⟩ hr) (box_push hb hlt hn.2) a hil (j := l[i].length) (by rw [he, List.length_append, List.length_singleton]; omega)
      rw [he] at hat
      refine Ev.bind hat ?_
      rw [List.length_map]
      by_cases h0 : (rl cs a (i : Int) (l[i] ++ [n]) l[i].length).length = 0
      · rw [if_pos ⟨hr, h0⟩, ← List.append_assoc]
        exact ev_pos (by omega) (ev_pos (by omega) (ih (i + 1) _ (by omega) (by rw [List.length_append, List.length_singleton]; omega)))
      · rw [if_neg (fun h => h0 h.2), List.nil_append]
        exact ev_neg (by omega) (ih (i + 1) _ (by omega) (by omega))
    · rw [if_neg (fun h => hr h.1), List.nil_append]
      exact ev_pos (by omega) (ih (i + 1) _ (by omega) (by omega))
theorem allow_val (l : List (List Int)) (cs : List C) (a n : Int) (hn : l.length ≤ 1048576) (hx : ∀ x, x ∈ l → x.length ≤ 1048576) (hc : cs.length ≤ 1048576) :
    ∃ (r : List Int) (b : Bool), Ev (fun k => spec_AllowedStacks.f k l cs a n) (r, b) ∧ Ev (fun k => impl_AllowedStacks.f k l cs a n) (r, b) ∧ (r = [] ∨ (r = alw cs a n l 0 ∧ okAsk l cs a = true ∧ inr n 1 (cs.length : Int) = true ∧ (findR n l 0).1 < 0)) := by
  have s0 : ∀ {g : Nat → Option (List Int × Bool)} {r}, (Ev (fun k => (spec_l7Asked.f k l cs a).bind fun t260 => (if t260 = true then ((spec_l1In.f n 1 (cs.length : Int)).bind fun t261 => (spec_AllowedStacks.j0 k cs a n [] (!t261) l)) else (spec_AllowedStacks.j0 k cs a n [] true l))) r) → Ev (fun k => spec_AllowedStacks.f k l cs a n) r := fun h => by
    unfold spec_AllowedStacks.f
    exact Ev.bind (ev_const rfl) h
  have fs : Ev (fun k => spec_AllowedStacks.j0 k cs a n [] true l) ([], false) := Ev.step (fun k => by simp only [spec_AllowedStacks.j0]; rfl) (ev_pos trivial (ev_const rfl))
  have hA := ask_spec l cs a hn hx hc
  have hI := ask_impl l cs a hn hx hc
  have hP := place_impl l n hn hx
  have hF := find_spec l n hn hx
  have no : ∀ (hk : ¬ (okAsk l cs a = true ∧ inr n 1 (cs.length : Int) = true ∧ (findR n l 0).1 < 0)), Ev (fun k => impl_AllowedStacks.f k l cs a n) ([], false) := fun hk => by
    unfold impl_AllowedStacks.f
    exact Ev.bind hP (Ev.bind hI (ev_neg hk (ev_const rfl)))
  cases h1 : okAsk l cs a
  · rw [h1] at hA
    exact ⟨[], false, s0 (g := fun _ => none) (Ev.bind hA (ev_neg (by simp) fs)), no (by rw [h1]; simp), Or.inl rfl⟩
  rw [h1] at hA
  cases h2 : inr n 1 (cs.length : Int)
  · refine ⟨[], false, s0 (g := fun _ => none) (Ev.bind hA (ev_pos rfl (ev_call (in_spec _ _ _) ?_))), no (by rw [h2]; simp), Or.inl rfl⟩
    rw [h2]; exact fs
  by_cases h3 : (findR n l 0).1 < 0
  · have hy := okAsk_in h1
    have hnn := inr_iff.mp h2
    have h12 : cs.length ≤ 12 := by
      have h5 := h1
      unfold okAsk okList at h5
      simp only [Bool.and_eq_true, decide_eq_true_eq] at h5
      omega
    have e1 := alw_spec hy.1 hy.2 a hnn (by omega) l.length 0 [] (by omega) (Nat.le_refl _)
    have e2 := go_ev hy.1 hy.2 a hnn (by omega) l.length 0 [] (by omega)
    rw [List.drop_zero, List.nil_append] at e1 e2
    have hl := alw_len cs a n l 0
    refine ⟨alw cs a n l 0, true, s0 (g := fun _ => none) (Ev.bind hA (ev_pos rfl (ev_call (in_spec _ _ _) ?_))), ?_, Or.inr ⟨rfl, rfl, rfl, h3⟩⟩
    · rw [h2]
      exact Ev.step (fun k => by simp only [spec_AllowedStacks.j0]; rfl) (ev_neg (by simp) (Ev.bind hF (ev_neg (show ¬ ((findR n l 0).1 ≥ 0) by omega) e1)))
    · unfold impl_AllowedStacks.f
      have hm := okYard_mem hy.1
      exact Ev.bind hP (Ev.bind hI (ev_pos ⟨h1, h2, h3⟩ (Ev.bind (own_impl l hn hx) (ev_pos (by omega) (Ev.bind e2 (ev_const rfl))))))
  · refine ⟨[], false, s0 (g := fun _ => none) (Ev.bind hA (ev_pos rfl (ev_call (in_spec _ _ _) ?_))), no (fun h => h3 h.2.2), Or.inl rfl⟩
    rw [h2]
    exact Ev.step (fun k => by simp only [spec_AllowedStacks.j0]; rfl) (ev_neg (by simp) (Ev.bind hF (ev_pos (show (findR n l 0).1 ≥ 0 by omega) (ev_const rfl))))
end Go.Proofs.Ytemildnlfjijmaa.UF
namespace Go.Proofs.Ytemildnlfjijmaa.UF
open Go.RowKit Go.Proofs.YtemildnlfjijmaaW.PrintWords Go.Proofs.YtemildnlfjijmaaW.PrintMore Go.Proofs.Ytemildnlfjijmaa.P Go.Proofs.Ytemildnlfjijmaa.U Go.Proofs.Ytemildnlfjijmaa.UT Go.Proofs.Ytemildnlfjijmaa.UY Go.Proofs.Ytemildnlfjijmaa.UC
set_option linter.unusedVariables false

theorem rows_at {l : List (List Int)} {Q : List Int → Prop} (h : ∀ x, x ∈ l → Q x) (h0 : Q []) (i : Nat) : Q (l.getD i []) := by
  by_cases hi : i < l.length
  · rw [getD_at _ _ _ hi]; exact h _ (List.getElem_mem hi)
  · rw [show l.getD i [] = [] by simp [List.getD, List.getElem?_eq_none (show l.length ≤ i by omega)]]; exact h0
theorem mem_mv {l : List (List Int)} {P : Int → Prop} (h : ∀ x, x ∈ l → ∀ n, n ∈ x → P n) (f t : Nat) (hf : 0 < (l.getD f []).length) : ∀ x, x ∈ mvTab l f t → ∀ n, n ∈ x → P n := by
  have hr := fun i => rows_at (Q := fun x => ∀ n, n ∈ x → P n) h (fun n hn => by cases hn) i
  have hcut : ∀ x, x ∈ mvCut l f → ∀ n, n ∈ x → P n := by
    intro x hx n hn
    unfold mvCut at hx
    rcases List.mem_or_eq_of_mem_set hx with hx | hx
    · exact h x hx n hn
    · rw [hx] at hn; exact hr f n (List.mem_of_mem_take hn)
  intro x hx n hn
  unfold mvTab at hx
  rcases List.mem_or_eq_of_mem_set hx with hx | hx
  · exact hcut x hx n hn
  · rw [hx, List.mem_append] at hn
    rcases hn with hn | hn
    · exact rows_at (Q := fun x => ∀ n, n ∈ x → P n) hcut (fun n hn => by cases hn) t n hn
    · rw [List.mem_singleton] at hn
      rw [hn]
      unfold mvTop
      rw [getD_at _ _ _ (by omega)]
      exact hr f _ (List.getElem_mem (by omega))
theorem len_mv {l : List (List Int)} (h : ∀ x, x ∈ l → x.length ≤ 4) (f t : Nat) (hft : t ≠ f) (ht : (l.getD t []).length ≤ 3) : ∀ x, x ∈ mvTab l f t → x.length ≤ 4 := by
  have hr := fun i => rows_at (Q := fun x => x.length ≤ 4) h (by simp) i
  intro x hx
  unfold mvTab at hx
  rcases List.mem_or_eq_of_mem_set hx with hx | hx
  · unfold mvCut at hx
    rcases List.mem_or_eq_of_mem_set hx with hx | hx
    · exact h x hx
    · rw [hx, List.length_take]; have := hr f; omega
  · have e : (mvCut l f).getD t [] = l.getD t [] := by unfold mvCut; simp [List.getD, Ne.symm hft]
    rw [hx, e, List.length_append, List.length_singleton]; omega
/-- Why a move is none. -/
def noMove (l : List (List Int)) (a b : Nat) : Prop := a = b ∨ (l.getD a []).length = 0 ∨ (l.getD b []).length = 4
instance (l : List (List Int)) (a b : Nat) : Decidable (noMove l a b) := by unfold noMove; exact inferInstance
theorem mv_ok {l : List (List Int)} {cs : List C} (hy : low99 l) (hb : boxIn l (cs.length : Int) = true) (a b : Nat) (h : ¬ noMove l a b) : low99 (mvTab l a b) ∧ boxIn (mvTab l a b) (cs.length : Int) = true := by
  have h1 : ¬ a = b := fun e => h (Or.inl e)
  have h2 : ¬ (l.getD a []).length = 0 := fun e => h (Or.inr (Or.inl e))
  have h3 : ¬ (l.getD b []).length = 4 := fun e => h (Or.inr (Or.inr e))
  have h4 := rows_at (Q := fun x => x.length ≤ 4) (fun x hx => (hy.2 x hx).1) (by simp) b
  have hl : (mvTab l a b).length = l.length := by unfold mvTab mvCut; rw [List.length_set, List.length_set]
  refine ⟨⟨by rw [hl]; exact hy.1, fun x hx => ⟨len_mv (fun x hx => (hy.2 x hx).1) a b (Ne.symm h1) (by omega) x hx, mem_mv (fun x hx => (hy.2 x hx).2) a b (by omega) x hx⟩⟩, ?_⟩
  unfold boxIn
  rw [List.all_eq_true]
  intro x hx
  rw [List.all_eq_true]
  intro n hn
  refine mem_mv (P := fun n => decide (n ≤ (cs.length : Int)) = true) ?_ a b (by omega) x hx n hn
  intro y hy2 m hm
  unfold boxIn at hb
  exact List.all_eq_true.mp (List.all_eq_true.mp hb _ hy2) _ hm
def hlp1 (l : List (List Int)) (cs : List C) (q now : Int) (a b : Nat) : List (List Int) :=
  if noMove l a b then [] else if ((found (mvTab l a b) cs q).length : Int) < now then [[(a : Int), (b : Int)]] else []
def hRow (l : List (List Int)) (cs : List C) (q now : Int) (a : Nat) : Nat → Nat → List (List Int) → List (List Int)
  | 0, _, acc => acc
  | d + 1, b, acc => hRow l cs q now a d (b + 1) (acc ++ hlp1 l cs q now a b)
def hAll (l : List (List Int)) (cs : List C) (q now : Int) : Nat → Nat → List (List Int) → List (List Int)
  | 0, _, acc => acc
  | d + 1, a, acc => hAll l cs q now d (a + 1) (hRow l cs q now a l.length 0 acc)
theorem hlp1_len (l : List (List Int)) (cs : List C) (q now : Int) (a b : Nat) : (hlp1 l cs q now a b).length ≤ 1 ∧ ∀ x, x ∈ hlp1 l cs q now a b → x.length ≤ 2 := by
  unfold hlp1
  split
  · simp
  · split <;> simp
theorem hRow_len (l : List (List Int)) (cs : List C) (q now : Int) (a : Nat) : ∀ (d b : Nat) (acc : List (List Int)), (∀ x, x ∈ acc → x.length ≤ 2) → (hRow l cs q now a d b acc).length ≤ acc.length + d ∧ ∀ x, x ∈ hRow l cs q now a d b acc → x.length ≤ 2
  | 0, _, acc, h => ⟨by unfold hRow; omega, by unfold hRow; exact h⟩
  | d + 1, b, acc, h => by
    unfold hRow
    have h1 := hlp1_len l cs q now a b
    have h2 := hRow_len l cs q now a d (b + 1) (acc ++ hlp1 l cs q now a b) (fun x hx => by rw [List.mem_append] at hx; rcases hx with hx | hx; exact h x hx; exact h1.2 x hx)
    rw [List.length_append] at h2
    exact ⟨by have := h2.1; omega, h2.2⟩
theorem hAll_len (l : List (List Int)) (cs : List C) (q now : Int) : ∀ (d a : Nat) (acc : List (List Int)), (∀ x, x ∈ acc → x.length ≤ 2) → (hAll l cs q now d a acc).length ≤ acc.length + d * l.length ∧ ∀ x, x ∈ hAll l cs q now d a acc → x.length ≤ 2
  | 0, _, acc, h => ⟨by unfold hAll; omega, by unfold hAll; exact h⟩
  | d + 1, a, acc, h => by
    unfold hAll
    have h1 := hRow_len l cs q now a l.length 0 acc h
    have h2 := hAll_len l cs q now d (a + 1) _ h1.2
    exact ⟨by have := h2.1; have := h1.1; rw [Nat.succ_mul]; omega, h2.2⟩
theorem rd1_getD (l : List (List Int)) (i : Nat) : rd_L4 l (i : Int) = l.getD i [] := rfl
theorem move_spec {l : List (List Int)} (hy : low99 l) (a b : Nat) (ha : a < l.length) (hb : b < l.length) (h : ¬ noMove l a b) : Ev (fun k => spec_l5Move.f k l (a : Int) (b : Int)) (mvTab l a b) := by
  have h2 : ¬ (l.getD a []).length = 0 := fun e => h (Or.inr (Or.inl e))
  have hl := hy.1
  have hm : ∀ x, x ∈ l → x.length ≤ 1048576 := fun x hx => by have := (hy.2 x hx).1; omega
  unfold spec_l5Move.f
  refine Ev.bind (own_spec l (by omega) hm) (ev_const ?_)
  unfold spec_l5Move.g
  rw [if_pos ⟨by omega, by omega, by omega, by omega, by rw [Int.toNat_natCast]; omega, fun x hx => by have := (hy.2 x hx).1; omega⟩, Int.toNat_natCast, Int.toNat_natCast]
  rfl
theorem move_impl {l : List (List Int)} (hk : okYard l = true) (hy : low99 l) (a b : Nat) (ha : a < l.length) (hb : b < l.length) : Ev (fun k => impl_MoveTop.f k l (a : Int) (b : Int)) (if noMove l a b then ([], 0, false) else (mvTab l a b, mvTop l a, true)) := by
  have hl := hy.1
  have hm : ∀ x, x ∈ l → x.length ≤ 1048576 := fun x hx => by have := (hy.2 x hx).1; omega
  have hs : okStacks l [(a : Int), (b : Int)] = true := by
    unfold okStacks
    rw [hk]
    have e1 : inr (a : Int) 0 ((l.length : Int) - 1) = true := inr_iff.mpr ⟨by omega, by omega⟩
    have e2 : inr (b : Int) 0 ((l.length : Int) - 1) = true := inr_iff.mpr ⟨by omega, by omega⟩
    simp [e1, e2]
  unfold impl_MoveTop.f impl_hasStack.f
  refine Ev.bind (ev_const rfl) ?_
  rw [hs]
  refine ev_neg (by decide) (ev_pos ⟨by omega, by omega⟩ (ev_pos ⟨by omega, by omega⟩ ?_))
  rw [rd1_getD, rd1_getD]
  by_cases h : noMove l a b
  · rw [if_pos h]
    refine ev_pos ?_ (ev_const rfl)
    rcases h with h | h | h
    · exact Or.inl (by omega)
    · exact Or.inr (Or.inl (by omega))
    · exact Or.inr (Or.inr (by omega))
  · have h1 : ¬ a = b := fun e => h (Or.inl e)
    have h2 : ¬ (l.getD a []).length = 0 := fun e => h (Or.inr (Or.inl e))
    have h3 : ¬ (l.getD b []).length = 4 := fun e => h (Or.inr (Or.inr e))
    rw [if_neg h]
    refine ev_neg (by omega) (Ev.bind (own_impl l (by omega) hm) (ev_const ?_))
    unfold impl_MoveTop.g
    rw [Int.toNat_natCast, Int.toNat_natCast, if_pos ⟨ha, hb, by omega, fun x hx => by have := (hy.2 x hx).1; omega⟩]
theorem help_spec_l {l : List (List Int)} {cs : List C} (hy : low99 l) (hb : boxIn l (cs.length : Int) = true) (q now : Int) : ∀ (d a : Nat) (acc : List (List Int)), a + d = l.length → acc.length ≤ 6 * a →
    Ev (fun k => spec_HelpfulMoves.l0 k cs q acc now (a : Int) l) (hAll l cs q now d a acc, true) := by
  have h6 := hy.1
  intro d
  induction d with
  | zero =>
    intro a acc ha hc
    refine Ev.step (fun k => by simp only [spec_HelpfulMoves.l0]; rfl) (ev_neg (by omega) (ev_const rfl))
  | succ d ih =>
    intro a acc ha hc
    have hlt : a < l.length := by omega
    refine Ev.step (fun k => by simp only [spec_HelpfulMoves.l0]; rfl) (ev_pos (by omega) ?_)
    unfold hAll
    have inner : ∀ (e b : Nat) (acc : List (List Int)), b + e = l.length → acc.length ≤ 6 * a + b → Ev (fun k => spec_HelpfulMoves.l1 k cs q acc now (a : Int) (b : Int) l) (hAll l cs q now d (a + 1) (hRow l cs q now a e b acc), true) := by
      intro e
      induction e with
      | zero =>
        intro b acc hb1 hc1
        refine Ev.step (fun k => by simp only [spec_HelpfulMoves.l1]; rfl) (ev_neg (by omega) ?_)
        rw [wsucc hlt (by omega)]
        exact ih (a + 1) acc (by omega) (by omega)
      | succ e ihe =>
        intro b acc hb1 hc1
        have hbt : b < l.length := by omega
        unfold hRow
        have no : noMove l a b → Ev (fun k => spec_HelpfulMoves.j2 k cs q acc now (a : Int) (b : Int) true l) (hAll l cs q now d (a + 1) (hRow l cs q now a e (b + 1) (acc ++ hlp1 l cs q now a b)), true) := fun h => by
          refine Ev.step (fun k => by simp only [spec_HelpfulMoves.j2]; rfl) (ev_pos (c := true = true) rfl ?_)
          rw [wsucc hbt (by omega), hlp1, if_pos h, List.append_nil]
          exact ihe (b + 1) acc (by omega) (by omega)
        refine Ev.step (fun k => by simp only [spec_HelpfulMoves.l1]; rfl) (ev_pos (by omega) ?_)
        rw [rd1_getD, rd1_getD]
        by_cases h1 : a = b
        · exact ev_pos (by omega) (no (Or.inl h1))
        refine ev_neg (by omega) (ev_pos (by omega) (ev_pos (by omega) ?_))
        by_cases h2 : (l.getD a []).length = 0
        · exact ev_pos (by omega) (no (Or.inr (Or.inl h2)))
        refine ev_neg (by omega) (ev_pos (by omega) ?_)
        by_cases h3 : (l.getD b []).length = 4
        · rw [show (((l.getD b []).length : Int) == 4) = true from beq_iff_eq.mpr (by omega)]
          exact no (Or.inr (Or.inr h3))
        rw [show (((l.getD b []).length : Int) == 4) = false from beq_eq_false_iff_ne.mpr (by omega)]
        have hno : ¬ noMove l a b := by rintro (h | h | h); exact h1 h; exact h2 h; exact h3 h
        obtain ⟨hm1, hm2⟩ := mv_ok hy hb a b hno
        refine Ev.step (fun k => by simp only [spec_HelpfulMoves.j2]; rfl) (ev_neg (by simp) ?_)
        refine Ev.bind (move_spec hy a b hlt hbt hno) (Ev.bind (found_spec hm1 hm2 q) ?_)
        rw [wsucc hbt (by omega), hlp1, if_neg hno]
        by_cases hf : ((found (mvTab l a b) cs q).length : Int) < now
        · rw [if_pos hf]
          exact ev_pos hf (ev_pos (by omega) (ihe (b + 1) _ (by omega) (by rw [List.length_append, List.length_singleton]; omega)))
        · rw [if_neg hf, List.append_nil]
          exact ev_neg hf (ihe (b + 1) acc (by omega) (by omega))
    exact inner l.length 0 acc (by omega) (by omega)
theorem help_impl_l {l : List (List Int)} {cs : List C} (hk : okYard l = true) (hy : low99 l) (hb : boxIn l (cs.length : Int) = true) (q now : Int) : ∀ (d a : Nat) (acc : List (List Int)), a + d = l.length → acc.length ≤ 6 * a →
    Ev (fun k => impl_HelpfulMoves.l0 k cs q now acc (l.length : Int) (a : Int) l) (hAll l cs q now d a acc, true) := by
  have h6 := hy.1
  intro d
  induction d with
  | zero =>
    intro a acc ha hc
    refine Ev.step (fun k => by simp only [impl_HelpfulMoves.l0]; rfl) (ev_neg (by omega) (ev_const rfl))
  | succ d ih =>
    intro a acc ha hc
    have hlt : a < l.length := by omega
    refine Ev.step (fun k => by simp only [impl_HelpfulMoves.l0]; rfl) (ev_pos (by omega) ?_)
    unfold hAll
    have inner : ∀ (e b : Nat) (acc : List (List Int)), b + e = l.length → acc.length ≤ 6 * a + b → Ev (fun k => impl_HelpfulMoves.l1 k cs q now acc (a : Int) (l.length : Int) (a : Int) (l.length : Int) (b : Int) l) (hAll l cs q now d (a + 1) (hRow l cs q now a e b acc), true) := by
      intro e
      induction e with
      | zero =>
        intro b acc hb1 hc1
        refine Ev.step (fun k => by simp only [impl_HelpfulMoves.l1]; rfl) (ev_neg (by omega) ?_)
        rw [wsucc hlt (by omega)]
        exact ih (a + 1) acc (by omega) (by omega)
      | succ e ihe =>
        intro b acc hb1 hc1
        have hbt : b < l.length := by omega
        unfold hRow
        refine Ev.step (fun k => by simp only [impl_HelpfulMoves.l1]; rfl) (ev_pos (by omega) (Ev.bind (move_impl hk hy a b hlt hbt) ?_))
        rw [wsucc hbt (by omega), hlp1]
        by_cases h : noMove l a b
        · rw [if_pos h, if_pos h, List.append_nil]
          exact ev_neg (by simp) (ihe (b + 1) acc (by omega) (by omega))
        · rw [if_neg h, if_neg h]
          obtain ⟨hm1, hm2⟩ := mv_ok hy hb a b h
          refine ev_pos rfl (Ev.bind (found_impl hm1 hm2 q) ?_)
          by_cases hf : ((found (mvTab l a b) cs q).length : Int) < now
          · rw [if_pos hf]
            exact ev_pos hf (ev_pos (by omega) (ihe (b + 1) _ (by omega) (by rw [List.length_append, List.length_singleton]; omega)))
          · rw [if_neg hf, List.append_nil]
            exact ev_neg hf (ihe (b + 1) acc (by omega) (by omega))
    exact inner l.length 0 acc (by omega) (by omega)
theorem help_val (l : List (List Int)) (cs : List C) (q : Int) (hn : l.length ≤ 1048576) (hx : ∀ x, x ∈ l → x.length ≤ 1048576) (hc : cs.length ≤ 1048576) :
    ∃ (r : List (List Int)) (b : Bool), Ev (fun k => spec_HelpfulMoves.f k l cs q) (r, b) ∧ Ev (fun k => impl_HelpfulMoves.f k l cs q) (r, b) ∧ r.length ≤ 1048576 ∧ (∀ x, x ∈ r → x.length ≤ 1048576) ∧ (r = [] ∨ (okAsk l cs q = true ∧ r = hAll l cs q ((found l cs q).length : Int) l.length 0 [])) := by
  have hA := ask_spec l cs q hn hx hc
  have hI := ask_impl l cs q hn hx hc
  cases h : okAsk l cs q
  · rw [h] at hA hI
    refine ⟨[], false, ?_, ?_, by simp, by simp, Or.inl rfl⟩
    · unfold spec_HelpfulMoves.f
      exact Ev.bind (ev_const rfl) (Ev.bind hA (ev_neg (by simp) (ev_const rfl)))
    · unfold impl_HelpfulMoves.f
      exact Ev.bind hI (ev_neg (by simp) (ev_const rfl))
  · rw [h] at hA hI
    obtain ⟨hk, hb⟩ := okAsk_in h
    have hy : low99 l := okYard_mem hk
    obtain ⟨r, hr⟩ : ∃ r, r = hAll l cs q ((found l cs q).length : Int) l.length 0 [] := ⟨_, rfl⟩
    have hl := hAll_len l cs q ((found l cs q).length : Int) l.length 0 [] (by simp)
    rw [← hr] at hl
    have h6 := hy.1
    have hq : l.length * l.length ≤ 6 * 6 := Nat.mul_le_mul h6.2 h6.2
    refine ⟨r, true, ?_, ?_, by have := hl.1; simp at this; omega, fun x hx => by have := hl.2 x hx; omega, Or.inr ⟨rfl, hr⟩⟩
    · unfold spec_HelpfulMoves.f
      rw [hr]
      exact Ev.bind (ev_const rfl) (Ev.bind hA (ev_pos rfl (Ev.bind (found_spec hy hb q) (help_spec_l hy hb q _ l.length 0 [] (by omega) (by simp)))))
    · unfold impl_HelpfulMoves.f
      rw [hr]
      exact Ev.bind hI (ev_pos rfl (Ev.bind (found_impl hy hb q) (help_impl_l hk hy hb q _ l.length 0 [] (by omega) (by simp))))
end Go.Proofs.Ytemildnlfjijmaa.UF
namespace Go.Proofs.Ytemildnlfjijmaa.UF
open Go.RowKit Go.Proofs.YtemildnlfjijmaaW.PrintWords Go.Proofs.YtemildnlfjijmaaW.PrintMore Go.Proofs.Ytemildnlfjijmaa.P Go.Proofs.Ytemildnlfjijmaa.U Go.Proofs.Ytemildnlfjijmaa.UT Go.Proofs.Ytemildnlfjijmaa.UY Go.Proofs.Ytemildnlfjijmaa.UC Go.Proofs.Ytemildnlfjijmaa.UD
set_option linter.unusedVariables false
/-! A number that is put on a stack: the yard stays valid, no finding is added. -/
theorem chkRow_mk : ∀ (l s : List Int), (∀ n, n ∈ l → inr n 1 99 = true) → l.Nodup → (∀ x, x ∈ l → ¬ x ∈ s) → ∃ t, chkRow l s = some t
  | [], s, _, _, _ => ⟨s, rfl⟩
  | n :: l, s, h1, h2, h3 => by
    obtain ⟨h2a, h2b⟩ := List.nodup_cons.mp h2
    obtain ⟨t, ht⟩ := chkRow_mk l (n :: s) (fun m hm => h1 m (List.mem_cons_of_mem _ hm)) h2b (fun x hx hs => by
      rcases List.mem_cons.mp hs with rfl | hs
      · exact h2a hx
      · exact h3 x (List.mem_cons_of_mem _ hx) hs)
    refine ⟨t, ?_⟩
    unfold chkRow
    rw [if_pos (by rw [Bool.and_eq_true]; exact ⟨h1 n List.mem_cons_self, by simpa using h3 n List.mem_cons_self⟩)]
    exact ht
theorem chkRows_mk (cap : Int) : ∀ (l : List (List Int)) (s : List Int), (∀ x, x ∈ l → (x.length : Int) ≤ cap ∧ ∀ n, n ∈ x → inr n 1 99 = true) → l.flatten.Nodup → (∀ x, x ∈ l.flatten → ¬ x ∈ s) → ∃ t, chkRows cap l s = some t
  | [], s, _, _, _ => ⟨s, rfl⟩
  | r :: l, s, h1, h2, h3 => by
    rw [List.flatten_cons] at h2 h3
    obtain ⟨a1, a2, a3⟩ := List.nodup_append.mp h2
    obtain ⟨u, hu⟩ := chkRow_mk r s (h1 r List.mem_cons_self).2 a1 (fun x hx => h3 x (List.mem_append_left _ hx))
    obtain ⟨b1, _, _⟩ := chkRow_once r s u hu
    obtain ⟨t, ht⟩ := chkRows_mk cap l u (fun x hx => h1 x (List.mem_cons_of_mem _ hx)) a2 (fun x hx hs => by
      rcases (b1 x).mp hs with hs | hs
      · exact h3 x (List.mem_append_right _ hx) hs
      · exact a3 x hs x hx rfl)
    refine ⟨t, ?_⟩
    unfold chkRows
    rw [if_pos (h1 r List.mem_cons_self).1, hu]
    exact ht
theorem not_in_find {n : Int} : ∀ {l : List (List Int)} {i : Nat}, (findR n l i).1 < 0 → ¬ n ∈ l.flatten
  | [], _, _ => by simp
  | r :: l, i, h => by
    unfold findR at h
    split at h
    · exact absurd h (by simp)
    · rename_i hc
      rw [List.flatten_cons, List.mem_append, not_or]
      exact ⟨by simpa using hc, not_in_find h⟩
theorem flat_set {l : List (List Int)} {i : Nat} (hi : i < l.length) (n : Int) : (l.set i (l[i] ++ [n])).flatten.Perm (n :: l.flatten) := by
  have h1 : l = l.take i ++ l[i] :: l.drop (i + 1) := by rw [← List.drop_eq_getElem_cons hi, List.take_append_drop]
  have h2 : l.set i (l[i] ++ [n]) = l.take i ++ (l[i] ++ [n]) :: l.drop (i + 1) := by
    rw [List.set_eq_take_append_cons_drop, if_pos hi]
  rw [h2, List.flatten_append, List.flatten_cons]
  have h3 : l.flatten = (l.take i).flatten ++ (l[i] ++ (l.drop (i + 1)).flatten) := by
    conv => lhs; rw [h1]
    rw [List.flatten_append, List.flatten_cons]
  rw [h3]
  have e : (l.take i).flatten ++ (l[i] ++ [n] ++ (l.drop (i + 1)).flatten) = ((l.take i).flatten ++ l[i]) ++ n :: (l.drop (i + 1)).flatten := by simp
  rw [e]
  refine List.perm_middle.trans ?_
  rw [List.append_assoc]
theorem okYard_push {l : List (List Int)} (hk : okYard l = true) {i : Nat} (hi : i < l.length) {n : Int} (hn : 1 ≤ n ∧ n ≤ 99) (hr : l[i].length < 4) (hf : ¬ n ∈ l.flatten) : okYard (l.set i (l[i] ++ [n])) = true := by
  have hm := okYard_mem hk
  have hp := low_push (l := l) hm hi hn hr
  unfold okYard at hk ⊢
  rw [Bool.and_eq_true, inr_iff] at hk ⊢
  refine ⟨by rw [List.length_set]; exact hk.1, ?_⟩
  obtain ⟨t, ht⟩ := Option.isSome_iff_exists.mp hk.2
  obtain ⟨_, hnd, _⟩ := chkRows_once 4 l [] t ht
  obtain ⟨u, hu⟩ := chkRows_mk 4 (l.set i (l[i] ++ [n])) [] (fun x hx => ⟨by have := (hp.2 x hx).1; omega, fun m hm2 => inr_iff.mpr ((hp.2 x hx).2 m hm2)⟩) ((flat_set hi n).nodup_iff.mpr (List.nodup_cons.mpr ⟨hf, hnd⟩)) (by simp)
  rw [hu]
  rfl
theorem okAsk_push {l : List (List Int)} {cs : List C} {a : Int} (h : okAsk l cs a = true) {i : Nat} (hi : i < l.length) {n : Int} (hn : inr n 1 (cs.length : Int) = true) (hr : l[i].length < 4) (hf : (findR n l 0).1 < 0) : okAsk (l.set i (l[i] ++ [n])) cs a = true := by
  have h12 : cs.length ≤ 12 := by
    have h5 := h
    unfold okAsk okList at h5
    simp only [Bool.and_eq_true, decide_eq_true_eq] at h5
    omega
  have hnn := inr_iff.mp hn
  unfold okAsk at h ⊢
  simp only [Bool.and_eq_true] at h ⊢
  exact ⟨okYard_push h.1 hi ⟨hnn.1, by omega⟩ hr (not_in_find hf), h.2.1, h.2.2.1, box_push h.2.2.2 hi hnn.2⟩
def cR (cs : List C) (a : Int) (i : Nat) (row : List Int) : Nat → Nat → Nat
  | 0, _ => 0
  | e + 1, j => (rl cs a i row j).length + cR cs a i row e (j + 1)
def cA (cs : List C) (a : Int) : List (List Int) → Nat → Nat
  | [], _ => 0
  | row :: l, i => cR cs a i row row.length 0 + cA cs a l (i + 1)
theorem fRow_len (cs : List C) (a : Int) (i : Nat) (row : List Int) : ∀ (e j : Nat) (acc : List F), (fRow cs a i row e j acc).length = acc.length + cR cs a i row e j
  | 0, _, acc => rfl
  | e + 1, j, acc => by
    unfold fRow cR
    rw [fRow_len cs a i row e (j + 1), List.length_append, List.length_map]
    omega
theorem fAll_len (cs : List C) (a : Int) : ∀ (l : List (List Int)) (i : Nat) (acc : List F), (fAll cs a l i acc).length = acc.length + cA cs a l i
  | [], _, acc => rfl
  | row :: l, i, acc => by
    unfold fAll cA
    rw [fAll_len cs a l (i + 1), fRow_len]
    omega
theorem rd_app (row : List Int) (n x : Int) (h : x.toNat < row.length) : rd (row ++ [n]) x = rd row x := by
  unfold rd
  rw [List.getD_eq_getElem?_getD, List.getD_eq_getElem?_getD, List.getElem?_append_left h]
theorem rl_app (cs : List C) (a i : Int) (row : List Int) (n : Int) (j : Nat) (h : j < row.length) : rl cs a i (row ++ [n]) j = rl cs a i row j := by
  have e1 := rd_app row n (j : Int) (by omega)
  have e2 := rd_app row n ((j : Int) - 1) (by omega)
  simp only [rl, r1, r2, r3, r4, e1, e2]
theorem cR_app (cs : List C) (a : Int) (i : Nat) (row : List Int) (n : Int) : ∀ (e j : Nat), j + e ≤ row.length → cR cs a i (row ++ [n]) e j = cR cs a i row e j
  | 0, _, _ => rfl
  | e + 1, j, h => by
    unfold cR
    rw [rl_app cs a i row n j (by omega), cR_app cs a i row n e (j + 1) (by omega)]
theorem cR_end (cs : List C) (a : Int) (i : Nat) (row : List Int) : ∀ (e j : Nat), cR cs a i row (e + 1) j = cR cs a i row e j + (rl cs a i row (j + e)).length
  | 0, j => by simp [cR]
  | e + 1, j => by
    rw [cR, cR_end cs a i row e (j + 1), cR, show j + 1 + e = j + (e + 1) by omega]
    omega
theorem cR_push (cs : List C) (a : Int) (i : Nat) (row : List Int) (n : Int) (h : (rl cs a i (row ++ [n]) row.length).length = 0) : cR cs a i (row ++ [n]) (row ++ [n]).length 0 = cR cs a i row row.length 0 := by
  rw [List.length_append, List.length_singleton, cR_end, Nat.zero_add, h, cR_app cs a i row n row.length 0 (by omega), Nat.add_zero]
theorem cA_set (cs : List C) (a n : Int) : ∀ (l : List (List Int)) (i s : Nat) (hs : s < l.length), (rl cs a ((i + s : Nat) : Int) (l[s] ++ [n]) l[s].length).length = 0 → cA cs a (l.set s (l[s] ++ [n])) i = cA cs a l i
  | [], _, _, hs, _ => absurd hs (by simp)
  | row :: l, i, 0, _, h => by
    rw [List.set_cons_zero, cA, cA]
    have h2 := cR_push cs a i row n h
    rw [show (row :: l)[0] = row from rfl, h2]
  | row :: l, i, s + 1, hs, h => by
    rw [List.set_cons_succ, cA, cA]
    have h2 := cA_set cs a n l (i + 1) s (by simpa using hs) (by rw [show i + 1 + s = i + (s + 1) by omega]; exact h)
    rw [show (row :: l)[s + 1] = l[s]'(by simpa using hs) from rfl, h2]
theorem alw_mem (cs : List C) (a n : Int) : ∀ (l : List (List Int)) (i : Nat) (x : Int), x ∈ alw cs a n l i → ∃ s, ∃ hs : s < l.length, x = ((i + s : Nat) : Int) ∧ l[s].length < 4 ∧ (rl cs a ((i + s : Nat) : Int) (l[s] ++ [n]) l[s].length).length = 0
  | [], _, _, h => by cases h
  | r :: l, i, x, h => by
    unfold alw at h
    rw [List.mem_append] at h
    rcases h with h | h
    · split at h
      · rename_i hc
        rw [List.mem_singleton] at h
        exact ⟨0, by simp, h, hc.1, hc.2⟩
      · cases h
    · obtain ⟨s, hs, h1, h2, h3⟩ := alw_mem cs a n l (i + 1) x h
      rw [show i + 1 + s = i + (s + 1) by omega] at h1 h3
      exact ⟨s + 1, by simpa using hs, h1, h2, h3⟩
/-! The law. -/
theorem find_val {l : List (List Int)} {cs : List C} {a : Int} (h : okAsk l cs a = true) (hc : cs.length ≤ 1048576) : Ev (fun k => impl_YardFindings.f k l cs a) (found l cs a, true) := by
  obtain ⟨hk, hb⟩ := okAsk_in h
  have hm := okYard_mem hk
  have hI := ask_impl l cs a (by omega) (fun x hx => by have := (hm.2 x hx).1; omega) hc
  rw [h] at hI
  unfold impl_YardFindings.f
  exact Ev.bind hI (ev_pos rfl (Ev.bind (found_impl hm hb a) (ev_const rfl)))
theorem keeps_val (l : List (List Int)) (cs : List C) (a : Int) (hn : l.length ≤ 1048576) (hx : ∀ x, x ∈ l → x.length ≤ 1048576) (hc : cs.length ≤ 1048576) : ∃ kp td, Ev (fun k => impl_KeepsYardRules.f k l cs a) (kp, td) ∧ (td = true → kp = true → okAsk l cs a = true ∧ (found l cs a).length = 0) := by
  have hI := ask_impl l cs a hn hx hc
  cases h : okAsk l cs a
  · rw [h] at hI
    exact ⟨false, false, by unfold impl_KeepsYardRules.f; exact Ev.bind hI (ev_neg (by simp) (ev_const rfl)), fun h => by cases h⟩
  · rw [h] at hI
    obtain ⟨hk, hb⟩ := okAsk_in h
    refine ⟨((found l cs a).length : Int) == 0, true, by unfold impl_KeepsYardRules.f; exact Ev.bind hI (ev_pos rfl (Ev.bind (found_impl (okYard_mem hk) hb a) (ev_const rfl))), fun _ hz => ⟨rfl, ?_⟩⟩
    have := eq_of_beq hz
    omega
theorem hRow_nil (l : List (List Int)) (cs : List C) (q : Int) (a : Nat) : ∀ (d b : Nat) (acc : List (List Int)), hRow l cs q 0 a d b acc = acc
  | 0, _, _ => rfl
  | d + 1, b, acc => by
    have h : hlp1 l cs q 0 a b = [] := by unfold hlp1; split; rfl; rw [if_neg (by omega)]
    unfold hRow
    rw [h, List.append_nil]
    exact hRow_nil l cs q a d (b + 1) acc
theorem hAll_nil (l : List (List Int)) (cs : List C) (q : Int) : ∀ (d a : Nat) (acc : List (List Int)), hAll l cs q 0 d a acc = acc
  | 0, _, _ => rfl
  | d + 1, a, acc => by
    unfold hAll
    rw [hRow_nil]
    exact hAll_nil l cs q d (a + 1) acc
theorem rints_l (l : List Int) (hn : l.length ≤ 1048576) : ∀ d i, i + d = l.length → Ev (fun k => laws_rInts.l0 k l l (i : Int)) true := by
  intro d
  induction d with
  | zero => intro i hi; exact Ev.step (fun k => by simp only [laws_rInts.l0]; rfl) (ev_neg (by omega) (ev_const rfl))
  | succ d ih =>
    intro i hi
    have hlt : i < l.length := by omega
    refine Ev.step (fun k => by simp only [laws_rInts.l0]; rfl) (ev_pos (by omega) (ev_pos (by omega) (ev_pos (by omega) ?_)))
    rw [wsucc hlt (by omega)]
    exact ev_pos trivial (ih (i + 1) (by omega))
theorem rints_ev (l : List Int) (hn : l.length ≤ 1048576) : Ev (fun k => laws_rInts.f k l l) true := by
  unfold laws_rInts.f
  exact ev_pos rfl (rints_l l hn l.length 0 (by omega))
theorem rtab_l (l : List (List Int)) (hn : l.length ≤ 1048576) (hx : ∀ x, x ∈ l → x.length ≤ 1048576) : ∀ d i, i + d = l.length → Ev (fun k => laws_rTable.l0 k l l (i : Int)) true := by
  intro d
  induction d with
  | zero => intro i hi; exact Ev.step (fun k => by simp only [laws_rTable.l0]; rfl) (ev_neg (by omega) (ev_const rfl))
  | succ d ih =>
    intro i hi
    have hlt : i < l.length := by omega
    refine Ev.step (fun k => by simp only [laws_rTable.l0]; rfl) (ev_pos (by omega) (ev_pos (by omega) (ev_pos (by omega) ?_)))
    rw [wsucc hlt (by omega), rd_l1 l i hlt]
    exact Ev.bind (rints_ev _ (hx _ (List.getElem_mem hlt))) (ev_pos rfl (ih (i + 1) (by omega)))
theorem rtab_ev (l : List (List Int)) (hn : l.length ≤ 1048576) (hx : ∀ x, x ∈ l → x.length ≤ 1048576) : Ev (fun k => laws_rTable.f k l l) true := by
  unfold laws_rTable.f
  exact ev_pos rfl (rtab_l l hn hx l.length 0 (by omega))
theorem moves_ok {c : List Int} (hc : codeOk c) (hbig : laws_rBig.f c = some false) : ∃ k, laws_FnYardMoves.Ok k c := by
  obtain ⟨y, ls, pl, n, ⟨k1, h1⟩, hA, hl⟩ := drawA_e hc
  have hyn : y.length ≤ 1048576 := by have := hA.1; omega
  have hyx : ∀ x, x ∈ y → x.length ≤ 1048576 := fun x hx => by have := hA.2 x hx; omega
  obtain ⟨st, ok, ⟨k2, h2⟩, ⟨k3, h3⟩, hst⟩ := allow_val y ls pl n hyn hyx (by omega)
  have hsl : st.length ≤ 20 := by
    rcases hst with rfl | ⟨rfl, _⟩
    · simp
    · have := alw_len ls pl n y 0; have := hA.1; omega
  obtain ⟨k4, h4⟩ := rints_ev st (by omega)
  obtain ⟨z, zs, q, ⟨k5, h5⟩, hZ, hzl⟩ := drawH_e hc
  have hzn : z.length ≤ 1048576 := by have := hZ.1; omega
  have hzx : ∀ x, x ∈ z → x.length ≤ 1048576 := fun x hx => by have := hZ.2 x hx; omega
  obtain ⟨mv, fine, ⟨k6, h6⟩, ⟨k7, h7⟩, hmn, hmx, hmv⟩ := help_val z zs q hzn hzx (by omega)
  obtain ⟨k8, h8⟩ := rtab_ev mv hmn hmx
  obtain ⟨kp, td, ⟨k9, h9⟩, hkp⟩ := keeps_val z zs q hzn hzx (by omega)
  have hF : ∃ K, ∀ k, K ≤ k → ∀ j, j < st.length → ∃ s : Nat, st.getD j 0 = (s : Int) ∧ s < y.length ∧ ∃ fa fb, impl_YardFindings.f k y ls pl = some (fa, true) ∧ impl_YardFindings.f k (y.set s (y.getD s [] ++ [n])) ls pl = some (fb, true) ∧ fa.length = fb.length := by
    rcases hst with rfl | ⟨hst, h0, hn1, hf⟩
    · exact ⟨0, fun k _ j hj => absurd hj (by simp)⟩
    · obtain ⟨ka, ha⟩ := find_val h0 (by omega)
      have hB : ∀ s, s < y.length → ∃ K, ∀ k, K ≤ k → ∀ hs : s < y.length, y[s].length < 4 → impl_YardFindings.f k (y.set s (y[s] ++ [n])) ls pl = some (found (y.set s (y[s] ++ [n])) ls pl, true) := by
        intro s hs
        by_cases hr : y[s].length < 4
        · obtain ⟨kb, hb⟩ := find_val (okAsk_push h0 hs hn1 hr hf) (by omega)
          exact ⟨kb, fun k hk _ _ => hb k hk⟩
        · exact ⟨0, fun k _ _ h => absurd h hr⟩
      have hC : ∃ K, ∀ s, s < y.length → ∀ k, K ≤ k → ∀ hs : s < y.length, y[s].length < 4 → impl_YardFindings.f k (y.set s (y[s] ++ [n])) ls pl = some (found (y.set s (y[s] ++ [n])) ls pl, true) := by
        have : ∀ m, m ≤ y.length → ∃ K, ∀ s, s < m → ∀ k, K ≤ k → ∀ hs : s < y.length, y[s].length < 4 → impl_YardFindings.f k (y.set s (y[s] ++ [n])) ls pl = some (found (y.set s (y[s] ++ [n])) ls pl, true) := by
          intro m
          induction m with
          | zero => intro _; exact ⟨0, fun s hs => absurd hs (by omega)⟩
          | succ m ih =>
            intro hm
            obtain ⟨K1, hK1⟩ := ih (by omega)
            obtain ⟨K2, hK2⟩ := hB m (by omega)
            refine ⟨K1 + K2, fun s hs k hk => ?_⟩
            by_cases e : s = m
            · subst e; exact hK2 k (by omega)
            · exact hK1 s (by omega) k (by omega)
        exact this _ (Nat.le_refl _)
      obtain ⟨kc, hc2⟩ := hC
      refine ⟨ka + kc, fun k hk j hj => ?_⟩
      have hmem : st.getD j 0 ∈ alw ls pl n y 0 := by rw [← hst, List.getD_eq_getElem?_getD, List.getElem?_eq_getElem hj]; exact List.getElem_mem hj
      obtain ⟨s, hs, e1, e2, e3⟩ := alw_mem ls pl n y 0 _ hmem
      rw [Nat.zero_add] at e1 e3
      refine ⟨s, e1, hs, found y ls pl, found (y.set s (y[s] ++ [n])) ls pl, ha k (by omega), ?_, ?_⟩
      · rw [getD_at _ _ _ hs]; exact hc2 s hs k (by omega) hs e2
      · unfold found
        rw [fAll_len, fAll_len, cA_set ls pl n y 0 s hs (by rw [Nat.zero_add]; exact e3)]
  obtain ⟨k10, h10⟩ := hF
  refine ⟨k1 + k2 + k3 + k4 + k5 + k6 + k7 + k8 + k9 + k10, Or.inr ⟨hbig, y, ls, pl, n, h1 _ (by omega), st, ok, h3 _ (by omega), h2 _ (by omega), h4 _ (by omega), ⟨by have := hA.1; omega, fun x hx => by have := hA.2 x hx; omega, by omega⟩, h10 _ (by omega), z, zs, q, h5 _ (by omega), mv, fine, h7 _ (by omega), h6 _ (by omega), h8 _ (by omega), kp, td, h9 _ (by omega), fun ht hp => ?_⟩⟩
  obtain ⟨g1, g2⟩ := hkp ht hp
  rcases hmv with rfl | ⟨_, rfl⟩
  · rfl
  · rw [g2]; exact hAll_nil z zs q _ _ _
theorem law_true {l0 : List Int} (hl : l0.length ≤ 9223372036854775807) (hw : ∀ x, x ∈ l0 → 0 ≤ x ∧ x ≤ 255) : ∃ K, ∀ k, k = K → laws_FnYardMoves.Ok k l0 := by
  have hb : laws_rBig.f l0 = some (decide ((l0.length : Int) > 65536)) := rfl
  by_cases hbig : (l0.length : Int) > 65536
  · rw [decide_eq_true hbig] at hb
    exact ⟨0, fun k _ => Or.inl hb⟩
  · rw [decide_eq_false hbig] at hb
    obtain ⟨k, h⟩ := moves_ok (c := l0) ⟨by omega, hw⟩ hb
    exact ⟨k, fun _ e => e ▸ h⟩
end Go.Proofs.Ytemildnlfjijmaa.UF
