/- A bay emptied: always the least top. -/
import Derived.Test.YtdbolmkpdddbiaaPx0
import Derived.Test.YtdbolmkpdddbiaaPx10
import Derived.Test.YtdbolmkpdddbiaaPx5
import Derived.Test.YtdbolmkpdddbiaaPx8
import Derived.Test.YtdbolmkpdddbiaaUBayTop
import Derived.Test.YtdbolmkpdddbiaaUBayOwn
import Derived.Test.YtdbolmkpdddbiaaUMark
namespace Go.Proofs.Ytdbolmkpdddbiaa.UB
open Go.RowKit Go.Proofs.YtdbolmkpdddbiaaW.PrintWords Go.Proofs.YtdbolmkpdddbiaaW.PrintMore Go.Proofs.Ytdbolmkpdddbiaa.P Go.Proofs.Ytdbolmkpdddbiaa.U Go.Proofs.Ytdbolmkpdddbiaa.UT
set_option linter.unusedVariables false

def upB (l : List (List Int)) (b : Int) (i : Nat) : Int := if (rd_L1 l i).length > 0 ∧ (b < 0 ∨ top (rd_L1 l i) < top (rd_L1 l b)) then i else b
def bst (l : List (List Int)) : Nat → Nat → Int → Int
  | 0, _, b => b
  | d + 1, i, b => bst l d (i + 1) (upB l b i)
def roomy (l : List (List Int)) (b : Int) : Prop := b < 0 ∨ (b < (l.length : Int) ∧ 0 < (rd_L1 l b).length)
theorem upB_roomy {l : List (List Int)} {b : Int} {i : Nat} (hi : i < l.length) (hb : roomy l b) : roomy l (upB l b i) := by
  unfold upB
  split
  · rename_i h; exact Or.inr ⟨by omega, h.1⟩
  · exact hb
theorem bst_roomy {l : List (List Int)} : ∀ d i (b : Int), i + d = l.length → roomy l b → roomy l (bst l d i b)
  | 0, _, _, _, hb => hb
  | d + 1, i, b, hi, hb => bst_roomy d (i + 1) _ (by omega) (upB_roomy (by omega) hb)
def co : Nat → List (List Int) → List Int → List Int
  | 0, _, out => out
  | n + 1, l, out => if bst l l.length 0 (-1) < 0 then out else co n (cutR l (bst l l.length 0 (-1))) (out ++ [top (rd_L1 l (bst l l.length 0 (-1)))])
theorem co_len : ∀ (n : Nat) (l : List (List Int)) (out : List Int), (co n l out).length ≤ out.length + n
  | 0, _, _ => Nat.le_refl _
  | n + 1, l, out => by
    unfold co
    split
    · omega
    · refine Nat.le_trans (co_len n _ _) ?_
      rw [List.length_append, List.length_singleton]; omega
theorem sumL_ge : ∀ {l : List (List Int)} {r : List Int}, r ∈ l → (r.length : Int) ≤ UK.sumL l
  | x :: l, r, h => by
    rw [UK.sumL_cons]
    have h0 := UK.sumL_pos l
    rcases List.mem_cons.mp h with rfl | h
    · omega
    · have := sumL_ge h; omega
theorem sumL_set : ∀ (l : List (List Int)) (i : Nat) (h : i < l.length) (r : List Int), UK.sumL (l.set i r) = UK.sumL l - (l[i].length : Int) + (r.length : Int)
  | x :: l, 0, h, r => by
    rw [List.set_cons_zero, UK.sumL_cons, UK.sumL_cons, List.getElem_cons_zero]; omega
  | x :: l, i + 1, h, r => by
    rw [List.set_cons_succ, UK.sumL_cons, UK.sumL_cons, List.getElem_cons_succ, sumL_set l i (by simpa using h) r]; omega
theorem cutR_sum {l : List (List Int)} {a : Int} (h0 : 0 ≤ a) (h1 : a < (l.length : Int)) (h2 : 0 < (rd_L1 l a).length) : UK.sumL (cutR l a) = UK.sumL l - 1 := by
  obtain ⟨n, rfl⟩ := Int.eq_ofNat_of_zero_le h0
  have h : n < l.length := by omega
  have e : rd_L1 l (n : Int) = l[n] := rd_l1 l n h
  unfold cutR
  show UK.sumL (l.set (n : Int).toNat ((rd_L1 l (n : Int)).take ((rd_L1 l (n : Int)).length - 1))) = _
  have h3 : 0 < (rd_L1 l (n : Int)).length := h2
  rw [e] at h3 ⊢
  rw [Int.toNat_natCast, sumL_set l n h, List.length_take]
  omega
theorem cl_spec (hh : Int) : ∀ (n : Nat) (l : List (List Int)) (out : List Int), l.length ≤ 5 → (∀ x, x ∈ l → x.length ≤ 4) → UK.sumL l ≤ n → out.length + n ≤ 1048576 → Ev (fun k => spec_ClearOrder.l0 k out hh l) (co n l out, true) := by
  intro n
  induction n with
  | zero =>
    intro l out hl h4 hs ho
    refine Ev.step (fun k => by simp only [spec_ClearOrder.l0]; rfl) ?_
    have inner : ∀ d i (b : Int), i + d = l.length → b = -1 → Ev (fun k => spec_ClearOrder.l1 k out b (i : Int) hh l) (out, true) := by
      intro d
      induction d with
      | zero =>
        intro i b hi hb
        exact Ev.step (fun k => by simp only [spec_ClearOrder.l1]; rfl) (ev_neg (by omega) (ev_pos (by omega) (ev_const rfl)))
      | succ d ih =>
        intro i b hi hb
        have hlt : i < l.length := by omega
        refine Ev.step (fun k => by simp only [spec_ClearOrder.l1]; rfl) (ev_pos (by omega) (ev_pos (by omega) ?_))
        have h0 := sumL_ge (rdl_mem (l := l) (s := (i : Int)) (by omega) (by omega))
        rw [wsucc hlt (by omega)]
        exact ev_neg (by omega) (ih (i + 1) b (by omega) hb)
    exact inner l.length 0 (-1) (by omega) rfl
  | succ n ihn =>
    intro l out hl h4 hs ho
    refine Ev.step (fun k => by simp only [spec_ClearOrder.l0]; rfl) ?_
    have inner : ∀ d i (b : Int), i + d = l.length → roomy l b → Ev (fun k => spec_ClearOrder.l1 k out b (i : Int) hh l) (if bst l d i b < 0 then out else co n (cutR l (bst l d i b)) (out ++ [top (rd_L1 l (bst l d i b))]), true) := by
      intro d
      induction d with
      | zero =>
        intro i b hi hb
        refine Ev.step (fun k => by simp only [spec_ClearOrder.l1]; rfl) (ev_neg (by omega) ?_)
        unfold bst
        by_cases h0 : b < 0
        · rw [if_pos h0]; exact ev_pos h0 (ev_const rfl)
        · rw [if_neg h0]
          rcases hb with hb | ⟨hb, hr⟩
          · exact absurd hb h0
          have hr4 := h4 _ (rdl_mem (l := l) (s := b) (by omega) hb)
          obtain ⟨w1, w2⟩ := wlast (n := (rd_L1 l b).length) hr (by omega)
          rw [w1, w2]
          refine ev_neg h0 (ev_pos (by omega) (ev_pos hb (ev_pos (by omega) (ev_pos (by omega) (ev_pos (by omega) (ev_pos (by omega) ?_))))))
          exact ihn _ _ (by rw [List.length_set]; exact hl) (cutR_rows h4 (by omega) hb) (by have := cutR_sum (l := l) (a := b) (by omega) hb hr; unfold cutR at this; omega) (by rw [List.length_append, List.length_singleton]; omega)
      | succ d ih =>
        intro i b hi hb
        have hlt : i < l.length := by omega
        refine Ev.step (fun k => by simp only [spec_ClearOrder.l1]; rfl) (ev_pos (by omega) (ev_pos (by omega) ?_))
        have hi4 := h4 _ (rdl_mem (l := l) (s := (i : Int)) (by omega) (by omega))
        have hu := ih (i + 1) (upB l b i) (by omega) (upB_roomy hlt hb)
        rw [wsucc hlt (by omega)]
        unfold bst
        by_cases h1 : (rd_L1 l i).length > 0
        · refine ev_pos (by omega) ?_
          by_cases h2 : b < 0
          · rw [show upB l b i = (i : Int) from if_pos ⟨h1, Or.inl h2⟩] at hu ⊢
            exact ev_pos h2 hu
          · rcases hb with hb | ⟨hb, hr⟩
            · exact absurd hb h2
            have hr4 := h4 _ (rdl_mem (l := l) (s := b) (by omega) hb)
            obtain ⟨w1, _⟩ := wlast (n := (rd_L1 l i).length) h1 (by omega)
            obtain ⟨v1, _⟩ := wlast (n := (rd_L1 l b).length) hr (by omega)
            rw [w1, v1]
            refine ev_neg h2 (ev_pos (by omega) (ev_pos (by omega) (ev_pos (by omega) (ev_pos hb (ev_pos (by omega) (ev_pos (by omega) ?_))))))
            by_cases h3 : top (rd_L1 l i) < top (rd_L1 l b)
            · rw [show upB l b i = (i : Int) from if_pos ⟨h1, Or.inr h3⟩] at hu ⊢
              exact ev_pos h3 hu
            · rw [show upB l b i = b from if_neg (fun hh => hh.2.elim h2 h3)] at hu ⊢
              exact ev_neg h3 hu
        · rw [show upB l b i = b from if_neg (fun hh => h1 hh.1)] at hu ⊢
          exact ev_neg (by omega) hu
    exact inner l.length 0 (-1) (by omega) (Or.inl (by omega))
theorem cl_impl (hh : Int) : ∀ (n : Nat) (l : List (List Int)) (out : List Int), l.length ≤ 5 → (∀ x, x ∈ l → x.length ≤ 4) → UK.sumL l ≤ n → out.length + n ≤ 1048576 → Ev (fun k => impl_ClearOrder.l0 k out hh l) (co n l out, true) := by
  intro n
  induction n with
  | zero =>
    intro l out hl h4 hs ho
    refine Ev.step (fun k => by simp only [impl_ClearOrder.l0]; rfl) ?_
    have inner : ∀ d i (b : Int), i + d = l.length → b = -1 → Ev (fun k => impl_ClearOrder.l1 k out b l (l.length : Int) (i : Int) hh l) (out, true) := by
      intro d
      induction d with
      | zero =>
        intro i b hi hb
        exact Ev.step (fun k => by simp only [impl_ClearOrder.l1]; rfl) (ev_neg (by omega) (ev_pos (by omega) (ev_const rfl)))
      | succ d ih =>
        intro i b hi hb
        have hlt : i < l.length := by omega
        refine Ev.step (fun k => by simp only [impl_ClearOrder.l1]; rfl) (ev_pos (by omega) (ev_pos (by omega) (ev_pos (by omega) ?_)))
        have h0 := sumL_ge (rdl_mem (l := l) (s := (i : Int)) (by omega) (by omega))
        rw [wsucc hlt (by omega)]
        exact ev_neg (by omega) (ih (i + 1) b (by omega) hb)
    exact inner l.length 0 (-1) (by omega) rfl
  | succ n ihn =>
    intro l out hl h4 hs ho
    refine Ev.step (fun k => by simp only [impl_ClearOrder.l0]; rfl) ?_
    have inner : ∀ d i (b : Int), i + d = l.length → roomy l b → Ev (fun k => impl_ClearOrder.l1 k out b l (l.length : Int) (i : Int) hh l) (if bst l d i b < 0 then out else co n (cutR l (bst l d i b)) (out ++ [top (rd_L1 l (bst l d i b))]), true) := by
      intro d
      induction d with
      | zero =>
        intro i b hi hb
        refine Ev.step (fun k => by simp only [impl_ClearOrder.l1]; rfl) (ev_neg (by omega) ?_)
        unfold bst
        by_cases h0 : b < 0
        · rw [if_pos h0]; exact ev_pos h0 (ev_const rfl)
        · rw [if_neg h0]
          rcases hb with hb | ⟨hb, hr⟩
          · exact absurd hb h0
          have hr4 := h4 _ (rdl_mem (l := l) (s := b) (by omega) hb)
          obtain ⟨w1, w2⟩ := wlast (n := (rd_L1 l b).length) hr (by omega)
          rw [w1, w2]
          refine ev_neg h0 (ev_pos (by omega) (ev_pos hb (ev_call (top_impl _ hr (by omega)) (ev_pos (by omega) (ev_pos (by omega) (ev_pos (by omega) ?_))))))
          exact ihn _ _ (by rw [List.length_set]; exact hl) (cutR_rows h4 (by omega) hb) (by have := cutR_sum (l := l) (a := b) (by omega) hb hr; unfold cutR at this; omega) (by rw [List.length_append, List.length_singleton]; omega)
      | succ d ih =>
        intro i b hi hb
        have hlt : i < l.length := by omega
        refine Ev.step (fun k => by simp only [impl_ClearOrder.l1]; rfl) (ev_pos (by omega) (ev_pos (by omega) (ev_pos (by omega) ?_)))
        have hi4 := h4 _ (rdl_mem (l := l) (s := (i : Int)) (by omega) (by omega))
        have hu := ih (i + 1) (upB l b i) (by omega) (upB_roomy hlt hb)
        rw [wsucc hlt (by omega)]
        unfold bst
        by_cases h1 : (rd_L1 l i).length > 0
        · refine ev_pos (by omega) ?_
          by_cases h2 : b < 0
          · rw [show upB l b i = (i : Int) from if_pos ⟨h1, Or.inl h2⟩] at hu ⊢
            exact ev_pos h2 hu
          · rcases hb with hb | ⟨hb, hr⟩
            · exact absurd hb h2
            have hr4 := h4 _ (rdl_mem (l := l) (s := b) (by omega) hb)
            refine ev_neg h2 (ev_call (top_impl _ h1 (by omega)) (ev_pos (by omega) (ev_pos hb (ev_call (top_impl _ hr (by omega)) ?_))))
            by_cases h3 : top (rd_L1 l i) < top (rd_L1 l b)
            · rw [show upB l b i = (i : Int) from if_pos ⟨h1, Or.inr h3⟩] at hu ⊢
              exact ev_pos h3 hu
            · rw [show upB l b i = b from if_neg (fun hh => hh.2.elim h2 h3)] at hu ⊢
              exact ev_neg h3 hu
        · rw [show upB l b i = b from if_neg (fun hh => h1 hh.1)] at hu ⊢
          exact ev_neg (by omega) hu
    exact inner l.length 0 (-1) (by omega) (Or.inl (by omega))
theorem clear_same (h : Int) (l : List (List Int)) (hn : l.length ≤ 1048576) (hx : ∀ x, x ∈ l → x.length ≤ 1048576) :
    ∃ (r : List Int) (b : Bool), Ev (fun k => spec_ClearOrder.f k h l) (r, b) ∧ Ev (fun k => impl_ClearOrder.f k h l) (r, b) ∧ r.length ≤ 1048576 := by
  unfold spec_ClearOrder.f impl_ClearOrder.f
  have hg := good_spec h l hn hx
  cases hb : okBay h l
  · rw [hb] at hg
    exact ⟨[], false, ev_call rfl (Ev.bind hg (ev_neg (by simp) (ev_const rfl))), ev_call (show impl_IsValidBay.f h l = some (okBay h l) from rfl) (by rw [hb]; exact ev_neg (by simp) (ev_const rfl)), by simp⟩
  · rw [hb] at hg
    obtain ⟨⟨_, hl5⟩, hm⟩ := okBay_mem hb
    have h4 : ∀ x, x ∈ l → x.length ≤ 4 := fun x hx => (hm x hx).1
    have hs : UK.sumL l ≤ (20 : Nat) := by
      have := UK.sumL_le 4 l h4
      omega
    refine ⟨co 20 l [], true, ev_call rfl (Ev.bind hg (ev_pos rfl (Ev.bind (own_spec h l hn hx) (cl_spec h 20 l [] hl5 h4 hs (by simp))))), ev_call (show impl_IsValidBay.f h l = some (okBay h l) from rfl) (by rw [hb]; exact ev_pos rfl (Ev.bind (own_impl h l hn hx) (cl_impl h 20 l [] hl5 h4 hs (by simp)))), ?_⟩
    have := co_len 20 l []
    rw [List.length_nil] at this
    omega
end Go.Proofs.Ytdbolmkpdddbiaa.UB
