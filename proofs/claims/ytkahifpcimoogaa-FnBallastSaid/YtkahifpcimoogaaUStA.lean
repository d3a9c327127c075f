/- Loads: their test, their moments. -/
import Derived.Test.YtkahifpcimoogaaPx0
import Derived.Test.YtkahifpcimoogaaPx11
import Derived.Test.YtkahifpcimoogaaPx5
import Derived.Test.YtkahifpcimoogaaPx6
import Derived.Test.YtkahifpcimoogaaPx7
import Derived.Test.YtkahifpcimoogaaPx8
import Derived.Test.YtkahifpcimoogaaPx9
import Derived.Test.YtkahifpcimoogaaU
namespace Go.Proofs.Ytkahifpcimoogaa.US
open Go.RowKit Go.Proofs.YtkahifpcimoogaaW.PrintWords Go.Proofs.YtkahifpcimoogaaW.PrintMore Go.Proofs.Ytkahifpcimoogaa.P Go.Proofs.Ytkahifpcimoogaa.U
set_option linter.unusedVariables false

abbrev L := S38
theorem rd_l (l : List L) (i : Nat) (h : i < l.length) : rd_T38 l (i : Int) = l[i] := by
  unfold rd_T38
  rw [Int.toNat_natCast]
  exact getD_at l i _ h
theorem in_spec (a b c : Int) : spec_l1In.f a b c = some (inr a b c) := by
  unfold spec_l1In.f inr
  by_cases h : b ≤ a <;> simp [h]
theorem in_impl (a b c : Int) : impl_within.f a b c = some (inr a b c) := by
  unfold impl_within.f inr
  by_cases h : b ≤ a <;> simp [h]
def okL (x : L) : Bool := inr x.f0 1 32000 && (inr x.f1 (-200) 200 && inr x.f2 0 400)
def good (l : List L) : Bool := l.all okL && decide ((l.length : Int) ≤ 20)
theorem good_spec_l (l : List L) (hn : l.length ≤ 9223372036854775807) : ∀ d i, i + d = l.length → Ev (fun k => spec_l11Good.l0 k l (i : Int)) ((l.drop i).all okL && decide ((l.length : Int) ≤ 20)) := by
  intro d
  induction d with
  | zero =>
    intro i hi
    refine Ev.step (fun k => by simp only [spec_l11Good.l0]; rfl) (ev_neg (by omega) (ev_const ?_))
    rw [List.drop_of_length_le (by omega)]; simp
  | succ d ih =>
    intro i hi
    have hlt : i < l.length := by omega
    refine Ev.step (fun k => by simp only [spec_l11Good.l0]; rfl) (ev_pos (by omega) (ev_pos (by omega) ?_))
    rw [rd_l l i hlt, wsucc hlt hn, List.drop_eq_getElem_cons hlt, List.all_cons]
    refine ev_call (in_spec _ _ _) ?_
    cases h0 : inr l[i].f0 1 32000
    · exact ev_eq (ev_neg (by simp) (ev_const rfl)) (by simp [okL, h0])
    refine ev_pos rfl (ev_call (in_spec _ _ _) ?_)
    cases h1 : inr l[i].f1 (-200) 200
    · exact ev_eq (ev_neg (by simp) (ev_const rfl)) (by simp [okL, h1])
    refine ev_pos rfl (ev_call (in_spec _ _ _) ?_)
    cases h2 : inr l[i].f2 0 400
    · exact ev_eq (ev_neg (by simp) (ev_const rfl)) (by simp [okL, h2])
    exact ev_eq (ev_pos rfl (ih (i + 1) (by omega))) (by simp [okL, h0, h1, h2])
theorem good_spec (l : List L) (hn : l.length ≤ 9223372036854775807) : Ev (fun k => spec_l11Good.f k l) (good l) := by
  unfold spec_l11Good.f
  exact good_spec_l l hn l.length 0 (by omega)
theorem good_impl_l (l : List L) (hn : l.length ≤ 9223372036854775807) : ∀ d i, i + d = l.length → Ev (fun k => impl_IsValidLoads.l0 k l l (l.length : Int) (i : Int)) ((l.drop i).all okL && decide ((l.length : Int) ≤ 20)) := by
  intro d
  induction d with
  | zero =>
    intro i hi
    refine Ev.step (fun k => by simp only [impl_IsValidLoads.l0]; rfl) (ev_neg (by omega) (ev_const ?_))
    rw [List.drop_of_length_le (by omega)]; simp
  | succ d ih =>
    intro i hi
    have hlt : i < l.length := by omega
    refine Ev.step (fun k => by simp only [impl_IsValidLoads.l0]; rfl) (ev_pos (by omega) (ev_pos (by omega) (ev_pos (by omega) ?_)))
    rw [rd_l l i hlt, wsucc hlt hn, List.drop_eq_getElem_cons hlt, List.all_cons]
    refine ev_call (in_impl _ _ _) ?_
    cases h0 : inr l[i].f0 1 32000
    · exact ev_eq (ev_neg (by simp) (ev_const rfl)) (by simp [okL, h0])
    refine ev_pos rfl (ev_call (in_impl _ _ _) ?_)
    cases h1 : inr l[i].f1 (-200) 200
    · exact ev_eq (ev_neg (by simp) (ev_const rfl)) (by simp [okL, h1])
    refine ev_pos rfl (ev_call (in_impl _ _ _) ?_)
    cases h2 : inr l[i].f2 0 400
    · exact ev_eq (ev_neg (by simp) (ev_const rfl)) (by simp [okL, h2])
    exact ev_eq (ev_pos rfl (ih (i + 1) (by omega))) (by simp [okL, h0, h1, h2])
theorem good_impl (l : List L) (hn : l.length ≤ 9223372036854775807) : Ev (fun k => impl_IsValidLoads.f k l) (good l) := by
  unfold impl_IsValidLoads.f
  exact good_impl_l l hn l.length 0 (by omega)
def mom : List L → Int × Int × Int → Int × Int × Int
  | [], s => s
  | x :: l, s => mom l (wrap64 (s.1 + x.f0), wrap64 (s.2.1 + wrap64 (x.f0 * x.f1)), wrap64 (s.2.2 + wrap64 (x.f0 * x.f2)))
theorem mom_spec_l (l : List L) (hn : l.length ≤ 9223372036854775807) : ∀ d i (s : Int × Int × Int), i + d = l.length → Ev (fun k => spec_l11Moments.l0 k l s.1 s.2.1 s.2.2 (i : Int)) (mom (l.drop i) s) := by
  intro d
  induction d with
  | zero =>
    intro i s hi
    refine Ev.step (fun k => by simp only [spec_l11Moments.l0]; rfl) (ev_neg (by omega) (ev_const ?_))
    rw [List.drop_of_length_le (by omega)]; rfl
  | succ d ih =>
    intro i s hi
    have hlt : i < l.length := by omega
    refine Ev.step (fun k => by simp only [spec_l11Moments.l0]; rfl) (ev_pos (by omega) (ev_pos (by omega) ?_))
    rw [rd_l l i hlt, wsucc hlt hn, List.drop_eq_getElem_cons hlt]
    exact ih (i + 1) (_, _, _) (by omega)
theorem mom_impl_l (l : List L) (hn : l.length ≤ 9223372036854775807) : ∀ d i (s : Int × Int × Int), i + d = l.length → Ev (fun k => impl_moments.l0 k s.1 s.2.1 s.2.2 l (l.length : Int) (i : Int)) (mom (l.drop i) s) := by
  intro d
  induction d with
  | zero =>
    intro i s hi
    refine Ev.step (fun k => by simp only [impl_moments.l0]; rfl) (ev_neg (by omega) (ev_const ?_))
    rw [List.drop_of_length_le (by omega)]; rfl
  | succ d ih =>
    intro i s hi
    have hlt : i < l.length := by omega
    refine Ev.step (fun k => by simp only [impl_moments.l0]; rfl) (ev_pos (by omega) (ev_pos (by omega) (ev_pos (by omega) ?_)))
    rw [rd_l l i hlt, wsucc hlt hn, List.drop_eq_getElem_cons hlt]
    exact ih (i + 1) (_, _, _) (by omega)
theorem mom_spec (l : List L) (hn : l.length ≤ 9223372036854775807) : Ev (fun k => spec_l11Moments.f k l) (mom l (0, 0, 0)) := by
  unfold spec_l11Moments.f
  exact mom_spec_l l hn l.length 0 (0, 0, 0) (by omega)
theorem mom_impl (l : List L) (hn : l.length ≤ 9223372036854775807) : Ev (fun k => impl_moments.f k l) (mom l (0, 0, 0)) := by
  unfold impl_moments.f
  exact mom_impl_l l hn l.length 0 (0, 0, 0) (by omega)
theorem most (a b : Int) : spec_l1Most.f a b = some (mx a b) := by
  unfold spec_l1Most.f mx
  split <;> split <;> first | rfl | (exfalso; omega) | (congr 1; omega)
theorem abs_spec (a : Int) : spec_l11Abs.f a = some (mx a (wrap64 (-a))) := by
  unfold spec_l11Abs.f
  rw [most]; rfl
theorem mul_bound {a b A B : Int} (ha : 0 ≤ a) (ha2 : a ≤ A) (hb : -B ≤ b) (hb2 : b ≤ B) : -(A * B) ≤ a * b ∧ a * b ≤ A * B := by
  have hB : 0 ≤ B := by omega
  have h1 : a * b ≤ a * B := Int.mul_le_mul_of_nonneg_left hb2 ha
  have h2 : a * (-B) ≤ a * b := Int.mul_le_mul_of_nonneg_left hb ha
  have h3 : a * B ≤ A * B := Int.mul_le_mul_of_nonneg_right ha2 hB
  rw [Int.mul_neg] at h2
  omega
theorem mom_bound : ∀ (l : List L) (s : Int × Int × Int) (i : Nat), l.all okL = true → i + l.length ≤ 20 → (i : Int) ≤ s.1 ∧ s.1 ≤ 32000 * i → -(6400000 * i) ≤ s.2.1 ∧ s.2.1 ≤ 6400000 * i → 0 ≤ s.2.2 ∧ s.2.2 ≤ 12800000 * i →
    ((i + l.length : Nat) : Int) ≤ (mom l s).1 ∧ (mom l s).1 ≤ 32000 * (i + l.length : Nat) ∧ -(6400000 * (i + l.length : Nat)) ≤ (mom l s).2.1 ∧ (mom l s).2.1 ≤ 6400000 * (i + l.length : Nat) ∧ 0 ≤ (mom l s).2.2 ∧ (mom l s).2.2 ≤ 12800000 * (i + l.length : Nat)
  | [], s, i, _, _, h1, h2, h3 => by simp only [mom, List.length_nil, Nat.add_zero]; omega
  | x :: l, s, i, ha, hl, h1, h2, h3 => by
    rw [List.all_cons, Bool.and_eq_true] at ha
    obtain ⟨hx, ha⟩ := ha
    unfold okL at hx
    rw [Bool.and_eq_true, Bool.and_eq_true, inr_iff, inr_iff, inr_iff] at hx
    obtain ⟨hx0, hx1, hx2⟩ := hx
    rw [List.length_cons] at hl ⊢
    have p1 := mul_bound (A := 32000) (B := 200) (show 0 ≤ x.f0 by omega) hx0.2 (by omega) hx1.2
    have p2 := mul_bound (A := 32000) (B := 400) (show 0 ≤ x.f0 by omega) hx0.2 (by omega) hx2.2
    have p3 : 0 ≤ x.f0 * x.f2 := Int.mul_nonneg (by omega) hx2.1
    have e1 : wrap64 (x.f0 * x.f1) = x.f0 * x.f1 := wr (by omega) (by omega)
    have e2 : wrap64 (x.f0 * x.f2) = x.f0 * x.f2 := wr (by omega) (by omega)
    have e3 : wrap64 (s.1 + x.f0) = s.1 + x.f0 := wr (by omega) (by omega)
    have e4 : wrap64 (s.2.1 + x.f0 * x.f1) = s.2.1 + x.f0 * x.f1 := wr (by omega) (by omega)
    have e5 : wrap64 (s.2.2 + x.f0 * x.f2) = s.2.2 + x.f0 * x.f2 := wr (by omega) (by omega)
    have r := mom_bound l (wrap64 (s.1 + x.f0), wrap64 (s.2.1 + wrap64 (x.f0 * x.f1)), wrap64 (s.2.2 + wrap64 (x.f0 * x.f2))) (i + 1) ha (by omega) (by simp only [e3]; omega) (by simp only [e1, e4]; omega) (by simp only [e2, e5]; omega)
    rw [show i + (l.length + 1) = i + 1 + l.length by omega]
    exact r
theorem mom_good (l : List L) (hg : good l = true) : (l.length : Int) ≤ (mom l (0, 0, 0)).1 ∧ (mom l (0, 0, 0)).1 ≤ 640000 ∧ -128000000 ≤ (mom l (0, 0, 0)).2.1 ∧ (mom l (0, 0, 0)).2.1 ≤ 128000000 ∧ 0 ≤ (mom l (0, 0, 0)).2.2 ∧ (mom l (0, 0, 0)).2.2 ≤ 256000000 := by
  unfold good at hg
  rw [Bool.and_eq_true, decide_eq_true_iff] at hg
  have r := mom_bound l (0, 0, 0) 0 hg.1 (by omega) (by simp) (by simp) (by simp)
  rw [Nat.zero_add] at r
  omega
/-- The sums, without a bound. -/
def ps : List L → Int × Int × Int
  | [] => (0, 0, 0)
  | x :: l => (x.f0 + (ps l).1, x.f0 * x.f1 + (ps l).2.1, x.f0 * x.f2 + (ps l).2.2)
theorem mom_ps_l : ∀ (l : List L) (s : Int × Int × Int) (i : Nat), l.all okL = true → i + l.length ≤ 20 → (i : Int) ≤ s.1 ∧ s.1 ≤ 32000 * i → -(6400000 * i) ≤ s.2.1 ∧ s.2.1 ≤ 6400000 * i → 0 ≤ s.2.2 ∧ s.2.2 ≤ 12800000 * i →
    mom l s = (s.1 + (ps l).1, s.2.1 + (ps l).2.1, s.2.2 + (ps l).2.2)
  | [], s, i, _, _, h1, h2, h3 => by simp [mom, ps]
  | x :: l, s, i, ha, hl, h1, h2, h3 => by
    rw [List.all_cons, Bool.and_eq_true] at ha
    obtain ⟨hx, ha⟩ := ha
    unfold okL at hx
    rw [Bool.and_eq_true, Bool.and_eq_true, inr_iff, inr_iff, inr_iff] at hx
    obtain ⟨hx0, hx1, hx2⟩ := hx
    rw [List.length_cons] at hl
    have p1 := mul_bound (A := 32000) (B := 200) (show 0 ≤ x.f0 by omega) hx0.2 (by omega) hx1.2
    have p2 := mul_bound (A := 32000) (B := 400) (show 0 ≤ x.f0 by omega) hx0.2 (by omega) hx2.2
    have p3 : 0 ≤ x.f0 * x.f2 := Int.mul_nonneg (by omega) hx2.1
    have e1 : wrap64 (x.f0 * x.f1) = x.f0 * x.f1 := wr (by omega) (by omega)
    have e2 : wrap64 (x.f0 * x.f2) = x.f0 * x.f2 := wr (by omega) (by omega)
    have e3 : wrap64 (s.1 + x.f0) = s.1 + x.f0 := wr (by omega) (by omega)
    have e4 : wrap64 (s.2.1 + x.f0 * x.f1) = s.2.1 + x.f0 * x.f1 := wr (by omega) (by omega)
    have e5 : wrap64 (s.2.2 + x.f0 * x.f2) = s.2.2 + x.f0 * x.f2 := wr (by omega) (by omega)
    have r := mom_ps_l l (s.1 + x.f0, s.2.1 + x.f0 * x.f1, s.2.2 + x.f0 * x.f2) (i + 1) ha (by omega) (by dsimp only; omega) (by dsimp only; omega) (by dsimp only; omega)
    rw [mom, e1, e2, e3, e4, e5, r, ps]
    simp only [Prod.mk.injEq]
    omega
theorem mom_ps (l : List L) (hg : good l = true) : mom l (0, 0, 0) = ps l := by
  unfold good at hg
  rw [Bool.and_eq_true, decide_eq_true_iff] at hg
  rw [mom_ps_l l (0, 0, 0) 0 hg.1 (by omega) (by simp) (by simp) (by simp)]
  simp
theorem moments_impl (l : List L) (hn : l.length ≤ 9223372036854775807) : Ev (fun k => impl_LoadMoments.f k l) (if good l then ((mom l (0, 0, 0)).1, (mom l (0, 0, 0)).2.1, (mom l (0, 0, 0)).2.2, true) else (0, 0, 0, false)) := by
  unfold impl_LoadMoments.f
  cases hg : good l
  · exact Ev.bind (hg ▸ good_impl l hn) (ev_neg (by simp) (ev_const rfl))
  · exact Ev.bind (hg ▸ good_impl l hn) (ev_pos rfl (Ev.bind (mom_impl l hn) (ev_const rfl)))
end Go.Proofs.Ytkahifpcimoogaa.US
