/- Ballast, swaps, upright: the law. -/
import Derived.Test.YtkahifpcimoogaaPx0
import Derived.Test.YtkahifpcimoogaaPx1
import Derived.Test.YtkahifpcimoogaaPx10
import Derived.Test.YtkahifpcimoogaaPx11
import Derived.Test.YtkahifpcimoogaaPx12
import Derived.Test.YtkahifpcimoogaaPx13
import Derived.Test.YtkahifpcimoogaaPx14
import Derived.Test.YtkahifpcimoogaaPx15
import Derived.Test.YtkahifpcimoogaaPx16
import Derived.Test.YtkahifpcimoogaaPx17
import Derived.Test.YtkahifpcimoogaaPx18
import Derived.Test.YtkahifpcimoogaaPx19
import Derived.Test.YtkahifpcimoogaaPx2
import Derived.Test.YtkahifpcimoogaaPx20
import Derived.Test.YtkahifpcimoogaaPx4
import Derived.Test.YtkahifpcimoogaaPx6
import Derived.Test.YtkahifpcimoogaaPx7
import Derived.Test.YtkahifpcimoogaaPx9
import Derived.Test.YtkahifpcimoogaaUStA
import Derived.Test.YtkahifpcimoogaaUDrawL
namespace Go.Proofs.Ytkahifpcimoogaa.US
open Go.RowKit Go.Proofs.YtkahifpcimoogaaW.PrintWords Go.Proofs.YtkahifpcimoogaaW.PrintMore Go.Proofs.Ytkahifpcimoogaa.P Go.Proofs.Ytkahifpcimoogaa.U Go.Proofs.Ytkahifpcimoogaa.UD
set_option linter.unusedVariables false

theorem least (a b : Int) : spec_l1Least.f a b = some (mn a b) := by
  unfold spec_l1Least.f mn
  split <;> split <;> first | rfl | (exfalso; omega) | (congr 1; omega)
theorem upright_same (l : List L) (hn : l.length ≤ 9223372036854775807) (a : Int) : ∃ r, Ev (fun k => spec_IsUpright.f k l a) r ∧ Ev (fun k => impl_IsUpright.f k l a) r := by
  unfold spec_IsUpright.f impl_IsUpright.f
  have fs : Ev (fun k => spec_IsUpright.j0 k l a true) (false, false) := by
    refine Ev.step (fun k => by simp only [spec_IsUpright.j0]; rfl) ?_
    exact ev_pos (by simp) (ev_const rfl)
  have fi : Ev (fun k => impl_IsUpright.j0 k l a true) (false, false) := by
    refine Ev.step (fun k => by simp only [impl_IsUpright.j0]; rfl) ?_
    exact ev_pos (by simp) (ev_const rfl)
  cases hg : good l
  · exact ⟨_, Ev.bind (hg ▸ good_spec l hn) (ev_neg (by simp) fs), Ev.bind (hg ▸ good_impl l hn) (ev_neg (by simp) fi)⟩
  cases h1 : inr a 0 200
  · exact ⟨_, Ev.bind (hg ▸ good_spec l hn) (ev_pos rfl (ev_call (a := false) (by rw [in_spec, h1]) fs)), Ev.bind (hg ▸ good_impl l hn) (ev_pos rfl (ev_call (a := false) (by rw [in_impl, h1]) fi))⟩
  have ms := mom_spec l hn
  have mi := mom_impl l hn
  generalize mom l (0, 0, 0) = m at ms mi
  refine ⟨(decide (mx m.2.1 (wrap64 (-m.2.1)) ≤ wrap64 (a * m.1)), true), Ev.bind (hg ▸ good_spec l hn) (ev_pos rfl (ev_call (a := true) (by rw [in_spec, h1]) ?_)), Ev.bind (hg ▸ good_impl l hn) (ev_pos rfl (ev_call (a := true) (by rw [in_impl, h1]) ?_))⟩
  · refine Ev.step (fun k => by simp only [spec_IsUpright.j0]; rfl) ?_
    refine ev_neg (by simp) (Ev.bind ms ?_)
    exact ev_call (abs_spec _) (ev_const rfl)
  · refine Ev.step (fun k => by simp only [impl_IsUpright.j0]; rfl) ?_
    refine ev_neg (by simp) (Ev.bind mi ?_)
    exact ev_call rfl (ev_const rfl)
theorem ballast_no (l : List L) (hn : l.length ≤ 9223372036854775807) (a b : Int) (h : ¬ (good l = true ∧ inr a 1 200 = true ∧ inr b 0 1000000 = true)) : Ev (fun k => spec_BallastFor.f k l a b) (0, false) ∧ Ev (fun k => impl_BallastFor.f k l a b) (0, false) := by
  unfold spec_BallastFor.f impl_BallastFor.f
  have fs : Ev (fun k => spec_BallastFor.j0 k l a b true) (0, false) := by
    refine Ev.step (fun k => by simp only [spec_BallastFor.j0]; rfl) ?_
    exact ev_pos (by simp) (ev_const rfl)
  have fi : Ev (fun k => impl_BallastFor.j0 k l a b true) (0, false) := by
    refine Ev.step (fun k => by simp only [impl_BallastFor.j0]; rfl) ?_
    exact ev_pos (by simp) (ev_const rfl)
  cases hg : good l
  · exact ⟨Ev.bind (hg ▸ good_spec l hn) (ev_neg (by simp) fs), Ev.bind (hg ▸ good_impl l hn) (ev_neg (by simp) fi)⟩
  cases h1 : inr a 1 200
  · exact ⟨Ev.bind (hg ▸ good_spec l hn) (ev_pos rfl (ev_call (a := false) (by rw [in_spec, h1]) (ev_neg (by simp) fs))), Ev.bind (hg ▸ good_impl l hn) (ev_pos rfl (ev_call (a := false) (by rw [in_impl, h1]) (ev_neg (by simp) fi)))⟩
  cases h2 : inr b 0 1000000
  · exact ⟨Ev.bind (hg ▸ good_spec l hn) (ev_pos rfl (ev_call (a := true) (by rw [in_spec, h1]) (ev_pos rfl (ev_call (a := false) (by rw [in_spec, h2]) fs)))), Ev.bind (hg ▸ good_impl l hn) (ev_pos rfl (ev_call (a := true) (by rw [in_impl, h1]) (ev_pos rfl (ev_call (a := false) (by rw [in_impl, h2]) fi))))⟩
  exact absurd ⟨hg, h1, h2⟩ h
def ab (x : Int) : Int := if x < 0 then -x else x
theorem ab_mx {x : Int} (h0 : -9223372036854775807 ≤ x) (h1 : x ≤ 9223372036854775807) : mx x (wrap64 (-x)) = ab x := by
  rw [wr (by omega) (by omega)]
  unfold mx ab
  split <;> split <;> omega
theorem rabs {x : Int} (h0 : -9223372036854775807 ≤ x) (h1 : x ≤ 9223372036854775807) : laws_rAbs.f x = some (ab x) := by
  unfold laws_rAbs.f ab
  split
  · rw [wr (by omega) (by omega)]
  · rfl
/-- The ballast that is taken: a kilogram more or less is not better. -/
def bal (t a b : Int) : Int := if mn (t / a) b < b ∧ ab (t - a * (mn (t / a) b + 1)) < ab (t - a * mn (t / a) b) then mn (t / a) b + 1 else mn (t / a) b
theorem bal_best {t a b : Int} (ht : 0 ≤ t) (ha : 1 ≤ a) (hb : 0 ≤ b) : 0 ≤ bal t a b ∧ bal t a b ≤ b ∧ (0 < bal t a b → ab (t - bal t a b * a) < ab (t - (bal t a b - 1) * a)) ∧ (bal t a b < b → ab (t - bal t a b * a) ≤ ab (t - (bal t a b + 1) * a)) := by
  have hq0 : 0 ≤ t / a := Int.ediv_nonneg ht (by omega)
  have hq1 : a * (t / a) ≤ t := by have := Int.mul_ediv_add_emod t a; have := Int.emod_nonneg t (show a ≠ 0 by omega); omega
  have hq2 : t < a * (t / a) + a := by have := Int.mul_ediv_add_emod t a; have := Int.emod_lt_of_pos t (show 0 < a by omega); omega
  unfold bal
  by_cases hbq : b < t / a
  · have e : mn (t / a) b = b := by unfold mn; rw [if_pos hbq]
    rw [e, if_neg (fun h => absurd h.1 (by omega))]
    have h1 : a * b ≤ a * (t / a) := Int.mul_le_mul_of_nonneg_left (by omega) (by omega)
    refine ⟨hb, by omega, fun _ => ?_, fun h => absurd h (by omega)⟩
    rw [Int.sub_mul, Int.one_mul, Int.mul_comm b a]
    unfold ab
    rw [if_neg (by omega), if_neg (by omega)]; omega
  · have e : mn (t / a) b = t / a := by unfold mn; rw [if_neg hbq]
    rw [e]
    generalize hp : a * (t / a) = p at *
    have hp1 : a * (t / a + 1) = p + a := by rw [Int.mul_add, hp]; omega
    rw [hp1]
    by_cases hc : t / a < b ∧ ab (t - (p + a)) < ab (t - p)
    · rw [if_pos hc]
      have hc2 := hc.2
      unfold ab at hc2
      rw [if_neg (show ¬ (t - p < 0) by omega), if_pos (show t - (p + a) < 0 by omega)] at hc2
      have e1 : (t / a + 1) * a = p + a := by rw [Int.mul_comm]; exact hp1
      refine ⟨by omega, by omega, fun _ => ?_, fun _ => ?_⟩
      · rw [e1, show (t / a + 1 - 1) = t / a by omega, Int.mul_comm (t / a) a, hp]
        exact hc.2
      · rw [Int.add_mul (t / a + 1) 1 a, Int.one_mul, e1]
        unfold ab
        rw [if_pos (by omega), if_pos (by omega)]; omega
    · rw [if_neg hc]
      refine ⟨by omega, by omega, fun _ => ?_, fun h => ?_⟩
      · rw [Int.sub_mul, Int.one_mul, Int.mul_comm (t / a) a, hp]
        unfold ab
        rw [if_neg (by omega), if_neg (by omega)]; omega
      · rw [Int.add_mul, Int.one_mul, Int.mul_comm (t / a) a, hp]
        exact Int.not_lt.1 (fun h2 => hc ⟨h, h2⟩)
theorem ballast_yes (l : List L) (hn : l.length ≤ 9223372036854775807) (a b : Int) (hg : good l = true) (h1 : inr a 1 200 = true) (h2 : inr b 0 1000000 = true) :
    Ev (fun k => spec_BallastFor.f k l a b) (bal (ab (mom l (0, 0, 0)).2.1) a b, true) ∧ Ev (fun k => impl_BallastFor.f k l a b) (bal (ab (mom l (0, 0, 0)).2.1) a b, true) := by
  have ha := inr_iff.1 h1
  have hb := inr_iff.1 h2
  have hm := mom_good l hg
  have ms := mom_spec l hn
  have mi := mom_impl l hn
  generalize mom l (0, 0, 0) = m at ms mi hm
  have et : mx m.2.1 (wrap64 (-m.2.1)) = ab m.2.1 := ab_mx (by omega) (by omega)
  have ht : 0 ≤ ab m.2.1 ∧ ab m.2.1 ≤ 128000000 := by unfold ab; split <;> omega
  generalize het : ab m.2.1 = t at *
  have hq0 : 0 ≤ t / a := Int.ediv_nonneg ht.1 (by omega)
  have hq1 : t / a ≤ t := Int.ediv_le_self a ht.1
  have ew : wrap64 (Int.tdiv t a) = t / a := by rw [Int.tdiv_eq_ediv_of_nonneg ht.1]; exact wr (by omega) (by omega)
  have hw : 0 ≤ mn (t / a) b ∧ mn (t / a) b ≤ 1000000 := by unfold mn; split <;> omega
  unfold bal
  generalize hwv : mn (t / a) b = w at *
  have p1 := mul_bound (A := 200) (B := 1000001) (show 0 ≤ a by omega) ha.2 (show -1000001 ≤ w by omega) (by omega)
  have p2 := mul_bound (A := 200) (B := 1000001) (show 0 ≤ a by omega) ha.2 (show -1000001 ≤ w + 1 by omega) (by omega)
  have e1 : wrap64 (t - wrap64 (a * wrap64 (w + 1))) = t - a * (w + 1) := by rw [wr (x := w + 1) (by omega) (by omega), wr (x := a * (w + 1)) (by omega) (by omega), wr (by omega) (by omega)]
  have e2 : wrap64 (t - wrap64 (a * w)) = t - a * w := by rw [wr (x := a * w) (by omega) (by omega), wr (by omega) (by omega)]
  have s1 : ∀ x, -9223372036854775807 ≤ x → x ≤ 9223372036854775807 → impl_size.f x = some (ab x) := fun x h0 h1 => by unfold impl_size.f; rw [ab_mx h0 h1]
  have s2 : ∀ x, -9223372036854775807 ≤ x → x ≤ 9223372036854775807 → spec_l11Abs.f x = some (ab x) := fun x h0 h1 => by rw [abs_spec, ab_mx h0 h1]
  have fin : ∀ (f : Int → Option Int), (∀ x, -9223372036854775807 ≤ x → x ≤ 9223372036854775807 → f x = some (ab x)) → (if w < b then ((f (t - a * (w + 1))).bind fun t305 => ((f (t - a * w)).bind fun t306 => if t305 < t306 then some (wrap64 (w + 1), true) else some (w, true))) else some (w, true)) = some (if w < b ∧ ab (t - a * (w + 1)) < ab (t - a * w) then w + 1 else w, true) := by
    intro f hf
    by_cases c1 : w < b
    · rw [if_pos c1, hf _ (by omega) (by omega), hf _ (by omega) (by omega), Option.bind_some, Option.bind_some, wr (x := w + 1) (by omega) (by omega)]
      by_cases c2 : ab (t - a * (w + 1)) < ab (t - a * w)
      · rw [if_pos c2, if_pos ⟨c1, c2⟩]
      · rw [if_neg c2, if_neg (fun h => c2 h.2)]
    · rw [if_neg c1, if_neg (fun h => c1 h.1)]
  unfold spec_BallastFor.f impl_BallastFor.f
  refine ⟨Ev.bind (hg ▸ good_spec l hn) (ev_pos rfl (ev_call (a := true) (by rw [in_spec, h1]) (ev_pos rfl (ev_call (a := true) (by rw [in_spec, h2]) ?_)))), Ev.bind (hg ▸ good_impl l hn) (ev_pos rfl (ev_call (a := true) (by rw [in_impl, h1]) (ev_pos rfl (ev_call (a := true) (by rw [in_impl, h2]) ?_))))⟩
  · refine Ev.step (fun k => by simp only [spec_BallastFor.j0]; rfl) ?_
    refine ev_neg (by simp) (Ev.bind ms ?_)
    refine ev_call (abs_spec _) (ev_neg (by omega) ?_)
    rw [et]
    refine ev_call (least _ _) ?_
    rw [ew, hwv]
    rw [Int.mul_comm (wrap64 (w + 1)) a, Int.mul_comm w a, e1, e2]
    exact ev_const (fin _ s2)
  · refine Ev.step (fun k => by simp only [impl_BallastFor.j0]; rfl) ?_
    refine ev_neg (by simp) (Ev.bind mi ?_)
    refine ev_call (show impl_size.f m.2.1 = some t by rw [s1 _ (by omega) (by omega), het]) (ev_neg (by omega) ?_)
    rw [ew, hwv]
    rw [e1, e2]
    exact ev_const (fin _ s1)
abbrev rdl (l : List L) (i : Nat) : L := rd_T38 l (i : Int)
def prd (l : List L) (i k : Nat) : Int := ((rdl l i).f0 - (rdl l k).f0) * ((rdl l i).f1 - (rdl l k).f1)
def cst (l : List L) (a : Int) (i k : Nat) : Int := mx (a - prd l i k) (-(a - prd l i k))
theorem mx_abs (x : Int) : 0 ≤ mx x (-x) := by
  unfold mx
  split <;> omega
theorem prod_abs {u v : Int} (hu : u.natAbs ≤ 31999) (hv : v.natAbs ≤ 400) : -12799600 ≤ u * v ∧ u * v ≤ 12799600 := by
  have h : (u * v).natAbs ≤ 31999 * 400 := by rw [Int.natAbs_mul]; exact Nat.mul_le_mul hu hv
  generalize u * v = p at *
  omega
theorem at_ok {l : List L} (hg : l.all okL = true) (i : Nat) (h : i < l.length) : (1 ≤ (rdl l i).f0 ∧ (rdl l i).f0 ≤ 32000) ∧ (-200 ≤ (rdl l i).f1 ∧ (rdl l i).f1 ≤ 200) := by
  have e : rdl l i = l[i] := rd_l l i h
  rw [e]
  have hx := List.all_eq_true.mp hg l[i] (List.getElem_mem h)
  unfold okL at hx
  rw [Bool.and_eq_true, Bool.and_eq_true, inr_iff, inr_iff, inr_iff] at hx
  exact ⟨hx.1, hx.2.1⟩
theorem prd_ok {l : List L} (hg : l.all okL = true) (i k : Nat) (h : i < l.length) (hk : k < l.length) : -12799600 ≤ prd l i k ∧ prd l i k ≤ 12799600 := by
  have h1 := at_ok hg i h
  have h2 := at_ok hg k hk
  exact prod_abs (by omega) (by omega)
theorem spec_cost {l : List L} (hg : l.all okL = true) (a : Int) (ha : -128000000 ≤ a ∧ a ≤ 128000000) (i k : Nat) (h : i < l.length) (hk : k < l.length) :
    spec_l11Abs.f (wrap64 (a - (wrap64 ((wrap64 ((rdl l i).f0 - (rdl l k).f0)) * (wrap64 ((rdl l i).f1 - (rdl l k).f1)))))) = some (cst l a i k) := by
  have h1 := at_ok hg i h
  have h2 := at_ok hg k hk
  have h3 := prd_ok hg i k h hk
  rw [wr (x := (rdl l i).f0 - (rdl l k).f0) (by omega) (by omega), wr (x := (rdl l i).f1 - (rdl l k).f1) (by omega) (by omega)]
  change spec_l11Abs.f (wrap64 (a - wrap64 (prd l i k))) = _
  rw [wr (x := prd l i k) (by omega) (by omega), wr (x := a - prd l i k) (by omega) (by omega), abs_spec, wr (x := -(a - prd l i k)) (by omega) (by omega)]
  rfl
theorem impl_cost {l : List L} (hg : l.all okL = true) (a : Int) (ha : -128000000 ≤ a ∧ a ≤ 128000000) (i k : Nat) (h : i < l.length) (hk : k < l.length) :
    impl_size.f (wrap64 (a + (wrap64 ((wrap64 ((rdl l i).f0 - (rdl l k).f0)) * (wrap64 ((rdl l k).f1 - (rdl l i).f1)))))) = some (cst l a i k) := by
  have h1 := at_ok hg i h
  have h2 := at_ok hg k hk
  have h3 := prd_ok hg i k h hk
  rw [wr (x := (rdl l i).f0 - (rdl l k).f0) (by omega) (by omega), wr (x := (rdl l k).f1 - (rdl l i).f1) (by omega) (by omega)]
  have e : ((rdl l i).f0 - (rdl l k).f0) * ((rdl l k).f1 - (rdl l i).f1) = -(prd l i k) := by
    rw [show (rdl l k).f1 - (rdl l i).f1 = -((rdl l i).f1 - (rdl l k).f1) by omega, Int.mul_neg]; rfl
  rw [e, wr (x := -(prd l i k)) (by omega) (by omega), show a + -(prd l i k) = a - prd l i k by omega, wr (x := a - prd l i k) (by omega) (by omega)]
  unfold impl_size.f
  rw [wr (x := -(a - prd l i k)) (by omega) (by omega)]
  rfl
def inn (c : Nat → Int) (i : Nat) : Nat → Nat → List Int → Int → List Int × Int
  | 0, _, xs, s => (xs, s)
  | d + 1, k, xs, s => if xs.length = 0 ∨ c k < s then inn c i d (k + 1) [(i : Int), (k : Int)] (c k) else inn c i d (k + 1) xs s
def out (c : Nat → Nat → Int) (n : Nat) : Nat → Nat → List Int → Int → List Int × Int
  | 0, _, xs, s => (xs, s)
  | d + 1, i, xs, s => let r := inn (c i) i (n - (i + 1)) (i + 1) xs s; out c n d (i + 1) r.1 r.2
def sp (xs : List Int) (s : Int) : Int := if xs.length = 0 then -1 else s
def inv (xs : List Int) (s : Int) : Prop := (xs.length = 0 ∨ 0 ≤ s) ∧ xs.length ≤ 2
theorem inn_spec {l : List L} (hn : l.length ≤ 1048576) (hg : l.all okL = true) (a : Int) (ha : -128000000 ≤ a ∧ a ≤ 128000000) (i : Nat) (hi : i < l.length) (r : List Int × Int × Bool) : ∀ d k xs s, k + d = l.length → inv xs s →
    (∀ xs2 s2, (xs2, s2) = inn (cst l a i) i d k xs s → inv xs2 s2 → Ev (fun q => spec_BestSwap.l0 q l a xs2 (sp xs2 s2) ((i + 1 : Nat) : Int)) r) → Ev (fun q => spec_BestSwap.l1 q l a xs (sp xs s) (i : Int) (k : Int)) r := by
  intro d
  induction d with
  | zero =>
    intro k xs s hk hv h
    refine Ev.step (fun k => by simp only [spec_BestSwap.l1]; rfl) (ev_neg (by omega) ?_)
    rw [wsucc hi (by omega)]
    exact h xs s rfl hv
  | succ d ih =>
    intro k xs s hk hv h
    have hkt : k < l.length := by omega
    refine Ev.step (fun k => by simp only [spec_BestSwap.l1]; rfl) (ev_pos (by omega) (ev_pos (by omega) ?_))
    refine ev_pos (by omega) ?_
    refine ev_pos (by omega) ?_
    refine ev_call (spec_cost hg a ha i k hi hkt) ?_
    rw [wsucc hkt (by omega)]
    have hc : 0 ≤ cst l a i k := mx_abs _
    have hs : sp [(i : Int), (k : Int)] (cst l a i k) = cst l a i k := rfl
    have hv2 : inv [(i : Int), (k : Int)] (cst l a i k) := ⟨Or.inr hc, Nat.le_refl _⟩
    by_cases h0 : xs.length = 0
    · refine ev_pos (by unfold sp; rw [if_pos h0]; omega) ?_
      have := ih (k + 1) [(i : Int), (k : Int)] (cst l a i k) (by omega) hv2 (fun xs2 s2 e hv3 => h xs2 s2 (by rw [e, inn, if_pos (Or.inl h0)]) hv3)
      rw [hs] at this
      exact this
    · have hsv : sp xs s = s := by unfold sp; rw [if_neg h0]
      have h0s : 0 ≤ s := hv.1.resolve_left h0
      refine ev_neg (by rw [hsv]; omega) ?_
      by_cases h1 : cst l a i k < s
      · refine ev_pos (by rw [hsv]; exact h1) ?_
        have := ih (k + 1) [(i : Int), (k : Int)] (cst l a i k) (by omega) hv2 (fun xs2 s2 e hv3 => h xs2 s2 (by rw [e, inn, if_pos (Or.inr h1)]) hv3)
        rw [hs] at this
        exact this
      · refine ev_neg (by rw [hsv]; exact h1) ?_
        exact ih (k + 1) xs s (by omega) hv (fun xs2 s2 e hv3 => h xs2 s2 (by rw [e, inn, if_neg (fun h2 => h2.elim h0 h1)]) hv3)
theorem inn_impl {l : List L} (hn : l.length ≤ 1048576) (hg : l.all okL = true) (a : Int) (ha : -128000000 ≤ a ∧ a ≤ 128000000) (i : Nat) (hi : i < l.length) (r : List Int × Int × Bool) : ∀ d k xs s, k + d = l.length → inv xs s →
    (∀ xs2 s2, (xs2, s2) = inn (cst l a i) i d k xs s → inv xs2 s2 → Ev (fun q => impl_BestSwap.l0 q l a xs2 s2 l (l.length : Int) ((i + 1 : Nat) : Int)) r) → Ev (fun q => impl_BestSwap.l1 q l a xs s (i : Int) (k : Int) l (l.length : Int) (i : Int) (rdl l i).f0 (rdl l i).f1 (rdl l i).f2) r := by
  intro d
  induction d with
  | zero =>
    intro k xs s hk hv h
    refine Ev.step (fun k => by simp only [impl_BestSwap.l1]; rfl) (ev_neg (by omega) ?_)
    rw [wsucc hi (by omega)]
    exact h xs s rfl hv
  | succ d ih =>
    intro k xs s hk hv h
    have hkt : k < l.length := by omega
    refine Ev.step (fun k => by simp only [impl_BestSwap.l1]; rfl) (ev_pos (by omega) (ev_pos (by omega) ?_))
    refine ev_call (impl_cost hg a ha i k hi hkt) ?_
    rw [wsucc hkt (by omega)]
    have hc : 0 ≤ cst l a i k := mx_abs _
    have hv2 : inv [(i : Int), (k : Int)] (cst l a i k) := ⟨Or.inr hc, Nat.le_refl _⟩
    by_cases h0 : xs.length = 0
    · refine ev_pos (by omega) ?_
      exact ih (k + 1) [(i : Int), (k : Int)] (cst l a i k) (by omega) hv2 (fun xs2 s2 e hv3 => h xs2 s2 (by rw [e, inn, if_pos (Or.inl h0)]) hv3)
    · refine ev_neg (by omega) ?_
      by_cases h1 : cst l a i k < s
      · refine ev_pos h1 ?_
        exact ih (k + 1) [(i : Int), (k : Int)] (cst l a i k) (by omega) hv2 (fun xs2 s2 e hv3 => h xs2 s2 (by rw [e, inn, if_pos (Or.inr h1)]) hv3)
      · refine ev_neg h1 ?_
        exact ih (k + 1) xs s (by omega) hv (fun xs2 s2 e hv3 => h xs2 s2 (by rw [e, inn, if_neg (fun h2 => h2.elim h0 h1)]) hv3)
theorem out_spec {l : List L} (hn : l.length ≤ 1048576) (hg : l.all okL = true) (a : Int) (ha : -128000000 ≤ a ∧ a ≤ 128000000) : ∀ d i xs s, i + d = l.length → inv xs s →
    Ev (fun q => spec_BestSwap.l0 q l a xs (sp xs s) (i : Int)) ((out (cst l a) l.length d i xs s).1, sp (out (cst l a) l.length d i xs s).1 (out (cst l a) l.length d i xs s).2, true) ∧
    Ev (fun q => impl_BestSwap.l0 q l a xs s l (l.length : Int) (i : Int)) ((out (cst l a) l.length d i xs s).1, (out (cst l a) l.length d i xs s).2, true) := by
  intro d
  induction d with
  | zero =>
    intro i xs s hi hv
    exact ⟨Ev.step (fun k => by simp only [spec_BestSwap.l0]; rfl) (ev_neg (by omega) (ev_const rfl)), Ev.step (fun k => by simp only [impl_BestSwap.l0]; rfl) (ev_neg (by omega) (ev_const rfl))⟩
  | succ d ih =>
    intro i xs s hi hv
    have hlt : i < l.length := by omega
    refine ⟨Ev.step (fun k => by simp only [spec_BestSwap.l0]; rfl) (ev_pos (by omega) ?_), Ev.step (fun k => by simp only [impl_BestSwap.l0]; rfl) (ev_pos (by omega) (ev_pos (by omega) (ev_pos (by omega) ?_)))⟩
    · rw [wsucc hlt (by omega)]
      refine inn_spec hn hg a ha i hlt _ (l.length - (i + 1)) (i + 1) xs s (by omega) hv (fun xs2 s2 e hv2 => ?_)
      have h := (ih (i + 1) xs2 s2 (by omega) hv2).1
      rw [show out (cst l a) l.length (d + 1) i xs s = out (cst l a) l.length d (i + 1) xs2 s2 by rw [out, ← e]]
      exact h
    · rw [wsucc hlt (by omega)]
      refine inn_impl hn hg a ha i hlt _ (l.length - (i + 1)) (i + 1) xs s (by omega) hv (fun xs2 s2 e hv2 => ?_)
      have h := (ih (i + 1) xs2 s2 (by omega) hv2).2
      rw [show out (cst l a) l.length (d + 1) i xs s = out (cst l a) l.length d (i + 1) xs2 s2 by rw [out, ← e]]
      exact h
theorem inn_two (c : Nat → Int) (i : Nat) : ∀ d k xs s, xs.length = 2 → (inn c i d k xs s).1.length = 2
  | 0, _, _, _, h => h
  | d + 1, k, xs, s, h => by
    unfold inn
    split
    · exact inn_two c i d _ _ _ rfl
    · exact inn_two c i d _ _ _ h
theorem out_two (c : Nat → Nat → Int) (n : Nat) : ∀ d i xs s, xs.length = 2 → (out c n d i xs s).1.length = 2
  | 0, _, _, _, h => h
  | d + 1, i, xs, s, h => out_two c n d _ _ _ (inn_two (c i) i _ _ _ _ h)
theorem out_full (c : Nat → Nat → Int) (n : Nat) (hn : 2 ≤ n) : (out c n n 0 [] 0).1.length = 2 := by
  obtain ⟨m, rfl⟩ : ∃ m, n = m + 2 := ⟨n - 2, by omega⟩
  rw [out]
  refine out_two c _ _ _ _ _ ?_
  rw [show m + 2 - (0 + 1) = m + 1 by omega, inn, if_pos (Or.inl (show ([] : List Int).length = 0 from rfl))]
  exact inn_two _ _ _ _ _ _ rfl
/-- The best swap is a swap, and its moment is told. -/
def isSw (c : Nat → Nat → Int) (n : Nat) (r : List Int × Int) : Prop := r.1 = [] ∨ ∃ i k : Nat, i < k ∧ k < n ∧ r = ([(i : Int), (k : Int)], c i k)
theorem inn_sw (c : Nat → Nat → Int) (n i : Nat) : ∀ d k xs s, i < k → k + d = n → isSw c n (xs, s) → isSw c n (inn (c i) i d k xs s)
  | 0, _, _, _, _, _, h => h
  | d + 1, k, xs, s, hi, hk, h => by
    unfold inn
    split
    · exact inn_sw c n i d (k + 1) _ _ (by omega) (by omega) (Or.inr ⟨i, k, hi, by omega, rfl⟩)
    · exact inn_sw c n i d (k + 1) _ _ (by omega) (by omega) h
theorem out_sw (c : Nat → Nat → Int) (n : Nat) : ∀ d i xs s, i + d = n → isSw c n (xs, s) → isSw c n (out c n d i xs s)
  | 0, _, _, _, _, h => h
  | d + 1, i, xs, s, hi, h => by
    rw [out]
    exact out_sw c n d (i + 1) _ _ (by omega) (inn_sw c n i _ _ _ _ (by omega) (by omega) h)
theorem swap_ev (l : List L) (hn : l.length ≤ 1048576) :
    (Ev (fun k => spec_BestSwap.f k l) ([], 0, false) ∧ Ev (fun k => impl_BestSwap.f k l) ([], 0, false)) ∨ (good l = true ∧ ∃ i k : Nat, i < k ∧ k < l.length ∧ Ev (fun k => spec_BestSwap.f k l) ([(i : Int), (k : Int)], cst l (mom l (0, 0, 0)).2.1 i k, true) ∧ Ev (fun k => impl_BestSwap.f k l) ([(i : Int), (k : Int)], cst l (mom l (0, 0, 0)).2.1 i k, true)) := by
  unfold spec_BestSwap.f impl_BestSwap.f
  have fs : Ev (fun k => spec_BestSwap.j0 k l true) ([], 0, false) := Ev.step (fun k => by simp only [spec_BestSwap.j0]; rfl) (ev_pos trivial (ev_const rfl))
  have fi : Ev (fun k => impl_BestSwap.j0 k l true) ([], 0, false) := Ev.step (fun k => by simp only [impl_BestSwap.j0]; rfl) (ev_pos trivial (ev_const rfl))
  cases hg : good l
  · exact Or.inl ⟨Ev.bind (hg ▸ good_spec l (by omega)) (ev_neg (by simp) fs), Ev.bind (hg ▸ good_impl l (by omega)) (ev_neg (by simp) fi)⟩
  · by_cases h2 : (l.length : Int) < 2
    · exact Or.inl ⟨Ev.bind (hg ▸ good_spec l (by omega)) (ev_pos rfl (by rw [decide_eq_true h2]; exact fs)), Ev.bind (hg ▸ good_impl l (by omega)) (ev_pos rfl (by rw [decide_eq_true h2]; exact fi))⟩
    · refine Or.inr ⟨rfl, ?_⟩
      have hm := mom_good l hg
      have hg2 := hg
      unfold good at hg2
      rw [Bool.and_eq_true] at hg2
      have h := out_spec hn hg2.1 (mom l (0, 0, 0)).2.1 (by omega) l.length 0 [] 0 (by omega) ⟨Or.inl rfl, Nat.zero_le _⟩
      have hf := out_full (cst l (mom l (0, 0, 0)).2.1) l.length (by omega)
      rw [show sp [] 0 = -1 from rfl] at h
      have e : sp (out (cst l (mom l (0, 0, 0)).2.1) l.length l.length 0 [] 0).1 (out (cst l (mom l (0, 0, 0)).2.1) l.length l.length 0 [] 0).2 = (out (cst l (mom l (0, 0, 0)).2.1) l.length l.length 0 [] 0).2 := by
        unfold sp
        rw [if_neg (by omega)]
      rw [e] at h
      rcases out_sw (cst l (mom l (0, 0, 0)).2.1) l.length l.length 0 [] 0 (by omega) (Or.inl rfl) with h0 | ⟨i, k, hik, hk, he⟩
      · rw [h0] at hf; cases hf
      rw [he] at h
      refine ⟨i, k, hik, hk, Ev.bind (hg ▸ good_spec l (by omega)) (ev_pos rfl ?_), Ev.bind (hg ▸ good_impl l (by omega)) (ev_pos rfl ?_)⟩
      · rw [decide_eq_false h2]
        exact Ev.step (fun k => by simp only [spec_BestSwap.j0]; rfl) (ev_neg (by simp) (Ev.bind (mom_spec l (by omega)) h.1))
      · rw [decide_eq_false h2]
        exact Ev.step (fun k => by simp only [impl_BestSwap.j0]; rfl) (ev_neg (by simp) (Ev.bind (mom_impl l (by omega)) h.2))
theorem ps_set : ∀ (l : List L) (i : Nat) (v : L) (h : i < l.length), (ps (l.set i v)).2.1 = (ps l).2.1 - l[i].f0 * l[i].f1 + v.f0 * v.f1
  | [], i, v, h => by simp at h
  | x :: l, 0, v, h => by simp only [List.set_cons_zero, ps, List.getElem_cons_zero]; omega
  | x :: l, i + 1, v, h => by
    have ih := ps_set l i v (by simpa using h)
    simp only [List.set_cons_succ, ps, List.getElem_cons_succ]
    rw [ih]; omega
theorem all_set {l : List L} (h : l.all okL = true) {i : Nat} {v : L} (hv : okL v = true) : (l.set i v).all okL = true := by
  rw [List.all_eq_true] at h ⊢
  intro x hx
  rcases List.mem_or_eq_of_mem_set hx with hx | rfl
  · exact h x hx
  · exact hv
theorem okL_mk {w a h w2 a2 h2 w3 a3 h3 : Int} (h1 : okL ⟨w, a2, h2⟩ = true) (h4 : okL ⟨w3, a, h3⟩ = true) (h5 : okL ⟨w2, a3, h⟩ = true) : okL ⟨w, a, h⟩ = true := by
  unfold okL at *
  simp only [Bool.and_eq_true] at *
  exact ⟨h1.1, h4.2.1, h5.2.2⟩
theorem rints_l (l : List Int) (hn : l.length ≤ 1048576) : ∀ d i, i + d = l.length → Ev (fun k => laws_rInts.l0 k l l (i : Int)) true := by
  intro d
  induction d with
  | zero => intro i hi; exact Ev.step (fun k => by simp only [laws_rInts.l0]; rfl) (ev_neg (by omega) (ev_const rfl))
  | succ d ih =>
    intro i hi
    refine Ev.step (fun k => by simp only [laws_rInts.l0]; rfl) (ev_pos (by omega) (ev_pos (by omega) (ev_pos (by omega) (ev_pos (by simp) ?_))))
    rw [wsucc (show i < l.length by omega) (by omega)]
    exact ih (i + 1) (by omega)
theorem rints (l : List Int) (hn : l.length ≤ 1048576) : Ev (fun k => laws_rInts.f k l l) true := by
  unfold laws_rInts.f
  exact ev_pos rfl (rints_l l hn l.length 0 (by omega))
theorem drawS {c : List Int} (hc : codeOk c) : ∃ l, Ev (fun k => spec_DrawBestSwap.f k c) l ∧ l.length ≤ 21 := by
  obtain ⟨l, j, s', h, hl, _⟩ := loads_ev hc
  unfold spec_DrawBestSwap.f spec_DrawIsValidLoads.f
  exact ⟨l, Ev.bind (Ev.bind h (ev_const rfl)) (ev_const rfl), hl⟩
theorem headed {c : List Int} (hc : codeOk c) {i s : Int} (hi : 0 ≤ i ∧ i ≤ 999000000) (xs : List Int) (m : Int) (hm : 4 ≤ m) (hx : 0 < xs.length) : ∃ p j s', spec_l1Cur_pick.f c i s 24 = some (p, j, s') ∧ (0 ≤ p ∧ p < 33) ∧ ∃ r j2 s2, spec_l1Cur_among.f c j s' (xs.take (m + p / 11).toNat) = some (r, j2, s2) ∧ i ≤ j2 ∧ j2 ≤ i + 4 := by
  obtain ⟨p, j, s1, e, h0, h1, h2, h3⟩ := pick_ev hc (s := s) (i := i) (n := 24) (by omega)
  have hp : 0 ≤ p ∧ p < 33 := ⟨h0, by omega⟩
  obtain ⟨r, j2, s2, e2, _, g1, g2⟩ := among_ev hc (s := s1) (i := j) (by omega) (xs.take (m + p / 11).toNat) (by rw [List.length_take]; omega)
  exact ⟨p, j, s1, e, hp, r, j2, s2, e2, by omega, by omega⟩
theorem drawB {c : List Int} (hc : codeOk c) : ∃ l a b, Ev (fun k => spec_DrawBallastFor.f k c) (l, a, b) ∧ l.length ≤ 21 := by
  obtain ⟨l, j, s1, h, hl, j0, j1⟩ := loads_ev hc
  obtain ⟨p, j2, s2, e2, hp, a, j3, s3, e3, b1, b2⟩ := headed hc (i := j) (s := s1) (by omega) [1, 7, 50, 200, 0, 201] 4 (by omega) (by decide)
  obtain ⟨q, j4, s4, e4, hq, b, j5, s5, e5, _, _⟩ := headed hc (i := j3) (s := s3) (by omega) [0, 1, 1000, 50000, 1000000, (-1), 1000001] 5 (by omega) (by decide)
  unfold spec_DrawBallastFor.f
  exact ⟨l, a, b, Ev.bind h (ev_call e2 (ev_pos hp (ev_call e3 (ev_call e4 (ev_pos hq (ev_call e5 (ev_const rfl))))))), hl⟩
theorem drawU {c : List Int} (hc : codeOk c) : ∃ l a, Ev (fun k => spec_DrawIsUpright.f k c) (l, a) ∧ l.length ≤ 21 := by
  obtain ⟨l, j, s1, h, hl, j0, j1⟩ := loads_ev hc
  obtain ⟨p, j2, s2, e2, hp, a, j3, s3, e3, b1, b2⟩ := headed hc (i := j) (s := s1) (by omega) [0, 1, 10, 50, 200, (-1), 201] 5 (by omega) (by decide)
  unfold spec_DrawIsUpright.f
  exact ⟨l, a, Ev.bind h (ev_call e2 (ev_pos hp (ev_call e3 (ev_const rfl)))), hl⟩
theorem up_end {c : List Int} (hc : codeOk c) : Ev (fun k => (spec_DrawIsUpright.f k c).bind fun bt324 => ((impl_IsUpright.f k bt324.1 bt324.2).bind fun bt328 => ((spec_IsUpright.f k bt324.1 bt324.2).bind fun bt330 => (if (bt328.1 == bt330.1) = true then (some (bt328.2 == bt330.2)) else (none))))) true := by
  obtain ⟨l, a, hd, hl⟩ := drawU hc
  obtain ⟨r, h1, h2⟩ := upright_same l (by omega) a
  refine Ev.bind hd (Ev.bind h2 (Ev.bind h1 ?_))
  refine ev_pos (by simp) (ev_const (by simp))
theorem bal_j1 {c : List Int} (hc : codeOk c) : Ev (fun k => laws_FnBallast.j1 k c) true := by
  obtain ⟨l, hd, hl⟩ := drawS hc
  refine Ev.step (fun k => by simp only [laws_FnBallast.j1]; rfl) (Ev.bind hd ?_)
  rcases swap_ev l (by omega) with ⟨h1, h2⟩ | ⟨hg, i, k, hik, hk, h1, h2⟩
  · refine Ev.bind h2 (Ev.bind h1 ?_)
    refine ev_neg (by simp) (ev_pos rfl (Ev.bind (rints [] (by simp)) ?_))
    exact ev_pos rfl (ev_neg (by simp) (up_end hc))
  · refine Ev.bind h2 (Ev.bind h1 ?_)
    refine ev_neg (by simp) (ev_pos rfl (Ev.bind (rints [(i : Int), (k : Int)] (by simp)) (ev_pos rfl (ev_pos rfl ?_))))
    have r0 : rd [(i : Int), (k : Int)] 0 = (i : Int) := rfl
    have r1 : rd [(i : Int), (k : Int)] 1 = (k : Int) := rfl
    dsimp only
    refine ev_call rfl (ev_pos (by simp; omega) (ev_call rfl ?_))
    rw [r0, r1, List.nil_append]
    refine ev_pos (by simp) (ev_pos (by omega) (ev_pos (by omega) (ev_pos (by simp) (ev_pos (by omega) (ev_pos (by omega) (ev_pos (by omega) (ev_pos (by omega) ?_)))))))
    have hi : i < l.length := by omega
    have ei : rd_T38 l (i : Int) = l[i] := rd_l l i hi
    have ek : rd_T38 l (k : Int) = l[k] := rd_l l k hk
    rw [ei, ek, Int.toNat_natCast, Int.toNat_natCast]
    have hgg := hg
    unfold good at hgg
    rw [Bool.and_eq_true, decide_eq_true_iff] at hgg
    have o1 : okL l[i] = true := List.all_eq_true.1 hgg.1 _ (List.getElem_mem hi)
    have o2 : okL l[k] = true := List.all_eq_true.1 hgg.1 _ (List.getElem_mem hk)
    have ov1 : okL ⟨l[i].f0, l[k].f1, l[k].f2⟩ = true := okL_mk (w := l[i].f0) (a := l[k].f1) (h := l[k].f2) (a2 := l[i].f1) (h2 := l[i].f2) (w3 := l[k].f0) (h3 := l[k].f2) (w2 := l[k].f0) (a3 := l[k].f1) o1 o2 o2
    have ov2 : okL ⟨l[k].f0, l[i].f1, l[i].f2⟩ = true := okL_mk (w := l[k].f0) (a := l[i].f1) (h := l[i].f2) (a2 := l[k].f1) (h2 := l[k].f2) (w3 := l[i].f0) (h3 := l[i].f2) (w2 := l[i].f0) (a3 := l[i].f1) o2 o1 o1
    obtain ⟨sw, hsw⟩ : ∃ s, s = (l.set i ⟨l[i].f0, l[k].f1, l[k].f2⟩).set k ⟨l[k].f0, l[i].f1, l[i].f2⟩ := ⟨_, rfl⟩
    have hsl : sw.length = l.length := by rw [hsw, List.length_set, List.length_set]
    have hsg : good sw = true := by
      unfold good
      rw [Bool.and_eq_true, decide_eq_true_iff, hsl, hsw]
      exact ⟨all_set (all_set hgg.1 ov1) ov2, hgg.2⟩
    have hsm := moments_impl sw (by omega)
    rw [hsg, if_pos rfl] at hsm
    have e3 : (mom sw (0, 0, 0)).2.1 = (mom l (0, 0, 0)).2.1 - prd l i k := by
      rw [mom_ps sw hsg, mom_ps l hg, hsw, ps_set _ _ _ (by rw [List.length_set]; exact hk), ps_set l i _ hi]
      have e5 : (l.set i ⟨l[i].f0, l[k].f1, l[k].f2⟩)[k]'(by rw [List.length_set]; exact hk) = l[k] := by rw [List.getElem_set_ne (by omega)]
      rw [e5]
      unfold prd rdl
      rw [ei, ek]
      dsimp only
      rw [Int.sub_mul, Int.mul_sub, Int.mul_sub]
      omega
    have hb := mom_good sw hsg
    rw [← hsw]
    refine Ev.bind hsm (ev_pos rfl (ev_call (rabs (by dsimp only; omega) (by dsimp only; omega)) (ev_pos ?_ (up_end hc))))
    dsimp only
    rw [e3]
    unfold cst ab mx
    rw [e3] at hb
    split <;> split <;> omega
theorem bal_true {c : List Int} (hn : c.length ≤ 9223372036854775807) (hb : ∀ x, x ∈ c → 0 ≤ x ∧ x ≤ 255) : Ev (fun k => laws_FnBallast.f k c) true := by
  unfold laws_FnBallast.f
  refine ev_call (show laws_rBig.f c = some (decide ((c.length : Int) > 65536)) from rfl) ?_
  by_cases hbig : (c.length : Int) > 65536
  · exact ev_pos (decide_eq_true hbig) (ev_const rfl)
  refine ev_neg (by simpa using hbig) ?_
  have hc : codeOk c := ⟨by omega, hb⟩
  obtain ⟨l, a, b, hd, hl⟩ := drawB hc
  refine Ev.bind hd ?_
  by_cases h : good l = true ∧ inr a 1 200 = true ∧ inr b 0 1000000 = true
  case neg =>
    obtain ⟨h1, h2⟩ := ballast_no l (by omega) a b h
    refine Ev.bind h2 (Ev.bind h1 (ev_pos rfl ?_))
    exact ev_neg (by simp) (ev_neg (by simp) (bal_j1 hc))
  obtain ⟨hg, ha, hbb⟩ := h
  obtain ⟨h1, h2⟩ := ballast_yes l (by omega) a b hg ha hbb
  have hm := moments_impl l (by omega)
  rw [hg, if_pos rfl] at hm
  have hmg := mom_good l hg
  have ra := inr_iff.1 ha
  have rb := inr_iff.1 hbb
  have ht : 0 ≤ ab (mom l (0, 0, 0)).2.1 ∧ ab (mom l (0, 0, 0)).2.1 ≤ 128000000 := by unfold ab; split <;> omega
  obtain ⟨b0, b1, b2, b3⟩ := bal_best ht.1 ra.1 rb.1
  generalize hw : bal (ab (mom l (0, 0, 0)).2.1) a b = w at *
  have p1 := mul_bound (A := 1000000) (B := 200) b0 (by omega) (show -200 ≤ a by omega) ra.2
  have p3 := mul_bound (A := 1000001) (B := 200) (show 0 ≤ w + 1 by omega) (by omega) (show -200 ≤ a by omega) ra.2
  refine Ev.bind h2 (Ev.bind h1 (ev_pos rfl ?_))
  refine ev_neg (by simp) (ev_pos rfl (Ev.bind hm ?_))
  have go : Ev (fun k => laws_FnBallast.j0 k c a b w (ab (mom l (0, 0, 0)).2.1) true) true := by
    generalize ab (mom l (0, 0, 0)).2.1 = t at *
    have e0 : wrap64 (t - wrap64 (w * a)) = t - w * a := by rw [wr (x := w * a) (by omega) (by omega), wr (by omega) (by omega)]
    have e2 : wrap64 (t - wrap64 (wrap64 (w + 1) * a)) = t - (w + 1) * a := by rw [wr (x := w + 1) (by omega) (by omega), wr (x := (w + 1) * a) (by omega) (by omega), wr (by omega) (by omega)]
    refine Ev.step (fun k => by simp only [laws_FnBallast.j0]; rfl) ?_
    rw [e0, e2]
    refine ev_call (rabs (by omega) (by omega)) ?_
    refine ev_pos trivial (ev_neg (by omega) (ev_neg (by omega) ?_))
    have tail : Ev (fun k => if w < b then ((laws_rAbs.f (t - (w + 1) * a)).bind fun t287 => (if t287 < ab (t - w * a) then (none) else (laws_FnBallast.j1 k c))) else (laws_FnBallast.j1 k c)) true := by
      by_cases c1 : w < b
      · exact ev_pos c1 (ev_call (rabs (by omega) (by omega)) (ev_neg (by have := b3 c1; omega) (bal_j1 hc)))
      · exact ev_neg c1 (bal_j1 hc)
    by_cases c0 : w > 0
    · have p2 := mul_bound (A := 1000000) (B := 200) (show 0 ≤ w - 1 by omega) (by omega) (show -200 ≤ a by omega) ra.2
      have e1 : wrap64 (t - wrap64 (wrap64 (w - 1) * a)) = t - (w - 1) * a := by rw [wr (x := w - 1) (by omega) (by omega), wr (x := (w - 1) * a) (by omega) (by omega), wr (by omega) (by omega)]
      rw [e1]
      exact ev_pos c0 (ev_call (rabs (by omega) (by omega)) (ev_neg (by have := b2 (by omega); omega) tail))
    · exact ev_neg c0 tail
  by_cases hs : (mom l (0, 0, 0)).2.1 < 0
  · refine ev_pos hs ?_
    dsimp only
    rw [show wrap64 (-(mom l (0, 0, 0)).2.1) = ab (mom l (0, 0, 0)).2.1 by unfold ab; rw [if_pos hs, wr (by omega) (by omega)]]
    exact go
  · refine ev_neg hs ?_
    dsimp only
    rw [show ab (mom l (0, 0, 0)).2.1 = (mom l (0, 0, 0)).2.1 by unfold ab; rw [if_neg hs]] at go
    exact go
end Go.Proofs.Ytkahifpcimoogaa.US
