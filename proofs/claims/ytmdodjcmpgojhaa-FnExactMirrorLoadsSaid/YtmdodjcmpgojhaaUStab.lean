/- The stability functions: the program's and the reference's come to the same answers. -/
import Derived.Test.YtmdodjcmpgojhaaPx0
import Derived.Test.YtmdodjcmpgojhaaPx1
import Derived.Test.YtmdodjcmpgojhaaPx10
import Derived.Test.YtmdodjcmpgojhaaPx12
import Derived.Test.YtmdodjcmpgojhaaPx13
import Derived.Test.YtmdodjcmpgojhaaPx15
import Derived.Test.YtmdodjcmpgojhaaPx16
import Derived.Test.YtmdodjcmpgojhaaPx2
import Derived.Test.YtmdodjcmpgojhaaPx20
import Derived.Test.YtmdodjcmpgojhaaPx21
import Derived.Test.YtmdodjcmpgojhaaPx3
import Derived.Test.YtmdodjcmpgojhaaPx6
import Derived.Test.YtmdodjcmpgojhaaPx7
import Derived.Test.YtmdodjcmpgojhaaPx9
import Derived.Test.YtmdodjcmpgojhaaULoad
namespace Go.Proofs.Ytmdodjcmpgojhaa.US
open Go.RowKit Go.Proofs.YtmdodjcmpgojhaaW.PrintWords Go.Proofs.YtmdodjcmpgojhaaW.PrintMore Go.Proofs.Ytmdodjcmpgojhaa.P Go.Proofs.Ytmdodjcmpgojhaa.U Go.Proofs.Ytmdodjcmpgojhaa.UL
set_option linter.unusedVariables false

theorem in_spec (a b c : Int) : spec_l1In.f a b c = some (inr a b c) := by
  unfold spec_l1In.f inr
  by_cases h : b ≤ a <;> simp [h]
theorem in_impl (a b c : Int) : impl_within.f a b c = some (inr a b c) := by
  unfold impl_within.f inr
  by_cases h : b ≤ a <;> simp [h]

def okL (x : L) : Bool := inr x.f0 1 32000 && (inr x.f1 (-200) 200 && inr x.f2 0 400)
def good (l : List L) : Bool := l.all okL && decide ((l.length : Int) ≤ 20)

theorem good_spec_l (l : List L) (hn : l.length ≤ 9223372036854775807) : ∀ d i, i + d = l.length → Ev (fun k => spec_l11Good.l0 k l (i : Int)) ((l.drop i).all okL && decide ((l.length : Int) ≤ 20)) := by
  intro d
  induction d with
  | zero =>
    intro i hi
    refine Ev.step (fun k => by simp only [spec_l11Good.l0]; rfl) (ev_neg (by omega) (ev_const ?_))
    rw [List.drop_of_length_le (by omega)]; simp
  | succ d ih =>
    intro i hi
    have hlt : i < l.length := by omega
    refine Ev.step (fun k => by simp only [spec_l11Good.l0]; rfl) (ev_pos (by omega) (ev_pos (by omega) ?_))
    rw [rd_l l i hlt, wsucc hlt hn, List.drop_eq_getElem_cons hlt, List.all_cons]
    refine ev_call (in_spec _ _ _) ?_
    cases h0 : inr l[i].f0 1 32000
    · exact ev_eq (ev_neg (by simp) (ev_const rfl)) (by simp [okL, h0])
    refine ev_pos rfl (ev_call (in_spec _ _ _) ?_)
    cases h1 : inr l[i].f1 (-200) 200
    · exact ev_eq (ev_neg (by simp) (ev_const rfl)) (by simp [okL, h1])
    refine ev_pos rfl (ev_call (in_spec _ _ _) ?_)
    cases h2 : inr l[i].f2 0 400
    · exact ev_eq (ev_neg (by simp) (ev_const rfl)) (by simp [okL, h2])
    exact ev_eq (ev_pos rfl (ih (i + 1) (by omega))) (by simp [okL, h0, h1, h2])
theorem good_spec (l : List L) (hn : l.length ≤ 9223372036854775807) : Ev (fun k => spec_l11Good.f k l) (good l) := by
  unfold spec_l11Good.f
  exact good_spec_l l hn l.length 0 (by omega)
theorem good_impl_l (l : List L) (hn : l.length ≤ 9223372036854775807) : ∀ d i, i + d = l.length → Ev (fun k => impl_IsValidLoads.l0 k l l (l.length : Int) (i : Int)) ((l.drop i).all okL && decide ((l.length : Int) ≤ 20)) := by
  intro d
  induction d with
  | zero =>
    intro i hi
    refine Ev.step (fun k => by simp only [impl_IsValidLoads.l0]; rfl) (ev_neg (by omega) (ev_const ?_))
    rw [List.drop_of_length_le (by omega)]; simp
  | succ d ih =>
    intro i hi
    have hlt : i < l.length := by omega
    refine Ev.step (fun k => by simp only [impl_IsValidLoads.l0]; rfl) (ev_pos (by omega) (ev_pos (by omega) (ev_pos (by omega) ?_)))
    rw [rd_l l i hlt, wsucc hlt hn, List.drop_eq_getElem_cons hlt, List.all_cons]
    refine ev_call (in_impl _ _ _) ?_
    cases h0 : inr l[i].f0 1 32000
    · exact ev_eq (ev_neg (by simp) (ev_const rfl)) (by simp [okL, h0])
    refine ev_pos rfl (ev_call (in_impl _ _ _) ?_)
    cases h1 : inr l[i].f1 (-200) 200
    · exact ev_eq (ev_neg (by simp) (ev_const rfl)) (by simp [okL, h1])
    refine ev_pos rfl (ev_call (in_impl _ _ _) ?_)
    cases h2 : inr l[i].f2 0 400
    · exact ev_eq (ev_neg (by simp) (ev_const rfl)) (by simp [okL, h2])
    exact ev_eq (ev_pos rfl (ih (i + 1) (by omega))) (by simp [okL, h0, h1, h2])
theorem good_impl (l : List L) (hn : l.length ≤ 9223372036854775807) : Ev (fun k => impl_IsValidLoads.f k l) (good l) := by
  unfold impl_IsValidLoads.f
  exact good_impl_l l hn l.length 0 (by omega)

def mom : List L → Int × Int × Int → Int × Int × Int
  | [], s => s
  | x :: l, s => mom l (wrap64 (s.1 + x.f0), wrap64 (s.2.1 + wrap64 (x.f0 * x.f1)), wrap64 (s.2.2 + wrap64 (x.f0 * x.f2)))
theorem mom_spec_l (l : List L) (hn : l.length ≤ 9223372036854775807) : ∀ d i (s : Int × Int × Int), i + d = l.length → Ev (fun k => spec_l11Moments.l0 k l s.1 s.2.1 s.2.2 (i : Int)) (mom (l.drop i) s) := by
  intro d
  induction d with
  | zero =>
    intro i s hi
    refine Ev.step (fun k => by simp only [spec_l11Moments.l0]; rfl) (ev_neg (by omega) (ev_const ?_))
    rw [List.drop_of_length_le (by omega)]; rfl
  | succ d ih =>
    intro i s hi
    have hlt : i < l.length := by omega
    refine Ev.step (fun k => by simp only [spec_l11Moments.l0]; rfl) (ev_pos (by omega) (ev_pos (by omega) ?_))
    rw [rd_l l i hlt, wsucc hlt hn, List.drop_eq_getElem_cons hlt]
    exact ih (i + 1) (_, _, _) (by omega)
theorem mom_impl_l (l : List L) (hn : l.length ≤ 9223372036854775807) : ∀ d i (s : Int × Int × Int), i + d = l.length → Ev (fun k => impl_moments.l0 k s.1 s.2.1 s.2.2 l (l.length : Int) (i : Int)) (mom (l.drop i) s) := by
  intro d
  induction d with
  | zero =>
    intro i s hi
    refine Ev.step (fun k => by simp only [impl_moments.l0]; rfl) (ev_neg (by omega) (ev_const ?_))
    rw [List.drop_of_length_le (by omega)]; rfl
  | succ d ih =>
    intro i s hi
    have hlt : i < l.length := by omega
    refine Ev.step (fun k => by simp only [impl_moments.l0]; rfl) (ev_pos (by omega) (ev_pos (by omega) (ev_pos (by omega) ?_)))
    rw [rd_l l i hlt, wsucc hlt hn, List.drop_eq_getElem_cons hlt]
    exact ih (i + 1) (_, _, _) (by omega)
theorem mom_spec (l : List L) (hn : l.length ≤ 9223372036854775807) : Ev (fun k => spec_l11Moments.f k l) (mom l (0, 0, 0)) := by
  unfold spec_l11Moments.f
  exact mom_spec_l l hn l.length 0 (0, 0, 0) (by omega)
theorem mom_impl (l : List L) (hn : l.length ≤ 9223372036854775807) : Ev (fun k => impl_moments.f k l) (mom l (0, 0, 0)) := by
  unfold impl_moments.f
  exact mom_impl_l l hn l.length 0 (0, 0, 0) (by omega)

theorem moments_same (l : List L) (hn : l.length ≤ 9223372036854775807) : ∃ r, Ev (fun k => spec_LoadMoments.f k l) r ∧ Ev (fun k => impl_LoadMoments.f k l) r := by
  unfold spec_LoadMoments.f impl_LoadMoments.f
  cases hg : good l
  · exact ⟨_, Ev.bind (hg ▸ good_spec l hn) (ev_neg (by simp) (ev_const rfl)), Ev.bind (hg ▸ good_impl l hn) (ev_neg (by simp) (ev_const rfl))⟩
  · exact ⟨_, Ev.bind (hg ▸ good_spec l hn) (ev_pos rfl (Ev.bind (mom_spec l hn) (ev_const rfl))), Ev.bind (hg ▸ good_impl l hn) (ev_pos rfl (Ev.bind (mom_impl l hn) (ev_const rfl)))⟩

theorem most (a b : Int) : spec_l1Most.f a b = some (mx a b) := by
  unfold spec_l1Most.f mx
  split <;> split <;> first | rfl | (exfalso; omega) | (congr 1; omega)
theorem least (a b : Int) : spec_l1Least.f a b = some (mn a b) := by
  unfold spec_l1Least.f mn
  split <;> split <;> first | rfl | (exfalso; omega) | (congr 1; omega)
theorem abs_spec (a : Int) : spec_l11Abs.f a = some (mx a (wrap64 (-a))) := by
  unfold spec_l11Abs.f
  rw [most]; rfl

theorem upright_same (l : List L) (hn : l.length ≤ 9223372036854775807) (a : Int) : ∃ r, Ev (fun k => spec_IsUpright.f k l a) r ∧ Ev (fun k => impl_IsUpright.f k l a) r := by
  unfold spec_IsUpright.f impl_IsUpright.f
  have fs : Ev (fun k => spec_IsUpright.j0 k l a true) (false, false) := by
    refine Ev.step (fun k => by simp only [spec_IsUpright.j0]; rfl) ?_
    exact ev_pos (by simp) (ev_const rfl)
  have fi : Ev (fun k => impl_IsUpright.j0 k l a true) (false, false) := by
    refine Ev.step (fun k => by simp only [impl_IsUpright.j0]; rfl) ?_
    exact ev_pos (by simp) (ev_const rfl)
  cases hg : good l
  · exact ⟨_, Ev.bind (hg ▸ good_spec l hn) (ev_neg (by simp) fs), Ev.bind (hg ▸ good_impl l hn) (ev_neg (by simp) fi)⟩
  cases h1 : inr a 0 200
  · exact ⟨_, Ev.bind (hg ▸ good_spec l hn) (ev_pos rfl (ev_call (a := false) (by rw [in_spec, h1]) fs)), Ev.bind (hg ▸ good_impl l hn) (ev_pos rfl (ev_call (a := false) (by rw [in_impl, h1]) fi))⟩
  have ms := mom_spec l hn
  have mi := mom_impl l hn
  generalize mom l (0, 0, 0) = m at ms mi
  refine ⟨(decide (mx m.2.1 (wrap64 (-m.2.1)) ≤ wrap64 (a * m.1)), true), Ev.bind (hg ▸ good_spec l hn) (ev_pos rfl (ev_call (a := true) (by rw [in_spec, h1]) ?_)), Ev.bind (hg ▸ good_impl l hn) (ev_pos rfl (ev_call (a := true) (by rw [in_impl, h1]) ?_))⟩
  · refine Ev.step (fun k => by simp only [spec_IsUpright.j0]; rfl) ?_
    refine ev_neg (by simp) (Ev.bind ms ?_)
    exact ev_call (abs_spec _) (ev_const rfl)
  · refine Ev.step (fun k => by simp only [impl_IsUpright.j0]; rfl) ?_
    refine ev_neg (by simp) (Ev.bind mi ?_)
    exact ev_call rfl (ev_const rfl)

/-- The weights above a height, from some number on. -/
def above (h : Int) : List L → Int → Int
  | [], s => s
  | x :: l, s => above h l (if x.f2 > h then wrap64 (s + x.f0) else s)
theorem above_spec_l (l : List L) (hn : l.length ≤ 9223372036854775807) (a : Int) : ∀ d i (s : Int), i + d = l.length → Ev (fun k => spec_WeightAbove.l0 k l a s (i : Int)) (above a (l.drop i) s, true) := by
  intro d
  induction d with
  | zero =>
    intro i s hi
    refine Ev.step (fun k => by simp only [spec_WeightAbove.l0]; rfl) (ev_neg (by omega) (ev_const ?_))
    rw [List.drop_of_length_le (by omega)]; rfl
  | succ d ih =>
    intro i s hi
    have hlt : i < l.length := by omega
    refine Ev.step (fun k => by simp only [spec_WeightAbove.l0]; rfl) (ev_pos (by omega) (ev_pos (by omega) ?_))
    rw [rd_l l i hlt, wsucc hlt hn, List.drop_eq_getElem_cons hlt]
    by_cases hc : l[i].f2 > a
    · exact ev_eq (ev_pos hc (ih (i + 1) _ (by omega))) (by rw [above, if_pos hc])
    · exact ev_eq (ev_neg hc (ih (i + 1) _ (by omega))) (by rw [above, if_neg hc])
theorem above_impl_l (l : List L) (hn : l.length ≤ 9223372036854775807) (a : Int) : ∀ d i (s : Int), i + d = l.length → Ev (fun k => impl_WeightAbove.l0 k a s l (l.length : Int) (i : Int)) (above a (l.drop i) s, true) := by
  intro d
  induction d with
  | zero =>
    intro i s hi
    refine Ev.step (fun k => by simp only [impl_WeightAbove.l0]; rfl) (ev_neg (by omega) (ev_const ?_))
    rw [List.drop_of_length_le (by omega)]; rfl
  | succ d ih =>
    intro i s hi
    have hlt : i < l.length := by omega
    refine Ev.step (fun k => by simp only [impl_WeightAbove.l0]; rfl) (ev_pos (by omega) (ev_pos (by omega) (ev_pos (by omega) ?_)))
    rw [rd_l l i hlt, wsucc hlt hn, List.drop_eq_getElem_cons hlt]
    by_cases hc : l[i].f2 > a
    · exact ev_eq (ev_pos hc (ih (i + 1) _ (by omega))) (by rw [above, if_pos hc])
    · exact ev_eq (ev_neg hc (ih (i + 1) _ (by omega))) (by rw [above, if_neg hc])
theorem above_ev (l : List L) (hn : l.length ≤ 9223372036854775807) (a : Int) :
    Ev (fun k => spec_WeightAbove.f k l a) (if good l && inr a 0 400 then (above a l 0, true) else (0, false)) ∧ Ev (fun k => impl_WeightAbove.f k l a) (if good l && inr a 0 400 then (above a l 0, true) else (0, false)) := by
  unfold spec_WeightAbove.f impl_WeightAbove.f
  have fs : Ev (fun k => spec_WeightAbove.j0 k l a true) (0, false) := by
    refine Ev.step (fun k => by simp only [spec_WeightAbove.j0]; rfl) ?_
    exact ev_pos (by simp) (ev_const rfl)
  have fi : Ev (fun k => impl_WeightAbove.j0 k l a true) (0, false) := by
    refine Ev.step (fun k => by simp only [impl_WeightAbove.j0]; rfl) ?_
    exact ev_pos (by simp) (ev_const rfl)
  cases hg : good l
  · exact ⟨Ev.bind (hg ▸ good_spec l hn) (ev_neg (by simp) fs), Ev.bind (hg ▸ good_impl l hn) (ev_neg (by simp) fi)⟩
  cases h1 : inr a 0 400
  · exact ⟨Ev.bind (hg ▸ good_spec l hn) (ev_pos rfl (ev_call (a := false) (by rw [in_spec, h1]) fs)), Ev.bind (hg ▸ good_impl l hn) (ev_pos rfl (ev_call (a := false) (by rw [in_impl, h1]) fi))⟩
  refine ⟨Ev.bind (hg ▸ good_spec l hn) (ev_pos rfl (ev_call (a := true) (by rw [in_spec, h1]) ?_)), Ev.bind (hg ▸ good_impl l hn) (ev_pos rfl (ev_call (a := true) (by rw [in_impl, h1]) ?_))⟩
  · refine Ev.step (fun k => by simp only [spec_WeightAbove.j0]; rfl) ?_
    exact ev_neg (by simp) (above_spec_l l hn a l.length 0 0 (by omega))
  · refine Ev.step (fun k => by simp only [impl_WeightAbove.j0]; rfl) ?_
    exact ev_neg (by simp) (above_impl_l l hn a l.length 0 0 (by omega))
theorem above_same (l : List L) (hn : l.length ≤ 9223372036854775807) (a : Int) : ∃ r, Ev (fun k => spec_WeightAbove.f k l a) r ∧ Ev (fun k => impl_WeightAbove.f k l a) r := ⟨_, above_ev l hn a⟩

theorem ballast_same (l : List L) (hn : l.length ≤ 9223372036854775807) (a b : Int) : ∃ r, Ev (fun k => spec_BallastFor.f k l a b) r ∧ Ev (fun k => impl_BallastFor.f k l a b) r := by
  unfold spec_BallastFor.f impl_BallastFor.f
  have fs : Ev (fun k => spec_BallastFor.j0 k l a b true) (0, false) := by
    refine Ev.step (fun k => by simp only [spec_BallastFor.j0]; rfl) ?_
    exact ev_pos (by simp) (ev_const rfl)
  have fi : Ev (fun k => impl_BallastFor.j0 k l a b true) (0, false) := by
    refine Ev.step (fun k => by simp only [impl_BallastFor.j0]; rfl) ?_
    exact ev_pos (by simp) (ev_const rfl)
  cases hg : good l
  · exact ⟨_, Ev.bind (hg ▸ good_spec l hn) (ev_neg (by simp) fs), Ev.bind (hg ▸ good_impl l hn) (ev_neg (by simp) fi)⟩
  cases h1 : inr a 1 200
  · exact ⟨_, Ev.bind (hg ▸ good_spec l hn) (ev_pos rfl (ev_call (a := false) (by rw [in_spec, h1]) (ev_neg (by simp) fs))), Ev.bind (hg ▸ good_impl l hn) (ev_pos rfl (ev_call (a := false) (by rw [in_impl, h1]) (ev_neg (by simp) fi)))⟩
  cases h2 : inr b 0 1000000
  · exact ⟨_, Ev.bind (hg ▸ good_spec l hn) (ev_pos rfl (ev_call (a := true) (by rw [in_spec, h1]) (ev_pos rfl (ev_call (a := false) (by rw [in_spec, h2]) fs)))), Ev.bind (hg ▸ good_impl l hn) (ev_pos rfl (ev_call (a := true) (by rw [in_impl, h1]) (ev_pos rfl (ev_call (a := false) (by rw [in_impl, h2]) fi))))⟩
  have ha := inr_iff.1 h1
  suffices hs : ∃ r, Ev (fun k => spec_BallastFor.j0 k l a b (!true)) r ∧ Ev (fun k => impl_BallastFor.j0 k l a b (!true)) r by
    obtain ⟨r, x, y⟩ := hs
    exact ⟨r, Ev.bind (hg ▸ good_spec l hn) (ev_pos rfl (ev_call (a := true) (by rw [in_spec, h1]) (ev_pos rfl (ev_call (a := true) (by rw [in_spec, h2]) x)))), Ev.bind (hg ▸ good_impl l hn) (ev_pos rfl (ev_call (a := true) (by rw [in_impl, h1]) (ev_pos rfl (ev_call (a := true) (by rw [in_impl, h2]) y))))⟩
  have ms := mom_spec l hn
  have mi := mom_impl l hn
  generalize mom l (0, 0, 0) = m at ms mi
  generalize hm : mx m.2.1 (wrap64 (-m.2.1)) = t
  generalize hw : mn (wrap64 (Int.tdiv t a)) b = w
  have es : ∀ r, Ev (fun k => if w < b then ((spec_l11Abs.f (wrap64 (t - wrap64 (wrap64 (w + 1) * a)))).bind fun t305 => ((spec_l11Abs.f (wrap64 (t - wrap64 (w * a)))).bind fun t306 => if t305 < t306 then some (wrap64 (w + 1), true) else some (w, true))) else some (w, true)) r → Ev (fun k => spec_BallastFor.j0 k l a b (!true)) r := by
    intro r hr
    refine Ev.step (fun k => by simp only [spec_BallastFor.j0]; rfl) ?_
    refine ev_neg (by simp) (Ev.bind ms ?_)
    refine ev_call (abs_spec _) (ev_neg (by omega) ?_)
    rw [hm]
    refine ev_call (least _ _) ?_
    rw [hw]
    exact hr
  have ei : ∀ r, Ev (fun k => if w < b then ((impl_size.f (wrap64 (t - wrap64 (a * wrap64 (w + 1))))).bind fun t314 => ((impl_size.f (wrap64 (t - wrap64 (a * w)))).bind fun t315 => if t314 < t315 then some (wrap64 (w + 1), true) else some (w, true))) else some (w, true)) r → Ev (fun k => impl_BallastFor.j0 k l a b (!true)) r := by
    intro r hr
    refine Ev.step (fun k => by simp only [impl_BallastFor.j0]; rfl) ?_
    refine ev_neg (by simp) (Ev.bind mi ?_)
    refine ev_call rfl (ev_neg (by omega) ?_)
    rw [hm, hw]
    exact hr
  rw [Int.mul_comm (wrap64 (w + 1)) a, Int.mul_comm w a] at es
  have same : ∀ x, spec_l11Abs.f x = impl_size.f x := fun x => (abs_spec x).trans rfl
  simp only [same] at es
  have tot : ∃ r, (if w < b then ((impl_size.f (wrap64 (t - wrap64 (a * wrap64 (w + 1))))).bind fun t314 => ((impl_size.f (wrap64 (t - wrap64 (a * w)))).bind fun t315 => if t314 < t315 then some (wrap64 (w + 1), true) else some (w, true))) else some (w, true)) = some r := by
    unfold impl_size.f
    simp only [Option.bind_some]
    split
    · split <;> exact ⟨_, rfl⟩
    · exact ⟨_, rfl⟩
  obtain ⟨r, hr⟩ := tot
  exact ⟨r, es r (ev_const hr), ei r (ev_const hr)⟩

/-! Mirrored. -/
def mir (x : L) : L := ⟨x.f0, wrap64 (-x.f1), x.f2⟩
theorem mirror_spec_l (l : List L) (hn : l.length ≤ 1048576) : ∀ d i (acc : List L), i + d = l.length → acc.length = i → Ev (fun k => spec_MirrorLoads.l0 k l acc (i : Int)) (acc ++ (l.drop i).map mir, true) := by
  intro d
  induction d with
  | zero =>
    intro i acc hi ha
    refine Ev.step (fun k => by simp only [spec_MirrorLoads.l0]; rfl) (ev_neg (by omega) (ev_const ?_))
    rw [List.drop_of_length_le (by omega)]; simp
  | succ d ih =>
    intro i acc hi ha
    have hlt : i < l.length := by omega
    refine Ev.step (fun k => by simp only [spec_MirrorLoads.l0]; rfl) (ev_pos (by omega) (ev_pos (by omega) (ev_pos (by omega) ?_)))
    rw [rd_l l i hlt, wsucc hlt (by omega), List.drop_eq_getElem_cons hlt]
    exact ev_eq (ih (i + 1) _ (by omega) (by simp [ha])) (by rw [List.map_cons, List.append_assoc]; rfl)
theorem mirror_impl_l (l : List L) (hn : l.length ≤ 1048576) : ∀ d i (acc : List L), i + d = l.length → acc.length = i → Ev (fun k => impl_MirrorLoads.l0 k acc l (l.length : Int) (i : Int)) (acc ++ (l.drop i).map mir, true) := by
  intro d
  induction d with
  | zero =>
    intro i acc hi ha
    refine Ev.step (fun k => by simp only [impl_MirrorLoads.l0]; rfl) (ev_neg (by omega) (ev_const ?_))
    rw [List.drop_of_length_le (by omega)]; simp
  | succ d ih =>
    intro i acc hi ha
    have hlt : i < l.length := by omega
    refine Ev.step (fun k => by simp only [impl_MirrorLoads.l0]; rfl) (ev_pos (by omega) (ev_pos (by omega) (ev_pos (by omega) (ev_pos (by omega) ?_))))
    rw [rd_l l i hlt, wsucc hlt (by omega), List.drop_eq_getElem_cons hlt]
    exact ev_eq (ih (i + 1) _ (by omega) (by simp [ha])) (by rw [List.map_cons, List.append_assoc]; rfl)
theorem mirror_ev (l : List L) (hn : l.length ≤ 1048576) :
    Ev (fun k => spec_MirrorLoads.f k l) (if good l then (l.map mir, true) else ([], false)) ∧ Ev (fun k => impl_MirrorLoads.f k l) (if good l then (l.map mir, true) else ([], false)) := by
  unfold spec_MirrorLoads.f impl_MirrorLoads.f
  cases hg : good l
  · exact ⟨ev_call rfl (Ev.bind (hg ▸ good_spec l (by omega)) (ev_neg (by simp) (ev_const rfl))), Ev.bind (hg ▸ good_impl l (by omega)) (ev_neg (by simp) (ev_const rfl))⟩
  · exact ⟨ev_call rfl (Ev.bind (hg ▸ good_spec l (by omega)) (ev_pos rfl (mirror_spec_l l hn l.length 0 [] (by omega) rfl))), Ev.bind (hg ▸ good_impl l (by omega)) (ev_pos rfl (mirror_impl_l l hn l.length 0 [] (by omega) rfl))⟩
theorem mirror_same (l : List L) (hn : l.length ≤ 1048576) : ∃ r, r.1.length ≤ 1048576 ∧ Ev (fun k => spec_MirrorLoads.f k l) r ∧ Ev (fun k => impl_MirrorLoads.f k l) r := by
  refine ⟨_, ?_, (mirror_ev l hn).1, (mirror_ev l hn).2⟩
  cases good l <;> simp; omega
end Go.Proofs.Ytmdodjcmpgojhaa.US
