/- Centers: the law. -/
import Derived.Test.YtkahifpcimoogaaPx0
import Derived.Test.YtkahifpcimoogaaPx1
import Derived.Test.YtkahifpcimoogaaPx12
import Derived.Test.YtkahifpcimoogaaPx21
import Derived.Test.YtkahifpcimoogaaPx22
import Derived.Test.YtkahifpcimoogaaPx23
import Derived.Test.YtkahifpcimoogaaPx24
import Derived.Test.YtkahifpcimoogaaPx25
import Derived.Test.YtkahifpcimoogaaPx26
import Derived.Test.YtkahifpcimoogaaPx27
import Derived.Test.YtkahifpcimoogaaPx28
import Derived.Test.YtkahifpcimoogaaPx29
import Derived.Test.YtkahifpcimoogaaPx30
import Derived.Test.YtkahifpcimoogaaPx31
import Derived.Test.YtkahifpcimoogaaPx32
import Derived.Test.YtkahifpcimoogaaPx33
import Derived.Test.YtkahifpcimoogaaPx34
import Derived.Test.YtkahifpcimoogaaUStA
import Derived.Test.YtkahifpcimoogaaUDrawL
namespace Go.Proofs.Ytkahifpcimoogaa.US
open Go.RowKit Go.Proofs.YtkahifpcimoogaaW.PrintWords Go.Proofs.YtkahifpcimoogaaW.PrintMore Go.Proofs.Ytkahifpcimoogaa.P Go.Proofs.Ytkahifpcimoogaa.U Go.Proofs.Ytkahifpcimoogaa.UD
set_option linter.unusedVariables false

def mir (x : L) : L := ⟨x.f0, wrap64 (-x.f1), x.f2⟩
theorem mirror_impl_l (l : List L) (hn : l.length ≤ 1048576) : ∀ d i (acc : List L), i + d = l.length → acc.length = i → Ev (fun k => impl_MirrorLoads.l0 k acc l (l.length : Int) (i : Int)) (acc ++ (l.drop i).map mir, true) := by
  intro d
  induction d with
  | zero =>
    intro i acc hi ha
    refine Ev.step (fun k => by simp only [impl_MirrorLoads.l0]; rfl) (ev_neg (by omega) (ev_const ?_))
    rw [List.drop_of_length_le (by omega)]; simp
  | succ d ih =>
    intro i acc hi ha
    have hlt : i < l.length := by omega
    refine Ev.step (fun k => by simp only [impl_MirrorLoads.l0]; rfl) (ev_pos (by omega) (ev_pos (by omega) (ev_pos (by omega) (ev_pos (by omega) ?_))))
    rw [rd_l l i hlt, wsucc hlt (by omega), List.drop_eq_getElem_cons hlt]
    exact ev_eq (ih (i + 1) _ (by omega) (by simp [ha])) (by rw [List.map_cons, List.append_assoc]; rfl)
def above (h : Int) : List L → Int → Int
  | [], s => s
  | x :: l, s => above h l (if x.f2 > h then wrap64 (s + x.f0) else s)
theorem above_spec_l (l : List L) (hn : l.length ≤ 9223372036854775807) (a : Int) : ∀ d i (s : Int), i + d = l.length → Ev (fun k => spec_WeightAbove.l0 k l a s (i : Int)) (above a (l.drop i) s, true) := by
  intro d
  induction d with
  | zero =>
    intro i s hi
    refine Ev.step (fun k => by simp only [spec_WeightAbove.l0]; rfl) (ev_neg (by omega) (ev_const ?_))
    rw [List.drop_of_length_le (by omega)]; rfl
  | succ d ih =>
    intro i s hi
    have hlt : i < l.length := by omega
    refine Ev.step (fun k => by simp only [spec_WeightAbove.l0]; rfl) (ev_pos (by omega) (ev_pos (by omega) ?_))
    rw [rd_l l i hlt, wsucc hlt hn, List.drop_eq_getElem_cons hlt]
    by_cases hc : l[i].f2 > a
    · exact ev_eq (ev_pos hc (ih (i + 1) _ (by omega))) (by rw [above, if_pos hc])
    · exact ev_eq (ev_neg hc (ih (i + 1) _ (by omega))) (by rw [above, if_neg hc])
theorem above_impl_l (l : List L) (hn : l.length ≤ 9223372036854775807) (a : Int) : ∀ d i (s : Int), i + d = l.length → Ev (fun k => impl_WeightAbove.l0 k a s l (l.length : Int) (i : Int)) (above a (l.drop i) s, true) := by
  intro d
  induction d with
  | zero =>
    intro i s hi
    refine Ev.step (fun k => by simp only [impl_WeightAbove.l0]; rfl) (ev_neg (by omega) (ev_const ?_))
    rw [List.drop_of_length_le (by omega)]; rfl
  | succ d ih =>
    intro i s hi
    have hlt : i < l.length := by omega
    refine Ev.step (fun k => by simp only [impl_WeightAbove.l0]; rfl) (ev_pos (by omega) (ev_pos (by omega) (ev_pos (by omega) ?_)))
    rw [rd_l l i hlt, wsucc hlt hn, List.drop_eq_getElem_cons hlt]
    by_cases hc : l[i].f2 > a
    · exact ev_eq (ev_pos hc (ih (i + 1) _ (by omega))) (by rw [above, if_pos hc])
    · exact ev_eq (ev_neg hc (ih (i + 1) _ (by omega))) (by rw [above, if_neg hc])
theorem above_ev (l : List L) (hn : l.length ≤ 9223372036854775807) (a : Int) :
    Ev (fun k => spec_WeightAbove.f k l a) (if good l && inr a 0 400 then (above a l 0, true) else (0, false)) ∧ Ev (fun k => impl_WeightAbove.f k l a) (if good l && inr a 0 400 then (above a l 0, true) else (0, false)) := by
  unfold spec_WeightAbove.f impl_WeightAbove.f
  have fs : Ev (fun k => spec_WeightAbove.j0 k l a true) (0, false) := by
    refine Ev.step (fun k => by simp only [spec_WeightAbove.j0]; rfl) ?_
    exact ev_pos (by simp) (ev_const rfl)
  have fi : Ev (fun k => impl_WeightAbove.j0 k l a true) (0, false) := by
    refine Ev.step (fun k => by simp only [impl_WeightAbove.j0]; rfl) ?_
    exact ev_pos (by simp) (ev_const rfl)
  cases hg : good l
  · exact ⟨Ev.bind (hg ▸ good_spec l hn) (ev_neg (by simp) fs), Ev.bind (hg ▸ good_impl l hn) (ev_neg (by simp) fi)⟩
  cases h1 : inr a 0 400
  · exact ⟨Ev.bind (hg ▸ good_spec l hn) (ev_pos rfl (ev_call (a := false) (by rw [in_spec, h1]) fs)), Ev.bind (hg ▸ good_impl l hn) (ev_pos rfl (ev_call (a := false) (by rw [in_impl, h1]) fi))⟩
  refine ⟨Ev.bind (hg ▸ good_spec l hn) (ev_pos rfl (ev_call (a := true) (by rw [in_spec, h1]) ?_)), Ev.bind (hg ▸ good_impl l hn) (ev_pos rfl (ev_call (a := true) (by rw [in_impl, h1]) ?_))⟩
  · refine Ev.step (fun k => by simp only [spec_WeightAbove.j0]; rfl) ?_
    exact ev_neg (by simp) (above_spec_l l hn a l.length 0 0 (by omega))
  · refine Ev.step (fun k => by simp only [impl_WeightAbove.j0]; rfl) ?_
    exact ev_neg (by simp) (above_impl_l l hn a l.length 0 0 (by omega))
theorem common_l : ∀ n m : Nat, Ev (fun k => spec_l15Common.l0 k (m : Int) (n : Int)) ((Nat.gcd n m : Nat) : Int) := by
  intro n
  induction n using Nat.strongRecOn with
  | _ n ih =>
    intro m
    refine Ev.step (fun k => by simp only [spec_l15Common.l0]; rfl) ?_
    rcases Nat.eq_zero_or_pos n with rfl | hp
    · exact ev_pos rfl (ev_const (by simp))
    · refine ev_neg (by omega) ?_
      rw [← Int.ofNat_tmod]
      exact ev_eq (ih (m % n) (Nat.mod_lt _ hp) n) (by rw [← Nat.gcd_rec])
theorem common_ev (a b : Int) (ha : -9223372036854775807 ≤ a ∧ a ≤ 9223372036854775807) (hb : -9223372036854775807 ≤ b ∧ b ≤ 9223372036854775807) : Ev (fun k => spec_l15Common.f k a b) ((Nat.gcd b.natAbs a.natAbs : Nat) : Int) := by
  have e : ∀ x : Int, -9223372036854775807 ≤ x ∧ x ≤ 9223372036854775807 → mx x (wrap64 (-x)) = (x.natAbs : Int) := fun x hx => by
    rw [wr (by omega) (by omega)]
    unfold mx
    split <;> omega
  unfold spec_l15Common.f
  refine ev_call (most _ _) (ev_call (most _ _) ?_)
  rw [e a ha, e b hb]
  exact common_l _ _
theorem fraction_l (x0 x1 : Int) : ∀ n (x6 x7 : Int), x7.natAbs = n → ∃ y : Int, y.natAbs = Nat.gcd n x6.natAbs ∧ ∀ r, Ev (fun k => impl_fraction.l0 k x0 x1 y 0) r → Ev (fun k => impl_fraction.l0 k x0 x1 x6 x7) r := by
  intro n
  induction n using Nat.strongRecOn with
  | _ n ih =>
    intro x6 x7 h
    rcases Nat.eq_zero_or_pos n with rfl | hp
    · obtain rfl : x7 = 0 := by omega
      exact ⟨x6, by simp, fun r hr => hr⟩
    · have ht : (Int.tmod x6 x7).natAbs = x6.natAbs % n := by rw [Int.natAbs_tmod, h]
      obtain ⟨y, hy, hk⟩ := ih (x6.natAbs % n) (Nat.mod_lt _ hp) x7 (Int.tmod x6 x7) ht
      refine ⟨y, by rw [hy, h, ← Nat.gcd_rec], fun r hr => ?_⟩
      refine Ev.step (fun k => by simp only [impl_fraction.l0]; rfl) ?_
      exact ev_neg (by omega) (hk r hr)
theorem fraction_same (a b : Int) (ha : -9223372036854775807 ≤ a ∧ a ≤ 9223372036854775807) (hb : 0 < b ∧ b ≤ 9223372036854775807) : ∃ r, r = (Int.tdiv a ((Nat.gcd b.natAbs a.natAbs : Nat) : Int), Int.tdiv b ((Nat.gcd b.natAbs a.natAbs : Nat) : Int)) ∧ Ev (fun k => spec_l15Reduce.f k a b) r ∧ Ev (fun k => impl_fraction.f k a b) r := by
  have hg : 0 < Nat.gcd b.natAbs a.natAbs := Nat.gcd_pos_of_pos_left _ (by omega)
  have hgb : Nat.gcd b.natAbs a.natAbs ≤ b.natAbs := Nat.gcd_le_left _ (by omega)
  have hc := common_ev a b ha (by omega)
  obtain ⟨y, hy, hk⟩ := fraction_l a b b.natAbs a b rfl
  generalize Nat.gcd b.natAbs a.natAbs = g at *
  have wa : wrap64 (Int.tdiv a (g : Int)) = Int.tdiv a (g : Int) := by
    have h1 := Int.natAbs_tdiv_le_natAbs a (g : Int)
    exact wr (by omega) (by omega)
  have wb : wrap64 (Int.tdiv b (g : Int)) = Int.tdiv b (g : Int) := by
    have h1 := Int.natAbs_tdiv_le_natAbs b (g : Int)
    exact wr (by omega) (by omega)
  refine ⟨_, rfl, ?_, ?_⟩
  · unfold spec_l15Reduce.f
    refine Ev.bind hc (ev_neg (by omega) (ev_const ?_))
    rw [wa, wb]
  · unfold impl_fraction.f
    refine hk _ ?_
    refine Ev.step (fun k => by simp only [impl_fraction.l0]; rfl) ?_
    refine ev_pos (by simp) ?_
    have h2 : ¬ b < 0 := by omega
    by_cases h1 : y < 0
    · have e : wrap64 (-y) = (g : Int) := by rw [wr (by omega) (by omega)]; omega
      refine ev_pos (by simp [h1, h2]) (ev_neg (by omega) (ev_const ?_))
      rw [e, wa, wb]
    · have e : y = (g : Int) := by omega
      refine ev_neg (by simp [h1, h2]) (ev_neg (by omega) (ev_const ?_))
      rw [e, wa, wb]
def acr (l : List L) : Int × Int × Bool := if good l && !(decide (l.length = 0)) then (Int.tdiv (mom l (0, 0, 0)).2.1 ((Nat.gcd (mom l (0, 0, 0)).1.natAbs (mom l (0, 0, 0)).2.1.natAbs : Nat) : Int), Int.tdiv (mom l (0, 0, 0)).1 ((Nat.gcd (mom l (0, 0, 0)).1.natAbs (mom l (0, 0, 0)).2.1.natAbs : Nat) : Int), true) else (0, 0, false)
theorem across_ev (l : List L) (hn : l.length ≤ 9223372036854775807) : Ev (fun k => spec_CenterAcross.f k l) (acr l) ∧ Ev (fun k => impl_CenterAcross.f k l) (acr l) := by
  unfold acr
  unfold spec_CenterAcross.f impl_CenterAcross.f
  have fs : Ev (fun k => spec_CenterAcross.j0 k l true) (0, 0, false) := by
    refine Ev.step (fun k => by simp only [spec_CenterAcross.j0]; rfl) ?_
    exact ev_pos (by simp) (ev_const rfl)
  have fi : Ev (fun k => impl_CenterAcross.j0 k l true) (0, 0, false) := by
    refine Ev.step (fun k => by simp only [impl_CenterAcross.j0]; rfl) ?_
    exact ev_pos (by simp) (ev_const rfl)
  cases hg : good l
  · exact ⟨Ev.bind (hg ▸ good_spec l hn) (ev_neg (by simp) fs), Ev.bind (hg ▸ good_impl l hn) (ev_neg (by simp) fi)⟩
  have hb := mom_good l hg
  by_cases h0 : l.length = 0
  · have hz : ((l.length : Int) == 0) = true := by rw [h0]; rfl
    rw [hz, h0]
    exact ⟨Ev.bind (hg ▸ good_spec l hn) (ev_pos rfl fs), Ev.bind (hg ▸ good_impl l hn) (ev_pos rfl fi)⟩
  have hz : ((l.length : Int) == 0) = false := by rw [beq_eq_false_iff_ne]; omega
  rw [hz]
  have ms := mom_spec l hn
  have mi := mom_impl l hn
  generalize mom l (0, 0, 0) = m at ms mi hb
  obtain ⟨r, hr, rs, ri⟩ := fraction_same m.2.1 m.1 (by omega) (by omega)
  rw [decide_eq_false h0]
  have hrr : (if (true && !false) = true then (Int.tdiv m.2.1 ((Nat.gcd m.1.natAbs m.2.1.natAbs : Nat) : Int), Int.tdiv m.1 ((Nat.gcd m.1.natAbs m.2.1.natAbs : Nat) : Int), true) else (0, 0, false)) = (r.1, r.2, true) := by rw [hr]; rfl
  rw [hrr]
  refine ⟨Ev.bind (hg ▸ good_spec l hn) (ev_pos rfl ?_), Ev.bind (hg ▸ good_impl l hn) (ev_pos rfl ?_)⟩
  · refine Ev.step (fun k => by simp only [spec_CenterAcross.j0]; rfl) ?_
    exact ev_neg (by simp) (Ev.bind ms (Ev.bind rs (ev_const rfl)))
  · refine Ev.step (fun k => by simp only [impl_CenterAcross.j0]; rfl) ?_
    exact ev_neg (by simp) (Ev.bind mi (Ev.bind ri (ev_const rfl)))
theorem spec_height (l : List L) (hn : l.length ≤ 9223372036854775807) (a b c : Int) (h : (good l && (inr a 1 10000000 && inr b 0 400)) = false) : Ev (fun k => spec_l11Height.f k l a b c) (0, 0, false) := by
  have fs : Ev (fun k => spec_l11Height.j0 k l a b c true) (0, 0, false) := by
    refine Ev.step (fun k => by simp only [spec_l11Height.j0]; rfl) ?_
    exact ev_pos (by simp) (ev_const rfl)
  unfold spec_l11Height.f
  cases hg : good l
  · exact Ev.bind (hg ▸ good_spec l hn) (ev_neg (by simp) fs)
  cases h1 : inr a 1 10000000
  · exact Ev.bind (hg ▸ good_spec l hn) (ev_pos rfl (ev_call (a := false) (by rw [in_spec, h1]) (ev_neg (by simp) fs)))
  cases h2 : inr b 0 400
  · exact Ev.bind (hg ▸ good_spec l hn) (ev_pos rfl (ev_call (a := true) (by rw [in_spec, h1]) (ev_pos rfl (ev_call (a := false) (by rw [in_spec, h2]) fs))))
  · rw [hg, h1, h2] at h; cases h
theorem impl_height (l : List L) (hn : l.length ≤ 9223372036854775807) (a b c s : Int) (h : (good l && (inr a 1 10000000 && (inr b 0 400 && inr c 0 400))) = false) : Ev (fun k => impl_heightFraction.f k l a b c s) (0, 0, false) := by
  have fs : Ev (fun k => impl_heightFraction.j0 k l a b c s true) (0, 0, false) := by
    refine Ev.step (fun k => by simp only [impl_heightFraction.j0]; rfl) ?_
    exact ev_pos (by simp) (ev_const rfl)
  unfold impl_heightFraction.f
  cases hg : good l
  · exact Ev.bind (hg ▸ good_impl l hn) (ev_neg (by simp) fs)
  cases h1 : inr a 1 10000000
  · exact Ev.bind (hg ▸ good_impl l hn) (ev_pos rfl (ev_call (a := false) (by rw [in_impl, h1]) (ev_neg (by simp) fs)))
  cases h2 : inr b 0 400
  · exact Ev.bind (hg ▸ good_impl l hn) (ev_pos rfl (ev_call (a := true) (by rw [in_impl, h1]) (ev_pos rfl (ev_call (a := false) (by rw [in_impl, h2]) (ev_neg (by simp) fs)))))
  cases h3 : inr c 0 400
  · exact Ev.bind (hg ▸ good_impl l hn) (ev_pos rfl (ev_call (a := true) (by rw [in_impl, h1]) (ev_pos rfl (ev_call (a := true) (by rw [in_impl, h2]) (ev_pos rfl (ev_call (a := false) (by rw [in_impl, h3]) fs))))))
  · rw [hg, h1, h2, h3] at h; cases h
theorem spec_height_go (l : List L) (hn : l.length ≤ 9223372036854775807) (a b c : Int) (hg : good l = true) (h1 : inr a 1 10000000 = true) (h2 : inr b 0 400 = true) (r : Int × Int × Bool) (h : Ev (fun k => spec_l11Height.j0 k l a b c false) r) : Ev (fun k => spec_l11Height.f k l a b c) r := by
  unfold spec_l11Height.f
  exact Ev.bind (hg ▸ good_spec l hn) (ev_pos rfl (ev_call (a := true) (by rw [in_spec, h1]) (ev_pos rfl (ev_call (a := true) (by rw [in_spec, h2]) h))))
theorem impl_height_go (l : List L) (hn : l.length ≤ 9223372036854775807) (a b c s : Int) (hg : good l = true) (h1 : inr a 1 10000000 = true) (h2 : inr b 0 400 = true) (h3 : inr c 0 400 = true) (r : Int × Int × Bool) (h : Ev (fun k => impl_heightFraction.j0 k l a b c s false) r) : Ev (fun k => impl_heightFraction.f k l a b c s) r := by
  unfold impl_heightFraction.f
  exact Ev.bind (hg ▸ good_impl l hn) (ev_pos rfl (ev_call (a := true) (by rw [in_impl, h1]) (ev_pos rfl (ev_call (a := true) (by rw [in_impl, h2]) (ev_pos rfl (ev_call (a := true) (by rw [in_impl, h3]) h))))))
theorem height_go (l : List L) (hn : l.length ≤ 9223372036854775807) (a b : Int) (hg : good l = true) (h1 : inr a 1 10000000 = true) (h2 : inr b 0 400 = true) :
    ∃ (W U : Int), 0 < W ∧ W ≤ 10640000 ∧ 0 ≤ U ∧ U ≤ 4256000000 ∧ (∀ r, Ev (fun k => impl_fraction.f k U W) r → Ev (fun k => impl_CenterHeight.f k l a b) (r.1, r.2, true)) ∧
      (∀ c, inr c 0 400 = true → ∀ r, Ev (fun k => spec_l15Reduce.f k (c * W - U) W) r → Ev (fun k => spec_StabilityMargin.f k l a b c) (r.1, r.2, true)) ∧ (∀ c, inr c 0 400 = true → ∀ r, Ev (fun k => impl_fraction.f k (c * W - U) W) r → Ev (fun k => impl_StabilityMargin.f k l a b c) (r.1, r.2, true)) := by
  have hb := mom_good l hg
  have ms := mom_spec l hn
  have mi := mom_impl l hn
  generalize mom l (0, 0, 0) = m at ms mi hb
  have a1 := inr_iff.1 h1
  have a2 := inr_iff.1 h2
  have p := mul_bound (A := 10000000) (B := 400) (show 0 ≤ a by omega) a1.2 (show -400 ≤ b by omega) a2.2
  have p0 : 0 ≤ a * b := Int.mul_nonneg (by omega) a2.1
  have eW : wrap64 (m.1 + a) = m.1 + a := wr (by omega) (by omega)
  have eP : wrap64 (a * b) = a * b := wr (by omega) (by omega)
  have eU : wrap64 (m.2.2 + a * b) = m.2.2 + a * b := wr (by omega) (by omega)
  refine ⟨m.1 + a, m.2.2 + a * b, by omega, by omega, by omega, by omega, ?_, ?_, ?_⟩
  · intro r hr
    unfold impl_CenterHeight.f
    refine Ev.bind (impl_height_go l hn a b 0 1 hg h1 h2 (by decide) (r.1, r.2, true) ?_) (ev_const rfl)
    refine Ev.step (fun k => by simp only [impl_heightFraction.j0]; rfl) ?_
    refine ev_neg (by simp) (Ev.bind mi ?_)
    rw [eP, eU, eW]
    have e0 : wrap64 (wrap64 (0 * (m.1 + a)) + wrap64 (1 * (m.2.2 + a * b))) = m.2.2 + a * b := by
      rw [Int.zero_mul, Int.one_mul, eU, wr (x := 0) (by omega) (by omega), Int.zero_add, eU]
    rw [e0]
    exact Ev.bind hr (ev_const rfl)
  all_goals
    intro c h3 r hr
    have a3 := inr_iff.1 h3
    have q := mul_bound (A := 10640000) (B := 400) (show 0 ≤ m.1 + a by omega) (by omega) (show -400 ≤ c by omega) a3.2
    rw [Int.mul_comm (m.1 + a) c] at q
    have q0 : 0 ≤ c * (m.1 + a) := Int.mul_nonneg a3.1 (by omega)
    have eC : wrap64 (c * (m.1 + a)) = c * (m.1 + a) := wr (by omega) (by omega)
    have eD : wrap64 (c * (m.1 + a) - (m.2.2 + a * b)) = c * (m.1 + a) - (m.2.2 + a * b) := wr (by omega) (by omega)
  · unfold spec_StabilityMargin.f
    refine ev_call (a := true) (by rw [in_spec, h3]) (ev_pos rfl ?_)
    refine Ev.bind (spec_height_go l hn a b c hg h1 h2 (r.1, r.2, true) ?_) (ev_const rfl)
    refine Ev.step (fun k => by simp only [spec_l11Height.j0]; rfl) ?_
    refine ev_neg (by simp) (Ev.bind ms (ev_pos (by omega) ?_))
    rw [eP, eU, eW, eC, eD]
    exact Ev.bind hr (ev_const rfl)
  · unfold impl_StabilityMargin.f
    refine Ev.bind (impl_height_go l hn a b c (-1) hg h1 h2 h3 (r.1, r.2, true) ?_) (ev_const rfl)
    refine Ev.step (fun k => by simp only [impl_heightFraction.j0]; rfl) ?_
    refine ev_neg (by simp) (Ev.bind mi ?_)
    rw [eP, eU, eW, eC]
    have e0 : wrap64 (c * (m.1 + a) + wrap64 (-1 * (m.2.2 + a * b))) = c * (m.1 + a) - (m.2.2 + a * b) := by
      rw [wr (x := -1 * (m.2.2 + a * b)) (by omega) (by omega), wr (by omega) (by omega)]; omega
    rw [e0]
    exact Ev.bind hr (ev_const rfl)
theorem mirror_impl (l : List L) (hn : l.length ≤ 1048576) : Ev (fun k => impl_MirrorLoads.f k l) (if good l then (l.map mir, true) else ([], false)) := by
  unfold impl_MirrorLoads.f
  cases hg : good l
  · exact Ev.bind (hg ▸ good_impl l (by omega)) (ev_neg (by simp) (ev_const rfl))
  · exact Ev.bind (hg ▸ good_impl l (by omega)) (ev_pos rfl (mirror_impl_l l hn l.length 0 [] (by omega) rfl))
theorem mir_ok {x : L} (h : okL x = true) : mir x = ⟨x.f0, -x.f1, x.f2⟩ ∧ okL (mir x) = true := by
  have h0 := h
  unfold okL at h0
  rw [Bool.and_eq_true, Bool.and_eq_true, inr_iff, inr_iff, inr_iff] at h0
  have e : mir x = ⟨x.f0, -x.f1, x.f2⟩ := by unfold mir; rw [wr (by omega) (by omega)]
  refine ⟨e, ?_⟩
  rw [e]
  unfold okL
  rw [Bool.and_eq_true, Bool.and_eq_true, inr_iff, inr_iff, inr_iff]
  dsimp only
  omega
theorem mir_good {l : List L} (h : good l = true) : good (l.map mir) = true := by
  unfold good at h ⊢
  rw [Bool.and_eq_true] at h ⊢
  refine ⟨?_, by rw [List.length_map]; exact h.2⟩
  rw [List.all_map, List.all_eq_true]
  intro x hx
  exact (mir_ok (List.all_eq_true.1 h.1 x hx)).2
theorem mir_ps : ∀ (l : List L), l.all okL = true → ps (l.map mir) = ((ps l).1, -(ps l).2.1, (ps l).2.2)
  | [], _ => by simp [ps]
  | x :: l, h => by
    rw [List.all_cons, Bool.and_eq_true] at h
    have ih := mir_ps l h.2
    rw [List.map_cons, ps, ih, ps, (mir_ok h.1).1]
    simp only [Prod.mk.injEq, Int.mul_neg, true_and, and_true]
    omega
theorem above_le (a : Int) : ∀ (l : List L) (s : Int) (i : Nat), l.all okL = true → i + l.length ≤ 20 → 0 ≤ s ∧ s ≤ 32000 * i → s ≤ above a l s ∧ above a l s ≤ s + (ps l).1 ∧ 0 ≤ (ps l).1
  | [], s, i, _, _, h => by simp [above, ps]
  | x :: l, s, i, ha, hl, h => by
    rw [List.all_cons, Bool.and_eq_true] at ha
    obtain ⟨hx, ha⟩ := ha
    unfold okL at hx
    rw [Bool.and_eq_true, Bool.and_eq_true, inr_iff, inr_iff, inr_iff] at hx
    rw [List.length_cons] at hl
    have e3 : wrap64 (s + x.f0) = s + x.f0 := wr (by omega) (by omega)
    rw [above, ps, e3]
    split
    · have r := above_le a l (s + x.f0) (i + 1) ha (by omega) (by omega)
      dsimp only; omega
    · have r := above_le a l s (i + 1) ha (by omega) (by omega)
      dsimp only; omega
theorem good_parts {l : List L} (h : good l = true) : l.all okL = true ∧ l.length ≤ 20 := by
  unfold good at h
  rw [Bool.and_eq_true, decide_eq_true_iff] at h
  exact ⟨h.1, by omega⟩
theorem dec_ev {c : List Int} (hc : codeOk c) {i s : Int} (hi : 0 ≤ i ∧ i ≤ 999000000) : ∃ r j s', spec_l1Cur_decimeters.f c i s = some (r, j, s') ∧ i ≤ j ∧ j ≤ i + 4 := by
  unfold spec_l1Cur_decimeters.f
  obtain ⟨p, j, s1, e, h0, h1, h2, h3⟩ := pick_ev hc (s := s) (i := i) (n := 24) (by omega)
  rw [e, Option.bind_some, if_pos (by dsimp only; omega)]
  dsimp only
  obtain ⟨r, j2, s2, e2, _, g1, g2⟩ := among_ev hc (s := s1) (i := j) (by omega) (([0, 60, 90, 120, 400, (-1), 401] : List Int).take (5 + p / 11).toNat) (by rw [List.length_take]; simp only [List.length_cons, List.length_nil]; omega)
  rw [e2, Option.bind_some]
  exact ⟨_, _, _, rfl, by dsimp only; omega, by dsimp only; omega⟩
theorem ship_ev {c : List Int} (hc : codeOk c) {i s : Int} (hi : 0 ≤ i ∧ i ≤ 999000000) : ∃ r j s', spec_l1Cur_shipWeight.f c i s = some (r, j, s') ∧ i ≤ j ∧ j ≤ i + 4 := by
  unfold spec_l1Cur_shipWeight.f
  obtain ⟨p, j, s1, e, h0, h1, h2, h3⟩ := pick_ev hc (s := s) (i := i) (n := 24) (by omega)
  rw [e, Option.bind_some, if_pos (by dsimp only; omega)]
  dsimp only
  obtain ⟨r, j2, s2, e2, _, g1, g2⟩ := among_ev hc (s := s1) (i := j) (by omega) (([1, 1000, 100000, 10000000, 0, 10000001] : List Int).take (4 + p / 11).toNat) (by rw [List.length_take]; simp only [List.length_cons, List.length_nil]; omega)
  rw [e2, Option.bind_some]
  exact ⟨_, _, _, rfl, by dsimp only; omega, by dsimp only; omega⟩
theorem drawC {c : List Int} (hc : codeOk c) : ∃ l, Ev (fun k => spec_DrawCenterAcross.f k c) l ∧ l.length ≤ 21 := by
  obtain ⟨l, j, s', h, hl, _⟩ := loads_ev hc
  unfold spec_DrawCenterAcross.f spec_DrawIsValidLoads.f
  exact ⟨l, Ev.bind (Ev.bind h (ev_const rfl)) (ev_const rfl), hl⟩
theorem drawM {c : List Int} (hc : codeOk c) : ∃ l a b d, Ev (fun k => spec_DrawStabilityMargin.f k c) (l, a, b, d) ∧ l.length ≤ 21 := by
  obtain ⟨l, j, s1, h, hl, j0, j1⟩ := loads_ev hc
  obtain ⟨a, j2, s2, e2, _, _⟩ := ship_ev hc (i := j) (s := s1) (by omega)
  obtain ⟨b, j3, s3, e3, _, _⟩ := dec_ev hc (i := j2) (s := s2) (by omega)
  obtain ⟨d, j4, s4, e4, _, _⟩ := dec_ev hc (i := j3) (s := s3) (by omega)
  unfold spec_DrawStabilityMargin.f
  exact ⟨l, a, b, d, Ev.bind h (ev_call e2 (ev_call e3 (ev_call e4 (ev_const rfl)))), hl⟩
theorem drawW {c : List Int} (hc : codeOk c) : ∃ l a, Ev (fun k => spec_DrawWeightAbove.f k c) (l, a) ∧ l.length ≤ 21 := by
  obtain ⟨l, j, s1, h, hl, j0, j1⟩ := loads_ev hc
  obtain ⟨a, j2, s2, e2, _, _⟩ := dec_ev hc (i := j) (s := s1) (by omega)
  unfold spec_DrawWeightAbove.f
  exact ⟨l, a, Ev.bind h (ev_call e2 (ev_const rfl)), hl⟩
/-- The weights above a height. -/
theorem cent_j1 {c : List Int} (hc : codeOk c) : Ev (fun k => laws_FnCenters.j1 k c) true := by
  obtain ⟨l, a, hd, hl⟩ := drawW hc
  obtain ⟨h1, h2⟩ := above_ev l (by omega) a
  refine Ev.step (fun k => by simp only [laws_FnCenters.j1]; rfl) (Ev.bind hd (Ev.bind h2 (Ev.bind h1 (ev_pos rfl ?_))))
  refine ev_neg (by simp) ?_
  by_cases hg : (good l && inr a 0 400) = true
  case neg =>
    rw [if_neg hg]
    exact ev_neg (by simp) (ev_const rfl)
  rw [if_pos hg]
  rw [Bool.and_eq_true] at hg
  have hp := good_parts hg.1
  have hm := moments_impl l (by omega)
  rw [hg.1, if_pos rfl, mom_ps l hg.1] at hm
  have hb := above_le a l 0 0 hp.1 (by omega) (by simp)
  refine ev_pos rfl (Ev.bind hm (ev_pos rfl (ev_neg ?_ (ev_neg ?_ (ev_const rfl)))))
  · dsimp only; omega
  · dsimp only; omega
theorem margin_false {l : List L} (hn : l.length ≤ 9223372036854775807) {a b m : Int} (h : ¬ (inr m 0 400 = true ∧ good l = true ∧ inr a 1 10000000 = true ∧ inr b 0 400 = true)) : Ev (fun k => spec_StabilityMargin.f k l a b m) (0, 0, false) ∧ Ev (fun k => impl_StabilityMargin.f k l a b m) (0, 0, false) := by
  unfold spec_StabilityMargin.f impl_StabilityMargin.f
  cases h3 : inr m 0 400
  · exact ⟨ev_call (a := false) (by rw [in_spec, h3]) (ev_neg (by simp) (ev_const rfl)), Ev.bind (impl_height l hn a b m (-1) (by simp [h3])) (ev_const rfl)⟩
  have h4 : (good l && (inr a 1 10000000 && inr b 0 400)) = false := by
    rw [← Bool.not_eq_true, Bool.and_eq_true, Bool.and_eq_true]
    intro hh
    exact h ⟨h3, hh.1, hh.2.1, hh.2.2⟩
  exact ⟨ev_call (a := true) (by rw [in_spec, h3]) (ev_pos rfl (Ev.bind (spec_height l hn a b m h4) (ev_const rfl))), Ev.bind (impl_height l hn a b m (-1) (by rw [h3, Bool.and_true]; exact h4)) (ev_const rfl)⟩
theorem tdiv_dvd {a : Int} {g : Nat} (hg : 0 < g) (h : ((g : Nat) : Int) ∣ a) : ∃ q, a = q * (g : Int) ∧ Int.tdiv a (g : Int) = q := by
  obtain ⟨q, rfl⟩ := h
  exact ⟨q, Int.mul_comm _ _, Int.mul_tdiv_cancel_left q (by omega)⟩
theorem cent_j0 {c : List Int} (hc : codeOk c) : Ev (fun k => laws_FnCenters.j0 k c) true := by
  obtain ⟨l, a, b, m, hd, hl⟩ := drawM hc
  refine Ev.step (fun k => by simp only [laws_FnCenters.j0]; rfl) (Ev.bind hd ?_)
  by_cases h : inr m 0 400 = true ∧ good l = true ∧ inr a 1 10000000 = true ∧ inr b 0 400 = true
  case neg =>
    obtain ⟨h1, h2⟩ := margin_false (l := l) (by omega) h
    exact Ev.bind h2 (Ev.bind h1 (ev_pos rfl (ev_pos rfl (ev_neg (by simp) (ev_neg (by simp) (cent_j1 hc))))))
  obtain ⟨h3, hg, ha, hb⟩ := h
  obtain ⟨W, U, w0, w1, u0, u1, k2, k3, k4⟩ := height_go l (by omega) a b hg ha hb
  have a3 := inr_iff.1 h3
  have q := mul_bound (A := 10640000) (B := 400) (show 0 ≤ W by omega) (by omega) (show -400 ≤ m by omega) a3.2
  rw [Int.mul_comm W m] at q
  have q0 : 0 ≤ m * W := Int.mul_nonneg a3.1 (by omega)
  obtain ⟨r, hr, rs, ri⟩ := fraction_same (m * W - U) W (by omega) (by omega)
  obtain ⟨r2, hr2, _, ri2⟩ := fraction_same U W (by omega) (by omega)
  have hgcd : Nat.gcd W.natAbs (m * W - U).natAbs = Nat.gcd W.natAbs U.natAbs := Int.gcd_mul_right_sub_right W U m
  rw [hgcd] at hr
  generalize hgv : Nat.gcd W.natAbs U.natAbs = g at *
  have hg0 : 0 < g := by rw [← hgv]; exact Nat.gcd_pos_of_pos_left _ (by omega)
  have d1 : ((g : Nat) : Int) ∣ W := by rw [← hgv]; exact Int.ofNat_dvd_left.2 (Nat.gcd_dvd_left _ _)
  have d2 : ((g : Nat) : Int) ∣ U := by rw [← hgv]; exact Int.ofNat_dvd_left.2 (Nat.gcd_dvd_right _ _)
  obtain ⟨x, hx, ex⟩ := tdiv_dvd hg0 d1
  obtain ⟨y, hy, ey⟩ := tdiv_dvd hg0 d2
  have e3 : Int.tdiv (m * W - U) (g : Int) = m * x - y := by
    rw [hx, hy, ← Int.mul_assoc, ← Int.sub_mul, Int.mul_tdiv_cancel _ (by omega)]
  rw [ex, e3] at hr
  rw [ex, ey] at hr2
  have hgi : (1 : Int) ≤ (g : Int) := by omega
  have bx : 0 ≤ x ∧ x ≤ 10640000 := by
    have : x ≤ W := by
      rw [hx]
      have hx0 : 0 ≤ x := by
        apply Decidable.byContradiction
        intro hn
        have : x * (g : Int) ≤ -1 * (g : Int) := Int.mul_le_mul_of_nonneg_right (by omega) (by omega)
        omega
      have := Int.mul_le_mul_of_nonneg_left hgi hx0
      omega
    refine ⟨?_, by omega⟩
    apply Decidable.byContradiction
    intro hn
    have : x * (g : Int) ≤ -1 * (g : Int) := Int.mul_le_mul_of_nonneg_right (by omega) (by omega)
    omega
  have hmx : 0 ≤ m * x ∧ m * x ≤ 4256000000 := by
    have p := mul_bound (A := 10640000) (B := 400) bx.1 bx.2 (show -400 ≤ m by omega) a3.2
    rw [Int.mul_comm x m] at p
    exact ⟨Int.mul_nonneg a3.1 bx.1, by omega⟩
  subst hr hr2
  refine Ev.bind (k4 m h3 _ ri) (Ev.bind (k3 m h3 _ rs) (ev_pos rfl (ev_pos rfl (ev_neg (by simp) (ev_pos rfl (Ev.bind (k2 _ ri2) (ev_pos rfl (ev_pos rfl (ev_pos ?_ (cent_j1 hc))))))))))
  dsimp only
  rw [show y + (m * x - y) = m * x by omega]
theorem cent_true {c : List Int} (hn : c.length ≤ 9223372036854775807) (hb : ∀ x, x ∈ c → 0 ≤ x ∧ x ≤ 255) : Ev (fun k => laws_FnCenters.f k c) true := by
  unfold laws_FnCenters.f
  refine ev_call (show laws_rBig.f c = some (decide ((c.length : Int) > 65536)) from rfl) ?_
  by_cases hbig : (c.length : Int) > 65536
  · exact ev_pos (decide_eq_true hbig) (ev_const rfl)
  refine ev_neg (by simpa using hbig) ?_
  have hc : codeOk c := ⟨by omega, hb⟩
  obtain ⟨l, hd, hl⟩ := drawC hc
  obtain ⟨h1, h2⟩ := across_ev l (by omega)
  refine Ev.bind hd (Ev.bind h2 (Ev.bind h1 (ev_pos rfl (ev_pos rfl (ev_neg (by simp) ?_)))))
  by_cases hg : (good l && !(decide (l.length = 0))) = true
  case neg =>
    unfold acr
    rw [if_neg hg]
    exact ev_neg (by simp) (cent_j0 hc)
  have hg1 := (Bool.and_eq_true_iff.1 hg).1
  have hm := mirror_impl l (by omega)
  rw [hg1, if_pos rfl] at hm
  have hp := good_parts hg1
  have hgm := mir_good hg1
  have h3 := (across_ev (l.map mir) (by rw [List.length_map]; omega)).2
  have hmb := mom_good l hg1
  have e2 : acr (l.map mir) = (-(acr l).1, (acr l).2.1, true) := by
    unfold acr
    rw [if_pos hg, if_pos (by rw [hgm, List.length_map]; rw [hg1] at hg; exact hg), mom_ps _ hgm, mom_ps _ hg1, mir_ps l hp.1]
    dsimp only
    rw [Int.natAbs_neg, Int.neg_tdiv]
  have e1 : (acr l).2.2 = true := by unfold acr; rw [if_pos hg]
  have hnb : -128000000 ≤ (acr l).1 ∧ (acr l).1 ≤ 128000000 := by
    unfold acr
    rw [if_pos hg]
    dsimp only
    have := Int.natAbs_tdiv_le_natAbs (mom l (0, 0, 0)).2.1 ((Nat.gcd (mom l (0, 0, 0)).1.natAbs (mom l (0, 0, 0)).2.1.natAbs : Nat) : Int)
    omega
  rw [e2] at h3
  refine ev_pos e1 (Ev.bind hm (Ev.bind h3 (ev_pos rfl (ev_pos rfl (ev_pos ?_ (ev_pos rfl (Ev.bind (hgm ▸ good_impl (l.map mir) (by rw [List.length_map]; omega)) (ev_pos rfl (cent_j0 hc)))))))))
  dsimp only
  rw [wr (by omega) (by omega)]
end Go.Proofs.Ytkahifpcimoogaa.US
