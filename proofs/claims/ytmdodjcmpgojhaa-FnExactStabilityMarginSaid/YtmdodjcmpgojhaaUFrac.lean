/- Fractions in lowest terms: the program's way and the reference's come to the same. -/
import Derived.Test.YtmdodjcmpgojhaaPx0
import Derived.Test.YtmdodjcmpgojhaaPx2
import Derived.Test.YtmdodjcmpgojhaaPx23
import Derived.Test.YtmdodjcmpgojhaaPx24
import Derived.Test.YtmdodjcmpgojhaaPx25
import Derived.Test.YtmdodjcmpgojhaaPx27
import Derived.Test.YtmdodjcmpgojhaaPx28
import Derived.Test.YtmdodjcmpgojhaaPx3
import Derived.Test.YtmdodjcmpgojhaaPx30
import Derived.Test.YtmdodjcmpgojhaaUStab
namespace Go.Proofs.Ytmdodjcmpgojhaa.US
open Go.RowKit Go.Proofs.YtmdodjcmpgojhaaW.PrintWords Go.Proofs.YtmdodjcmpgojhaaW.PrintMore Go.Proofs.Ytmdodjcmpgojhaa.P Go.Proofs.Ytmdodjcmpgojhaa.U Go.Proofs.Ytmdodjcmpgojhaa.UL
set_option linter.unusedVariables false

theorem valid_same (l : List L) (hn : l.length ≤ 9223372036854775807) : ∃ r, Ev (fun k => spec_IsValidLoads.f k l) r ∧ Ev (fun k => impl_IsValidLoads.f k l) r := by
  unfold spec_IsValidLoads.f
  exact ⟨_, Ev.bind (good_spec l hn) (ev_const rfl), good_impl l hn⟩

theorem common_l : ∀ n m : Nat, Ev (fun k => spec_l15Common.l0 k (m : Int) (n : Int)) ((Nat.gcd n m : Nat) : Int) := by
  intro n
  induction n using Nat.strongRecOn with
  | _ n ih =>
    intro m
    refine Ev.step (fun k => by simp only [spec_l15Common.l0]; rfl) ?_
    rcases Nat.eq_zero_or_pos n with rfl | hp
    · exact ev_pos rfl (ev_const (by simp))
    · refine ev_neg (by omega) ?_
      rw [← Int.ofNat_tmod]
      exact ev_eq (ih (m % n) (Nat.mod_lt _ hp) n) (by rw [← Nat.gcd_rec])
theorem common_ev (a b : Int) (ha : -9223372036854775807 ≤ a ∧ a ≤ 9223372036854775807) (hb : -9223372036854775807 ≤ b ∧ b ≤ 9223372036854775807) : Ev (fun k => spec_l15Common.f k a b) ((Nat.gcd b.natAbs a.natAbs : Nat) : Int) := by
  have e : ∀ x : Int, -9223372036854775807 ≤ x ∧ x ≤ 9223372036854775807 → mx x (wrap64 (-x)) = (x.natAbs : Int) := fun x hx => by
    rw [wr (by omega) (by omega)]
    unfold mx
    split <;> omega
  unfold spec_l15Common.f
  refine ev_call (most _ _) (ev_call (most _ _) ?_)
  rw [e a ha, e b hb]
  exact common_l _ _
/-- The program's loop goes on until the second is 0; the first is then, but for its sign, the greatest common divisor. -/
theorem fraction_l (x0 x1 : Int) : ∀ n (x6 x7 : Int), x7.natAbs = n → ∃ y : Int, y.natAbs = Nat.gcd n x6.natAbs ∧ ∀ r, Ev (fun k => impl_fraction.l0 k x0 x1 y 0) r → Ev (fun k => impl_fraction.l0 k x0 x1 x6 x7) r := by
  intro n
  induction n using Nat.strongRecOn with
  | _ n ih =>
    intro x6 x7 h
    rcases Nat.eq_zero_or_pos n with rfl | hp
    · obtain rfl : x7 = 0 := by omega
      exact ⟨x6, by simp, fun r hr => hr⟩
    · have ht : (Int.tmod x6 x7).natAbs = x6.natAbs % n := by rw [Int.natAbs_tmod, h]
      obtain ⟨y, hy, hk⟩ := ih (x6.natAbs % n) (Nat.mod_lt _ hp) x7 (Int.tmod x6 x7) ht
      refine ⟨y, by rw [hy, h, ← Nat.gcd_rec], fun r hr => ?_⟩
      refine Ev.step (fun k => by simp only [impl_fraction.l0]; rfl) ?_
      exact ev_neg (by omega) (hk r hr)
/-- Both, for a positive denominator. -/
theorem fraction_same (a b : Int) (ha : -9223372036854775807 ≤ a ∧ a ≤ 9223372036854775807) (hb : 0 < b ∧ b ≤ 9223372036854775807) : ∃ r, r = (Int.tdiv a ((Nat.gcd b.natAbs a.natAbs : Nat) : Int), Int.tdiv b ((Nat.gcd b.natAbs a.natAbs : Nat) : Int)) ∧ Ev (fun k => spec_l15Reduce.f k a b) r ∧ Ev (fun k => impl_fraction.f k a b) r := by
  have hg : 0 < Nat.gcd b.natAbs a.natAbs := Nat.gcd_pos_of_pos_left _ (by omega)
  have hgb : Nat.gcd b.natAbs a.natAbs ≤ b.natAbs := Nat.gcd_le_left _ (by omega)
  have hc := common_ev a b ha (by omega)
  obtain ⟨y, hy, hk⟩ := fraction_l a b b.natAbs a b rfl
  generalize Nat.gcd b.natAbs a.natAbs = g at *
  have wa : wrap64 (Int.tdiv a (g : Int)) = Int.tdiv a (g : Int) := by
    have h1 := Int.natAbs_tdiv_le_natAbs a (g : Int)
    exact wr (by omega) (by omega)
  have wb : wrap64 (Int.tdiv b (g : Int)) = Int.tdiv b (g : Int) := by
    have h1 := Int.natAbs_tdiv_le_natAbs b (g : Int)
    exact wr (by omega) (by omega)
  refine ⟨_, rfl, ?_, ?_⟩
  · unfold spec_l15Reduce.f
    refine Ev.bind hc (ev_neg (by omega) (ev_const ?_))
    rw [wa, wb]
  · unfold impl_fraction.f
    refine hk _ ?_
    refine Ev.step (fun k => by simp only [impl_fraction.l0]; rfl) ?_
    refine ev_pos (by simp) ?_
    have h2 : ¬ b < 0 := by omega
    by_cases h1 : y < 0
    · have e : wrap64 (-y) = (g : Int) := by rw [wr (by omega) (by omega)]; omega
      refine ev_pos (by simp [h1, h2]) (ev_neg (by omega) (ev_const ?_))
      rw [e, wa, wb]
    · have e : y = (g : Int) := by omega
      refine ev_neg (by simp [h1, h2]) (ev_neg (by omega) (ev_const ?_))
      rw [e, wa, wb]

theorem mul_bound {a b A B : Int} (ha : 0 ≤ a) (ha2 : a ≤ A) (hb : -B ≤ b) (hb2 : b ≤ B) : -(A * B) ≤ a * b ∧ a * b ≤ A * B := by
  have hB : 0 ≤ B := by omega
  have h1 : a * b ≤ a * B := Int.mul_le_mul_of_nonneg_left hb2 ha
  have h2 : a * (-B) ≤ a * b := Int.mul_le_mul_of_nonneg_left hb ha
  have h3 : a * B ≤ A * B := Int.mul_le_mul_of_nonneg_right ha2 hB
  rw [Int.mul_neg] at h2
  omega
/-- What the moments of good loads are at most. -/
theorem mom_bound : ∀ (l : List L) (s : Int × Int × Int) (i : Nat), l.all okL = true → i + l.length ≤ 20 → (i : Int) ≤ s.1 ∧ s.1 ≤ 32000 * i → -(6400000 * i) ≤ s.2.1 ∧ s.2.1 ≤ 6400000 * i → 0 ≤ s.2.2 ∧ s.2.2 ≤ 12800000 * i →
    ((i + l.length : Nat) : Int) ≤ (mom l s).1 ∧ (mom l s).1 ≤ 32000 * (i + l.length : Nat) ∧ -(6400000 * (i + l.length : Nat)) ≤ (mom l s).2.1 ∧ (mom l s).2.1 ≤ 6400000 * (i + l.length : Nat) ∧ 0 ≤ (mom l s).2.2 ∧ (mom l s).2.2 ≤ 12800000 * (i + l.length : Nat)
  | [], s, i, _, _, h1, h2, h3 => by simp only [mom, List.length_nil, Nat.add_zero]; omega
  | x :: l, s, i, ha, hl, h1, h2, h3 => by
    rw [List.all_cons, Bool.and_eq_true] at ha
    obtain ⟨hx, ha⟩ := ha
    unfold okL at hx
    rw [Bool.and_eq_true, Bool.and_eq_true, inr_iff, inr_iff, inr_iff] at hx
    obtain ⟨hx0, hx1, hx2⟩ := hx
    rw [List.length_cons] at hl ⊢
    have p1 := mul_bound (A := 32000) (B := 200) (show 0 ≤ x.f0 by omega) hx0.2 (by omega) hx1.2
    have p2 := mul_bound (A := 32000) (B := 400) (show 0 ≤ x.f0 by omega) hx0.2 (by omega) hx2.2
    have p3 : 0 ≤ x.f0 * x.f2 := Int.mul_nonneg (by omega) hx2.1
    have e1 : wrap64 (x.f0 * x.f1) = x.f0 * x.f1 := wr (by omega) (by omega)
    have e2 : wrap64 (x.f0 * x.f2) = x.f0 * x.f2 := wr (by omega) (by omega)
    have e3 : wrap64 (s.1 + x.f0) = s.1 + x.f0 := wr (by omega) (by omega)
    have e4 : wrap64 (s.2.1 + x.f0 * x.f1) = s.2.1 + x.f0 * x.f1 := wr (by omega) (by omega)
    have e5 : wrap64 (s.2.2 + x.f0 * x.f2) = s.2.2 + x.f0 * x.f2 := wr (by omega) (by omega)
    have r := mom_bound l (wrap64 (s.1 + x.f0), wrap64 (s.2.1 + wrap64 (x.f0 * x.f1)), wrap64 (s.2.2 + wrap64 (x.f0 * x.f2))) (i + 1) ha (by omega) (by simp only [e3]; omega) (by simp only [e1, e4]; omega) (by simp only [e2, e5]; omega)
    rw [show i + (l.length + 1) = i + 1 + l.length by omega]
    exact r
theorem mom_good (l : List L) (hg : good l = true) : (l.length : Int) ≤ (mom l (0, 0, 0)).1 ∧ (mom l (0, 0, 0)).1 ≤ 640000 ∧ -128000000 ≤ (mom l (0, 0, 0)).2.1 ∧ (mom l (0, 0, 0)).2.1 ≤ 128000000 ∧ 0 ≤ (mom l (0, 0, 0)).2.2 ∧ (mom l (0, 0, 0)).2.2 ≤ 256000000 := by
  unfold good at hg
  rw [Bool.and_eq_true, decide_eq_true_iff] at hg
  have r := mom_bound l (0, 0, 0) 0 hg.1 (by omega) (by simp) (by simp) (by simp)
  rw [Nat.zero_add] at r
  omega

theorem across_same (l : List L) (hn : l.length ≤ 9223372036854775807) : ∃ r, Ev (fun k => spec_CenterAcross.f k l) r ∧ Ev (fun k => impl_CenterAcross.f k l) r := by
  unfold spec_CenterAcross.f impl_CenterAcross.f
  have fs : Ev (fun k => spec_CenterAcross.j0 k l true) (0, 0, false) := by
    refine Ev.step (fun k => by simp only [spec_CenterAcross.j0]; rfl) ?_
    exact ev_pos (by simp) (ev_const rfl)
  have fi : Ev (fun k => impl_CenterAcross.j0 k l true) (0, 0, false) := by
    refine Ev.step (fun k => by simp only [impl_CenterAcross.j0]; rfl) ?_
    exact ev_pos (by simp) (ev_const rfl)
  cases hg : good l
  · exact ⟨_, Ev.bind (hg ▸ good_spec l hn) (ev_neg (by simp) fs), Ev.bind (hg ▸ good_impl l hn) (ev_neg (by simp) fi)⟩
  have hb := mom_good l hg
  by_cases h0 : l.length = 0
  · have hz : ((l.length : Int) == 0) = true := by rw [h0]; rfl
    rw [hz]
    exact ⟨_, Ev.bind (hg ▸ good_spec l hn) (ev_pos rfl fs), Ev.bind (hg ▸ good_impl l hn) (ev_pos rfl fi)⟩
  have hz : ((l.length : Int) == 0) = false := by rw [beq_eq_false_iff_ne]; omega
  rw [hz]
  have ms := mom_spec l hn
  have mi := mom_impl l hn
  generalize mom l (0, 0, 0) = m at ms mi hb
  obtain ⟨r, _, rs, ri⟩ := fraction_same m.2.1 m.1 (by omega) (by omega)
  refine ⟨(r.1, r.2, true), Ev.bind (hg ▸ good_spec l hn) (ev_pos rfl ?_), Ev.bind (hg ▸ good_impl l hn) (ev_pos rfl ?_)⟩
  · refine Ev.step (fun k => by simp only [spec_CenterAcross.j0]; rfl) ?_
    exact ev_neg (by simp) (Ev.bind ms (Ev.bind rs (ev_const rfl)))
  · refine Ev.step (fun k => by simp only [impl_CenterAcross.j0]; rfl) ?_
    exact ev_neg (by simp) (Ev.bind mi (Ev.bind ri (ev_const rfl)))

/-- The common part of the two heights: what each side's checks come to, and the fraction. -/
theorem spec_height (l : List L) (hn : l.length ≤ 9223372036854775807) (a b c : Int) (h : (good l && (inr a 1 10000000 && inr b 0 400)) = false) : Ev (fun k => spec_l11Height.f k l a b c) (0, 0, false) := by
  have fs : Ev (fun k => spec_l11Height.j0 k l a b c true) (0, 0, false) := by
    refine Ev.step (fun k => by simp only [spec_l11Height.j0]; rfl) ?_
    exact ev_pos (by simp) (ev_const rfl)
  unfold spec_l11Height.f
  cases hg : good l
  · exact Ev.bind (hg ▸ good_spec l hn) (ev_neg (by simp) fs)
  cases h1 : inr a 1 10000000
  · exact Ev.bind (hg ▸ good_spec l hn) (ev_pos rfl (ev_call (a := false) (by rw [in_spec, h1]) (ev_neg (by simp) fs)))
  cases h2 : inr b 0 400
  · exact Ev.bind (hg ▸ good_spec l hn) (ev_pos rfl (ev_call (a := true) (by rw [in_spec, h1]) (ev_pos rfl (ev_call (a := false) (by rw [in_spec, h2]) fs))))
  · rw [hg, h1, h2] at h; cases h
theorem impl_height (l : List L) (hn : l.length ≤ 9223372036854775807) (a b c s : Int) (h : (good l && (inr a 1 10000000 && (inr b 0 400 && inr c 0 400))) = false) : Ev (fun k => impl_heightFraction.f k l a b c s) (0, 0, false) := by
  have fs : Ev (fun k => impl_heightFraction.j0 k l a b c s true) (0, 0, false) := by
    refine Ev.step (fun k => by simp only [impl_heightFraction.j0]; rfl) ?_
    exact ev_pos (by simp) (ev_const rfl)
  unfold impl_heightFraction.f
  cases hg : good l
  · exact Ev.bind (hg ▸ good_impl l hn) (ev_neg (by simp) fs)
  cases h1 : inr a 1 10000000
  · exact Ev.bind (hg ▸ good_impl l hn) (ev_pos rfl (ev_call (a := false) (by rw [in_impl, h1]) (ev_neg (by simp) fs)))
  cases h2 : inr b 0 400
  · exact Ev.bind (hg ▸ good_impl l hn) (ev_pos rfl (ev_call (a := true) (by rw [in_impl, h1]) (ev_pos rfl (ev_call (a := false) (by rw [in_impl, h2]) (ev_neg (by simp) fs)))))
  cases h3 : inr c 0 400
  · exact Ev.bind (hg ▸ good_impl l hn) (ev_pos rfl (ev_call (a := true) (by rw [in_impl, h1]) (ev_pos rfl (ev_call (a := true) (by rw [in_impl, h2]) (ev_pos rfl (ev_call (a := false) (by rw [in_impl, h3]) fs))))))
  · rw [hg, h1, h2, h3] at h; cases h
theorem spec_height_go (l : List L) (hn : l.length ≤ 9223372036854775807) (a b c : Int) (hg : good l = true) (h1 : inr a 1 10000000 = true) (h2 : inr b 0 400 = true) (r : Int × Int × Bool) (h : Ev (fun k => spec_l11Height.j0 k l a b c false) r) : Ev (fun k => spec_l11Height.f k l a b c) r := by
  unfold spec_l11Height.f
  exact Ev.bind (hg ▸ good_spec l hn) (ev_pos rfl (ev_call (a := true) (by rw [in_spec, h1]) (ev_pos rfl (ev_call (a := true) (by rw [in_spec, h2]) h))))
theorem impl_height_go (l : List L) (hn : l.length ≤ 9223372036854775807) (a b c s : Int) (hg : good l = true) (h1 : inr a 1 10000000 = true) (h2 : inr b 0 400 = true) (h3 : inr c 0 400 = true) (r : Int × Int × Bool) (h : Ev (fun k => impl_heightFraction.j0 k l a b c s false) r) : Ev (fun k => impl_heightFraction.f k l a b c s) r := by
  unfold impl_heightFraction.f
  exact Ev.bind (hg ▸ good_impl l hn) (ev_pos rfl (ev_call (a := true) (by rw [in_impl, h1]) (ev_pos rfl (ev_call (a := true) (by rw [in_impl, h2]) (ev_pos rfl (ev_call (a := true) (by rw [in_impl, h3]) h))))))

/-- Both heights of good loads, as fractions. -/
theorem height_go (l : List L) (hn : l.length ≤ 9223372036854775807) (a b : Int) (hg : good l = true) (h1 : inr a 1 10000000 = true) (h2 : inr b 0 400 = true) :
    ∃ (W U : Int), 0 < W ∧ W ≤ 10640000 ∧ 0 ≤ U ∧ U ≤ 4256000000 ∧ (∀ r, Ev (fun k => spec_l15Reduce.f k U W) r → Ev (fun k => spec_CenterHeight.f k l a b) (r.1, r.2, true)) ∧ (∀ r, Ev (fun k => impl_fraction.f k U W) r → Ev (fun k => impl_CenterHeight.f k l a b) (r.1, r.2, true)) ∧
      (∀ c, inr c 0 400 = true → ∀ r, Ev (fun k => spec_l15Reduce.f k (c * W - U) W) r → Ev (fun k => spec_StabilityMargin.f k l a b c) (r.1, r.2, true)) ∧ (∀ c, inr c 0 400 = true → ∀ r, Ev (fun k => impl_fraction.f k (c * W - U) W) r → Ev (fun k => impl_StabilityMargin.f k l a b c) (r.1, r.2, true)) := by
  have hb := mom_good l hg
  have ms := mom_spec l hn
  have mi := mom_impl l hn
  generalize mom l (0, 0, 0) = m at ms mi hb
  have a1 := inr_iff.1 h1
  have a2 := inr_iff.1 h2
  have p := mul_bound (A := 10000000) (B := 400) (show 0 ≤ a by omega) a1.2 (show -400 ≤ b by omega) a2.2
  have p0 : 0 ≤ a * b := Int.mul_nonneg (by omega) a2.1
  have eW : wrap64 (m.1 + a) = m.1 + a := wr (by omega) (by omega)
  have eP : wrap64 (a * b) = a * b := wr (by omega) (by omega)
  have eU : wrap64 (m.2.2 + a * b) = m.2.2 + a * b := wr (by omega) (by omega)
  refine ⟨m.1 + a, m.2.2 + a * b, by omega, by omega, by omega, by omega, ?_, ?_, ?_, ?_⟩
  · intro r hr
    unfold spec_CenterHeight.f
    refine Ev.bind (spec_height_go l hn a b (-1) hg h1 h2 (r.1, r.2, true) ?_) (ev_const rfl)
    refine Ev.step (fun k => by simp only [spec_l11Height.j0]; rfl) ?_
    refine ev_neg (by simp) (Ev.bind ms (ev_neg (by omega) ?_))
    rw [eP, eU, eW]
    exact Ev.bind hr (ev_const rfl)
  · intro r hr
    unfold impl_CenterHeight.f
    refine Ev.bind (impl_height_go l hn a b 0 1 hg h1 h2 (by decide) (r.1, r.2, true) ?_) (ev_const rfl)
    refine Ev.step (fun k => by simp only [impl_heightFraction.j0]; rfl) ?_
    refine ev_neg (by simp) (Ev.bind mi ?_)
    rw [eP, eU, eW]
    have e0 : wrap64 (wrap64 (0 * (m.1 + a)) + wrap64 (1 * (m.2.2 + a * b))) = m.2.2 + a * b := by
      rw [Int.zero_mul, Int.one_mul, eU, wr (x := 0) (by omega) (by omega), Int.zero_add, eU]
    rw [e0]
    exact Ev.bind hr (ev_const rfl)
  all_goals
    intro c h3 r hr
    have a3 := inr_iff.1 h3
    have q := mul_bound (A := 10640000) (B := 400) (show 0 ≤ m.1 + a by omega) (by omega) (show -400 ≤ c by omega) a3.2
    rw [Int.mul_comm (m.1 + a) c] at q
    have q0 : 0 ≤ c * (m.1 + a) := Int.mul_nonneg a3.1 (by omega)
    have eC : wrap64 (c * (m.1 + a)) = c * (m.1 + a) := wr (by omega) (by omega)
    have eD : wrap64 (c * (m.1 + a) - (m.2.2 + a * b)) = c * (m.1 + a) - (m.2.2 + a * b) := wr (by omega) (by omega)
  · unfold spec_StabilityMargin.f
    refine ev_call (a := true) (by rw [in_spec, h3]) (ev_pos rfl ?_)
    refine Ev.bind (spec_height_go l hn a b c hg h1 h2 (r.1, r.2, true) ?_) (ev_const rfl)
    refine Ev.step (fun k => by simp only [spec_l11Height.j0]; rfl) ?_
    refine ev_neg (by simp) (Ev.bind ms (ev_pos (by omega) ?_))
    rw [eP, eU, eW, eC, eD]
    exact Ev.bind hr (ev_const rfl)
  · unfold impl_StabilityMargin.f
    refine Ev.bind (impl_height_go l hn a b c (-1) hg h1 h2 h3 (r.1, r.2, true) ?_) (ev_const rfl)
    refine Ev.step (fun k => by simp only [impl_heightFraction.j0]; rfl) ?_
    refine ev_neg (by simp) (Ev.bind mi ?_)
    rw [eP, eU, eW, eC]
    have e0 : wrap64 (c * (m.1 + a) + wrap64 (-1 * (m.2.2 + a * b))) = c * (m.1 + a) - (m.2.2 + a * b) := by
      rw [wr (x := -1 * (m.2.2 + a * b)) (by omega) (by omega), wr (by omega) (by omega)]; omega
    rw [e0]
    exact Ev.bind hr (ev_const rfl)

theorem height_same (l : List L) (hn : l.length ≤ 9223372036854775807) (a b : Int) : ∃ r, Ev (fun k => spec_CenterHeight.f k l a b) r ∧ Ev (fun k => impl_CenterHeight.f k l a b) r := by
  by_cases h : (good l && (inr a 1 10000000 && inr b 0 400)) = true
  · rw [Bool.and_eq_true, Bool.and_eq_true] at h
    obtain ⟨W, U, w0, w1, u0, u1, k1, k2, _⟩ := height_go l hn a b h.1 h.2.1 h.2.2
    obtain ⟨r, _, rs, ri⟩ := fraction_same U W (by omega) (by omega)
    exact ⟨_, k1 r rs, k2 r ri⟩
  · rw [Bool.not_eq_true] at h
    unfold spec_CenterHeight.f impl_CenterHeight.f
    exact ⟨_, Ev.bind (spec_height l hn a b (-1) h) (ev_const rfl), Ev.bind (impl_height l hn a b 0 1 (by
      have e : inr 0 0 400 = true := by decide
      rw [e, Bool.and_true]; exact h)) (ev_const rfl)⟩
theorem margin_same (l : List L) (hn : l.length ≤ 9223372036854775807) (a b c : Int) : ∃ r, Ev (fun k => spec_StabilityMargin.f k l a b c) r ∧ Ev (fun k => impl_StabilityMargin.f k l a b c) r := by
  cases h3 : inr c 0 400
  · unfold spec_StabilityMargin.f impl_StabilityMargin.f
    exact ⟨_, ev_call (a := false) (by rw [in_spec, h3]) (ev_neg (by simp) (ev_const rfl)), Ev.bind (impl_height l hn a b c (-1) (by simp [h3])) (ev_const rfl)⟩
  by_cases h : (good l && (inr a 1 10000000 && inr b 0 400)) = true
  · rw [Bool.and_eq_true, Bool.and_eq_true] at h
    obtain ⟨W, U, w0, w1, u0, u1, _, _, k1, k2⟩ := height_go l hn a b h.1 h.2.1 h.2.2
    have a3 := inr_iff.1 h3
    have q := mul_bound (A := 10640000) (B := 400) (show 0 ≤ W by omega) (by omega) (show -400 ≤ c by omega) a3.2
    rw [Int.mul_comm W c] at q
    obtain ⟨r, _, rs, ri⟩ := fraction_same (c * W - U) W (by omega) (by omega)
    exact ⟨_, k1 c h3 r rs, k2 c h3 r ri⟩
  · rw [Bool.not_eq_true] at h
    unfold spec_StabilityMargin.f impl_StabilityMargin.f
    exact ⟨_, ev_call (a := true) (by rw [in_spec, h3]) (ev_pos rfl (Ev.bind (spec_height l hn a b c h) (ev_const rfl))), Ev.bind (impl_height l hn a b c (-1) (by rw [h3, Bool.and_true]; exact h)) (ev_const rfl)⟩
end Go.Proofs.Ytmdodjcmpgojhaa.US
