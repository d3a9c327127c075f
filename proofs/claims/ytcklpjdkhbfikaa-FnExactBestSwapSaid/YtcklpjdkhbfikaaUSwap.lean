/- The best swap: the program's and the reference's. -/
import Derived.Test.YtcklpjdkhbfikaaPx0
import Derived.Test.YtcklpjdkhbfikaaPx1
import Derived.Test.YtcklpjdkhbfikaaPx2
import Derived.Test.YtcklpjdkhbfikaaPx3
import Derived.Test.YtcklpjdkhbfikaaUStab0
namespace Go.Proofs.Ytcklpjdkhbfikaa.US
open Go.RowKit Go.Proofs.YtcklpjdkhbfikaaW.PrintWords Go.Proofs.YtcklpjdkhbfikaaW.PrintMore Go.Proofs.Ytcklpjdkhbfikaa.P Go.Proofs.Ytcklpjdkhbfikaa.U Go.Proofs.Ytcklpjdkhbfikaa.UL
set_option linter.unusedVariables false

abbrev rdl (l : List L) (i : Nat) : L := rd_T39 l (i : Int)
def prd (l : List L) (i k : Nat) : Int := ((rdl l i).f0 - (rdl l k).f0) * ((rdl l i).f1 - (rdl l k).f1)
def cst (l : List L) (a : Int) (i k : Nat) : Int := mx (a - prd l i k) (-(a - prd l i k))
theorem mx_abs (x : Int) : 0 ≤ mx x (-x) := by
  unfold mx
  split <;> omega
theorem prod_abs {u v : Int} (hu : u.natAbs ≤ 31999) (hv : v.natAbs ≤ 400) : -12799600 ≤ u * v ∧ u * v ≤ 12799600 := by
  have h : (u * v).natAbs ≤ 31999 * 400 := by rw [Int.natAbs_mul]; exact Nat.mul_le_mul hu hv
  generalize u * v = p at *
  omega
theorem at_ok {l : List L} (hg : l.all okL = true) (i : Nat) (h : i < l.length) : (1 ≤ (rdl l i).f0 ∧ (rdl l i).f0 ≤ 32000) ∧ (-200 ≤ (rdl l i).f1 ∧ (rdl l i).f1 ≤ 200) := by
  have e : rdl l i = l[i] := rd_l l i h
  rw [e]
  have hx := List.all_eq_true.mp hg l[i] (List.getElem_mem h)
  unfold okL at hx
  rw [Bool.and_eq_true, Bool.and_eq_true, inr_iff, inr_iff, inr_iff] at hx
  exact ⟨hx.1, hx.2.1⟩
theorem prd_ok {l : List L} (hg : l.all okL = true) (i k : Nat) (h : i < l.length) (hk : k < l.length) : -12799600 ≤ prd l i k ∧ prd l i k ≤ 12799600 := by
  have h1 := at_ok hg i h
  have h2 := at_ok hg k hk
  exact prod_abs (by omega) (by omega)
theorem spec_cost {l : List L} (hg : l.all okL = true) (a : Int) (ha : -128000000 ≤ a ∧ a ≤ 128000000) (i k : Nat) (h : i < l.length) (hk : k < l.length) :
    spec_l11Abs.f (wrap64 (a - (wrap64 ((wrap64 ((rdl l i).f0 - (rdl l k).f0)) * (wrap64 ((rdl l i).f1 - (rdl l k).f1)))))) = some (cst l a i k) := by
  have h1 := at_ok hg i h
  have h2 := at_ok hg k hk
  have h3 := prd_ok hg i k h hk
  rw [wr (x := (rdl l i).f0 - (rdl l k).f0) (by omega) (by omega), wr (x := (rdl l i).f1 - (rdl l k).f1) (by omega) (by omega)]
  change spec_l11Abs.f (wrap64 (a - wrap64 (prd l i k))) = _
  rw [wr (x := prd l i k) (by omega) (by omega), wr (x := a - prd l i k) (by omega) (by omega), abs_spec, wr (x := -(a - prd l i k)) (by omega) (by omega)]
  rfl
theorem impl_cost {l : List L} (hg : l.all okL = true) (a : Int) (ha : -128000000 ≤ a ∧ a ≤ 128000000) (i k : Nat) (h : i < l.length) (hk : k < l.length) :
    impl_size.f (wrap64 (a + (wrap64 ((wrap64 ((rdl l i).f0 - (rdl l k).f0)) * (wrap64 ((rdl l k).f1 - (rdl l i).f1)))))) = some (cst l a i k) := by
  have h1 := at_ok hg i h
  have h2 := at_ok hg k hk
  have h3 := prd_ok hg i k h hk
  rw [wr (x := (rdl l i).f0 - (rdl l k).f0) (by omega) (by omega), wr (x := (rdl l k).f1 - (rdl l i).f1) (by omega) (by omega)]
  have e : ((rdl l i).f0 - (rdl l k).f0) * ((rdl l k).f1 - (rdl l i).f1) = -(prd l i k) := by
    rw [show (rdl l k).f1 - (rdl l i).f1 = -((rdl l i).f1 - (rdl l k).f1) by omega, Int.mul_neg]; rfl
  rw [e, wr (x := -(prd l i k)) (by omega) (by omega), show a + -(prd l i k) = a - prd l i k by omega, wr (x := a - prd l i k) (by omega) (by omega)]
  unfold impl_size.f
  rw [wr (x := -(a - prd l i k)) (by omega) (by omega)]
  rfl
/-- One number's comparisons: the swap and its moment. -/
def inn (c : Nat → Int) (i : Nat) : Nat → Nat → List Int → Int → List Int × Int
  | 0, _, xs, s => (xs, s)
  | d + 1, k, xs, s => if xs.length = 0 ∨ c k < s then inn c i d (k + 1) [(i : Int), (k : Int)] (c k) else inn c i d (k + 1) xs s
def out (c : Nat → Nat → Int) (n : Nat) : Nat → Nat → List Int → Int → List Int × Int
  | 0, _, xs, s => (xs, s)
  | d + 1, i, xs, s => let r := inn (c i) i (n - (i + 1)) (i + 1) xs s; out c n d (i + 1) r.1 r.2
/-- What the reference holds: -1 while there is no swap. -/
def sp (xs : List Int) (s : Int) : Int := if xs.length = 0 then -1 else s
def inv (xs : List Int) (s : Int) : Prop := (xs.length = 0 ∨ 0 ≤ s) ∧ xs.length ≤ 2
theorem inn_spec {l : List L} (hn : l.length ≤ 1048576) (hg : l.all okL = true) (a : Int) (ha : -128000000 ≤ a ∧ a ≤ 128000000) (i : Nat) (hi : i < l.length) (r : List Int × Int × Bool) : ∀ d k xs s, k + d = l.length → inv xs s →
    (∀ xs2 s2, (xs2, s2) = inn (cst l a i) i d k xs s → inv xs2 s2 → Ev (fun q => spec_BestSwap.l0 q l a xs2 (sp xs2 s2) ((i + 1 : Nat) : Int)) r) → Ev (fun q => spec_BestSwap.l1 q l a xs (sp xs s) (i : Int) (k : Int)) r := by
  intro d
  induction d with
  | zero =>
    intro k xs s hk hv h
    refine Ev.step (fun k => by simp only [spec_BestSwap.l1]; rfl) (ev_neg (by omega) ?_)
    rw [wsucc hi (by omega)]
    exact h xs s rfl hv
  | succ d ih =>
    intro k xs s hk hv h
    have hkt : k < l.length := by omega
    refine Ev.step (fun k => by simp only [spec_BestSwap.l1]; rfl) (ev_pos (by omega) (ev_pos (by omega) ?_))
    refine ev_pos (by omega) ?_
    refine ev_pos (by omega) ?_
    refine ev_call (spec_cost hg a ha i k hi hkt) ?_
    rw [wsucc hkt (by omega)]
    have hc : 0 ≤ cst l a i k := mx_abs _
    have hs : sp [(i : Int), (k : Int)] (cst l a i k) = cst l a i k := rfl
    have hv2 : inv [(i : Int), (k : Int)] (cst l a i k) := ⟨Or.inr hc, Nat.le_refl _⟩
    by_cases h0 : xs.length = 0
    · refine ev_pos (by unfold sp; rw [if_pos h0]; omega) ?_
      have := ih (k + 1) [(i : Int), (k : Int)] (cst l a i k) (by omega) hv2 (fun xs2 s2 e hv3 => h xs2 s2 (by rw [e, inn, if_pos (Or.inl h0)]) hv3)
      rw [hs] at this
      exact this
    · have hsv : sp xs s = s := by unfold sp; rw [if_neg h0]
      have h0s : 0 ≤ s := hv.1.resolve_left h0
      refine ev_neg (by rw [hsv]; omega) ?_
      by_cases h1 : cst l a i k < s
      · refine ev_pos (by rw [hsv]; exact h1) ?_
        have := ih (k + 1) [(i : Int), (k : Int)] (cst l a i k) (by omega) hv2 (fun xs2 s2 e hv3 => h xs2 s2 (by rw [e, inn, if_pos (Or.inr h1)]) hv3)
        rw [hs] at this
        exact this
      · refine ev_neg (by rw [hsv]; exact h1) ?_
        exact ih (k + 1) xs s (by omega) hv (fun xs2 s2 e hv3 => h xs2 s2 (by rw [e, inn, if_neg (fun h2 => h2.elim h0 h1)]) hv3)
theorem inn_impl {l : List L} (hn : l.length ≤ 1048576) (hg : l.all okL = true) (a : Int) (ha : -128000000 ≤ a ∧ a ≤ 128000000) (i : Nat) (hi : i < l.length) (r : List Int × Int × Bool) : ∀ d k xs s, k + d = l.length → inv xs s →
    (∀ xs2 s2, (xs2, s2) = inn (cst l a i) i d k xs s → inv xs2 s2 → Ev (fun q => impl_BestSwap.l0 q l a xs2 s2 l (l.length : Int) ((i + 1 : Nat) : Int)) r) → Ev (fun q => impl_BestSwap.l1 q l a xs s (i : Int) (k : Int) l (l.length : Int) (i : Int) (rdl l i).f0 (rdl l i).f1 (rdl l i).f2) r := by
  intro d
  induction d with
  | zero =>
    intro k xs s hk hv h
    refine Ev.step (fun k => by simp only [impl_BestSwap.l1]; rfl) (ev_neg (by omega) ?_)
    rw [wsucc hi (by omega)]
    exact h xs s rfl hv
  | succ d ih =>
    intro k xs s hk hv h
    have hkt : k < l.length := by omega
    refine Ev.step (fun k => by simp only [impl_BestSwap.l1]; rfl) (ev_pos (by omega) (ev_pos (by omega) ?_))
    refine ev_call (impl_cost hg a ha i k hi hkt) ?_
    rw [wsucc hkt (by omega)]
    have hc : 0 ≤ cst l a i k := mx_abs _
    have hv2 : inv [(i : Int), (k : Int)] (cst l a i k) := ⟨Or.inr hc, Nat.le_refl _⟩
    by_cases h0 : xs.length = 0
    · refine ev_pos (by omega) ?_
      exact ih (k + 1) [(i : Int), (k : Int)] (cst l a i k) (by omega) hv2 (fun xs2 s2 e hv3 => h xs2 s2 (by rw [e, inn, if_pos (Or.inl h0)]) hv3)
    · refine ev_neg (by omega) ?_
      by_cases h1 : cst l a i k < s
      · refine ev_pos h1 ?_
        exact ih (k + 1) [(i : Int), (k : Int)] (cst l a i k) (by omega) hv2 (fun xs2 s2 e hv3 => h xs2 s2 (by rw [e, inn, if_pos (Or.inr h1)]) hv3)
      · refine ev_neg h1 ?_
        exact ih (k + 1) xs s (by omega) hv (fun xs2 s2 e hv3 => h xs2 s2 (by rw [e, inn, if_neg (fun h2 => h2.elim h0 h1)]) hv3)
theorem out_spec {l : List L} (hn : l.length ≤ 1048576) (hg : l.all okL = true) (a : Int) (ha : -128000000 ≤ a ∧ a ≤ 128000000) : ∀ d i xs s, i + d = l.length → inv xs s →
    Ev (fun q => spec_BestSwap.l0 q l a xs (sp xs s) (i : Int)) ((out (cst l a) l.length d i xs s).1, sp (out (cst l a) l.length d i xs s).1 (out (cst l a) l.length d i xs s).2, true) ∧
    Ev (fun q => impl_BestSwap.l0 q l a xs s l (l.length : Int) (i : Int)) ((out (cst l a) l.length d i xs s).1, (out (cst l a) l.length d i xs s).2, true) := by
  intro d
  induction d with
  | zero =>
    intro i xs s hi hv
    exact ⟨Ev.step (fun k => by simp only [spec_BestSwap.l0]; rfl) (ev_neg (by omega) (ev_const rfl)), Ev.step (fun k => by simp only [impl_BestSwap.l0]; rfl) (ev_neg (by omega) (ev_const rfl))⟩
  | succ d ih =>
    intro i xs s hi hv
    have hlt : i < l.length := by omega
    refine ⟨Ev.step (fun k => by simp only [spec_BestSwap.l0]; rfl) (ev_pos (by omega) ?_), Ev.step (fun k => by simp only [impl_BestSwap.l0]; rfl) (ev_pos (by omega) (ev_pos (by omega) (ev_pos (by omega) ?_)))⟩
    · rw [wsucc hlt (by omega)]
      refine inn_spec hn hg a ha i hlt _ (l.length - (i + 1)) (i + 1) xs s (by omega) hv (fun xs2 s2 e hv2 => ?_)
      have h := (ih (i + 1) xs2 s2 (by omega) hv2).1
      rw [show out (cst l a) l.length (d + 1) i xs s = out (cst l a) l.length d (i + 1) xs2 s2 by rw [out, ← e]]
      exact h
    · rw [wsucc hlt (by omega)]
      refine inn_impl hn hg a ha i hlt _ (l.length - (i + 1)) (i + 1) xs s (by omega) hv (fun xs2 s2 e hv2 => ?_)
      have h := (ih (i + 1) xs2 s2 (by omega) hv2).2
      rw [show out (cst l a) l.length (d + 1) i xs s = out (cst l a) l.length d (i + 1) xs2 s2 by rw [out, ← e]]
      exact h
theorem inn_two (c : Nat → Int) (i : Nat) : ∀ d k xs s, xs.length = 2 → (inn c i d k xs s).1.length = 2
  | 0, _, _, _, h => h
  | d + 1, k, xs, s, h => by
    unfold inn
    split
    · exact inn_two c i d _ _ _ rfl
    · exact inn_two c i d _ _ _ h
theorem out_two (c : Nat → Nat → Int) (n : Nat) : ∀ d i xs s, xs.length = 2 → (out c n d i xs s).1.length = 2
  | 0, _, _, _, h => h
  | d + 1, i, xs, s, h => out_two c n d _ _ _ (inn_two (c i) i _ _ _ _ h)
theorem out_full (c : Nat → Nat → Int) (n : Nat) (hn : 2 ≤ n) : (out c n n 0 [] 0).1.length = 2 := by
  obtain ⟨m, rfl⟩ : ∃ m, n = m + 2 := ⟨n - 2, by omega⟩
  rw [out]
  refine out_two c _ _ _ _ _ ?_
  rw [show m + 2 - (0 + 1) = m + 1 by omega, inn, if_pos (Or.inl (show ([] : List Int).length = 0 from rfl))]
  exact inn_two _ _ _ _ _ _ rfl
theorem swap_same (l : List L) (hn : l.length ≤ 1048576) : ∃ (xs : List Int) (s : Int) (b : Bool), xs.length ≤ 2 ∧ Ev (fun k => spec_BestSwap.f k l) (xs, s, b) ∧ Ev (fun k => impl_BestSwap.f k l) (xs, s, b) := by
  unfold spec_BestSwap.f impl_BestSwap.f
  have fs : Ev (fun k => spec_BestSwap.j0 k l true) ([], 0, false) := Ev.step (fun k => by simp only [spec_BestSwap.j0]; rfl) (ev_pos trivial (ev_const rfl))
  have fi : Ev (fun k => impl_BestSwap.j0 k l true) ([], 0, false) := Ev.step (fun k => by simp only [impl_BestSwap.j0]; rfl) (ev_pos trivial (ev_const rfl))
  cases hg : good l
  · exact ⟨_, _, _, Nat.zero_le _, Ev.bind (hg ▸ good_spec l (by omega)) (ev_neg (by simp) fs), Ev.bind (hg ▸ good_impl l (by omega)) (ev_neg (by simp) fi)⟩
  · by_cases h2 : (l.length : Int) < 2
    · exact ⟨_, _, _, Nat.zero_le _, Ev.bind (hg ▸ good_spec l (by omega)) (ev_pos rfl (by rw [decide_eq_true h2]; exact fs)), Ev.bind (hg ▸ good_impl l (by omega)) (ev_pos rfl (by rw [decide_eq_true h2]; exact fi))⟩
    · have hm := mom_good l hg
      have hg2 := hg
      unfold good at hg2
      rw [Bool.and_eq_true] at hg2
      have h := out_spec hn hg2.1 (mom l (0, 0, 0)).2.1 (by omega) l.length 0 [] 0 (by omega) ⟨Or.inl rfl, Nat.zero_le _⟩
      have hf := out_full (cst l (mom l (0, 0, 0)).2.1) l.length (by omega)
      rw [show sp [] 0 = -1 from rfl] at h
      have e : sp (out (cst l (mom l (0, 0, 0)).2.1) l.length l.length 0 [] 0).1 (out (cst l (mom l (0, 0, 0)).2.1) l.length l.length 0 [] 0).2 = (out (cst l (mom l (0, 0, 0)).2.1) l.length l.length 0 [] 0).2 := by
        unfold sp
        rw [if_neg (by omega)]
      rw [e] at h
      refine ⟨(out (cst l (mom l (0, 0, 0)).2.1) l.length l.length 0 [] 0).1, (out (cst l (mom l (0, 0, 0)).2.1) l.length l.length 0 [] 0).2, true, Nat.le_of_eq hf, Ev.bind (hg ▸ good_spec l (by omega)) (ev_pos rfl ?_), Ev.bind (hg ▸ good_impl l (by omega)) (ev_pos rfl ?_)⟩
      · rw [decide_eq_false h2]
        exact Ev.step (fun k => by simp only [spec_BestSwap.j0]; rfl) (ev_neg (by simp) (Ev.bind (mom_spec l (by omega)) h.1))
      · rw [decide_eq_false h2]
        exact Ev.step (fun k => by simp only [impl_BestSwap.j0]; rfl) (ev_neg (by simp) (Ev.bind (mom_impl l (by omega)) h.2))
end Go.Proofs.Ytcklpjdkhbfikaa.US
