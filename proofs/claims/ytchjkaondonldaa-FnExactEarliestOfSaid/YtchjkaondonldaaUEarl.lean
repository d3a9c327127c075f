/- Stacks of a yard: the earliest number, where a number stands, which stack is chosen. -/
import Derived.Test.YtchjkaondonldaaPx0
import Derived.Test.YtchjkaondonldaaPx13
import Derived.Test.YtchjkaondonldaaPx16
import Derived.Test.YtchjkaondonldaaPx17
import Derived.Test.YtchjkaondonldaaPx18
import Derived.Test.YtchjkaondonldaaPx8
import Derived.Test.YtchjkaondonldaaUYard
namespace Go.Proofs.Ytchjkaondonldaa.UY
open Go.RowKit Go.Proofs.YtchjkaondonldaaW.PrintWords Go.Proofs.YtchjkaondonldaaW.PrintMore Go.Proofs.Ytchjkaondonldaa.P Go.Proofs.Ytchjkaondonldaa.U Go.Proofs.Ytchjkaondonldaa.UT
set_option linter.unusedVariables false

/-! A valid yard. -/
theorem chkRow_mem : ∀ (l s t : List Int), chkRow l s = some t → ∀ n, n ∈ l → inr n 1 99 = true
  | [], _, _, _, n, hn => by cases hn
  | x :: l, s, t, h, n, hn => by
    unfold chkRow at h
    split at h
    · rename_i hc
      rw [Bool.and_eq_true] at hc
      rcases List.mem_cons.mp hn with rfl | hn
      · exact hc.1
      · exact chkRow_mem l _ _ h n hn
    · cases h
theorem chkRows_mem (cap : Int) : ∀ (l : List (List Int)) (s t : List Int), chkRows cap l s = some t → ∀ x, x ∈ l → (x.length : Int) ≤ cap ∧ ∀ n, n ∈ x → inr n 1 99 = true
  | [], _, _, _, x, hx => by cases hx
  | r :: l, s, t, h, x, hx => by
    unfold chkRows at h
    split at h
    · rename_i hc
      cases h1 : chkRow r s with
      | none => rw [h1] at h; cases h
      | some u =>
        rw [h1] at h
        rcases List.mem_cons.mp hx with rfl | hx
        · exact ⟨hc, chkRow_mem _ _ _ h1⟩
        · exact chkRows_mem cap l _ _ h x hx
    · cases h
theorem okYard_mem {l : List (List Int)} (h : okYard l = true) : (1 ≤ l.length ∧ l.length ≤ 6) ∧ ∀ x, x ∈ l → x.length ≤ 4 ∧ ∀ n, n ∈ x → 1 ≤ n ∧ n ≤ 99 := by
  unfold okYard at h
  rw [Bool.and_eq_true, inr_iff] at h
  obtain ⟨h1, h2⟩ := h
  obtain ⟨t, ht⟩ := Option.isSome_iff_exists.mp h2
  refine ⟨⟨by omega, by omega⟩, fun x hx => ?_⟩
  obtain ⟨h3, h4⟩ := chkRows_mem 4 l _ _ ht x hx
  exact ⟨by omega, fun n hn => inr_iff.mp (h4 n hn)⟩

/-! The earliest number of a stack. -/
def earl (l : List Int) : Int := l.foldl mn 100
theorem mnL_fold : ∀ (l : List Int) (m : Int), mnL l m = l.foldl mn m
  | [], m => rfl
  | x :: l, m => by rw [mnL, mnL_fold l]; rfl
theorem earl_l (l : List Int) (hn : l.length ≤ 1048576) : ∀ d i (m : Int), i + d = l.length → Ev (fun k => spec_l8Earliest.l0 k l m (i : Int)) ((l.drop i).foldl mn m) := by
  intro d
  induction d with
  | zero =>
    intro i m hi
    refine Ev.step (fun k => by simp only [spec_l8Earliest.l0]; rfl) ?_
    refine ev_neg (by omega) (ev_const ?_)
    rw [List.drop_of_length_le (by omega)]; rfl
  | succ d ih =>
    intro i m hi
    have hlt : i < l.length := by omega
    refine Ev.step (fun k => by simp only [spec_l8Earliest.l0]; rfl) ?_
    refine ev_pos (by omega) (ev_pos (by omega) ?_)
    rw [rd_at l i hlt, wsucc hlt (by omega), List.drop_eq_getElem_cons hlt]
    have e : spec_l1Least.f m l[i] = some (mn m l[i]) := by
      unfold spec_l1Least.f mn
      by_cases h : m < l[i]
      · rw [if_pos h, if_neg (by omega)]
      · rw [if_neg h]
        by_cases h2 : l[i] < m
        · rw [if_pos h2]
        · rw [if_neg h2, show l[i] = m by omega]
    exact ev_call e (ih (i + 1) _ (by omega))
theorem earl_spec (l : List Int) (hn : l.length ≤ 1048576) : Ev (fun k => spec_l8Earliest.f k l) (earl l) := by
  unfold spec_l8Earliest.f
  exact earl_l l hn l.length 0 100 (by omega)
theorem earl_impl (l : List Int) (hx : ∀ n, n ∈ l → n ≤ 99) : impl_earliestOf.f l = some (earl l) := by
  unfold impl_earliestOf.f earl
  cases l with
  | nil => rfl
  | cons x l =>
    have h := hx x (List.mem_cons_self ..)
    rw [if_neg (by simp; omega)]
    show (some (mnL l x)).bind _ = _
    rw [Option.bind_some, mnL_fold, List.foldl_cons, show mn 100 x = x from if_pos (by omega)]

/-! A stack of a yard. -/
def hasS (l : List (List Int)) (s : Int) : Bool := okYard l && inr s 0 ((l.length : Int) - 1)
theorem stack_spec (l : List (List Int)) (hn : l.length ≤ 1048576) (hx : ∀ x, x ∈ l → x.length ≤ 1048576) (s : Int) : Ev (fun k => spec_l5Stack.f k l s) (hasS l s) := by
  unfold spec_l5Stack.f hasS
  refine Ev.bind (good_spec l hn hx) ?_
  rw [wr (x := (l.length : Int) - 1) (by omega) (by omega)]
  cases okYard l
  · exact ev_neg (by simp) (ev_const rfl)
  · exact ev_pos rfl (ev_call (in_spec _ _ _) (ev_const rfl))
theorem stacks_one (l : List (List Int)) (s : Int) : okStacks l [s] = hasS l s := by
  unfold okStacks hasS
  simp
theorem stack_impl (l : List (List Int)) (s : Int) : impl_hasStack.f l [s] = some (hasS l s) := by
  unfold impl_hasStack.f
  rw [stacks_one]
theorem hasS_in {l : List (List Int)} {s : Int} (h : hasS l s = true) : okYard l = true ∧ 0 ≤ s ∧ s < (l.length : Int) := by
  unfold hasS at h
  rw [Bool.and_eq_true, inr_iff] at h
  exact ⟨h.1, by omega, by omega⟩
theorem rdl_mem {l : List (List Int)} {s : Int} (h0 : 0 ≤ s) (h1 : s < (l.length : Int)) : rd_L1 l s ∈ l := by
  obtain ⟨n, rfl⟩ := Int.eq_ofNat_of_zero_le h0
  have h : n < l.length := by omega
  rw [show rd_L1 l (n : Int) = l[n] from rd_l1 l n h]
  exact List.getElem_mem h
theorem earl_at {l : List (List Int)} (h : okYard l = true) {s : Int} (h0 : 0 ≤ s) (h1 : s < (l.length : Int)) : impl_earliestOf.f (rd_L1 l s) = some (earl (rd_L1 l s)) ∧ Ev (fun k => spec_l8Earliest.f k (rd_L1 l s)) (earl (rd_L1 l s)) := by
  obtain ⟨h2, h3⟩ := (okYard_mem h).2 _ (rdl_mem h0 h1)
  exact ⟨earl_impl _ (fun n hn => (h3 n hn).2), earl_spec _ (by omega)⟩

theorem earliest_same (l : List (List Int)) (hn : l.length ≤ 1048576) (hx : ∀ x, x ∈ l → x.length ≤ 1048576) (a : Int) :
    ∃ r, Ev (fun k => spec_EarliestOf.f k l a) r ∧ Ev (fun _ => impl_EarliestOf.f l a) r := by
  unfold spec_EarliestOf.f impl_EarliestOf.f
  have h1 := stack_spec l hn hx a
  rw [stack_impl]
  cases h : hasS l a
  · rw [h] at h1
    exact ⟨_, Ev.bind h1 (ev_neg (by simp) (ev_const rfl)), ev_const rfl⟩
  · rw [h] at h1
    obtain ⟨h2, h3, h4⟩ := hasS_in h
    obtain ⟨e1, e2⟩ := earl_at h2 h3 h4
    refine ⟨_, Ev.bind h1 (ev_pos rfl (ev_pos h3 (ev_pos h4 (Ev.bind e2 (ev_const rfl))))), ev_const ?_⟩
    rw [Option.bind_some, if_pos rfl, if_pos h3, if_pos h4, e1]; rfl
end Go.Proofs.Ytchjkaondonldaa.UY
