/- How often each rule is broken: the reference's and the program's. -/
import Derived.Test.YtgeakpogmjbjkaaPx0
import Derived.Test.YtgeakpogmjbjkaaPx11
import Derived.Test.YtgeakpogmjbjkaaPx5
import Derived.Test.YtgeakpogmjbjkaaUFoundIn
namespace Go.Proofs.Ytgeakpogmjbjkaa.UF
open Go.RowKit Go.Proofs.YtgeakpogmjbjkaaW.PrintWords Go.Proofs.YtgeakpogmjbjkaaW.PrintMore Go.Proofs.Ytgeakpogmjbjkaa.P Go.Proofs.Ytgeakpogmjbjkaa.U Go.Proofs.Ytgeakpogmjbjkaa.UT Go.Proofs.Ytgeakpogmjbjkaa.UY Go.Proofs.Ytgeakpogmjbjkaa.UC
set_option linter.unusedVariables false

theorem rd_f (l : List F) (i : Nat) (h : i < l.length) : rd_T59 l (i : Int) = l[i] := by
  unfold rd_T59
  rw [Int.toNat_natCast]
  exact getD_at l i _ h
def tal : List F → List Int → List Int
  | [], c => c
  | x :: l, c => tal l (c.set (x.f0 - 1).toNat (wrap64 (rd c (x.f0 - 1) + 1)))
theorem tal_len : ∀ (l : List F) (c : List Int), (tal l c).length = c.length
  | [], _ => rfl
  | x :: l, c => by rw [tal, tal_len l, List.length_set]
theorem tal_spec (l : List F) (hn : l.length ≤ 1048576) (hr : ∀ f, f ∈ l → 1 ≤ f.f0 ∧ f.f0 ≤ 4) : ∀ d i (c : List Int), i + d = l.length → c.length = 4 → Ev (fun k => spec_CountFindings.l0 k c l (i : Int)) (tal (l.drop i) c, true) := by
  intro d
  induction d with
  | zero =>
    intro i c hi hc
    refine Ev.step (fun k => by simp only [spec_CountFindings.l0]; rfl) (ev_neg (by omega) (ev_const ?_))
    rw [List.drop_of_length_le (by omega)]; rfl
  | succ d ih =>
    intro i c hi hc
    have hlt : i < l.length := by omega
    obtain ⟨h1, h4⟩ := hr _ (List.getElem_mem hlt)
    refine Ev.step (fun k => by simp only [spec_CountFindings.l0]; rfl) (ev_pos (by omega) (ev_pos (by omega) ?_))
    rw [rd_f l i hlt, wr (x := l[i].f0 - 1) (by omega) (by omega), wsucc hlt (by omega), List.drop_eq_getElem_cons hlt]
    exact ev_pos (by omega) (ev_pos (by omega) (ih (i + 1) _ (by omega) (by rw [List.length_set]; exact hc)))
theorem tal_impl (l : List F) (hn : l.length ≤ 1048576) (hr : ∀ f, f ∈ l → 1 ≤ f.f0 ∧ f.f0 ≤ 4) : ∀ d i (c : List Int), i + d = l.length → c.length = 4 → Ev (fun k => impl_CountFindings.l0 k c l (l.length : Int) (i : Int)) (tal (l.drop i) c, true) := by
  intro d
  induction d with
  | zero =>
    intro i c hi hc
    refine Ev.step (fun k => by simp only [impl_CountFindings.l0]; rfl) (ev_neg (by omega) (ev_const ?_))
    rw [List.drop_of_length_le (by omega)]; rfl
  | succ d ih =>
    intro i c hi hc
    have hlt : i < l.length := by omega
    obtain ⟨h1, h4⟩ := hr _ (List.getElem_mem hlt)
    refine Ev.step (fun k => by simp only [impl_CountFindings.l0]; rfl) (ev_pos (by omega) (ev_pos (by omega) (ev_pos (by omega) ?_)))
    rw [rd_f l i hlt, wr (x := l[i].f0 - 1) (by omega) (by omega), wsucc hlt (by omega), List.drop_eq_getElem_cons hlt]
    exact ev_pos (by omega) (ev_pos (by omega) (ih (i + 1) _ (by omega) (by rw [List.length_set]; exact hc)))
theorem count_same (l : List (List Int)) (cs : List C) (a : Int) (hn : l.length ≤ 1048576) (hx : ∀ x, x ∈ l → x.length ≤ 1048576) (hc : cs.length ≤ 1048576) :
    ∃ (r : List Int) (b : Bool), Ev (fun k => spec_CountFindings.f k l cs a) (r, b) ∧ Ev (fun k => impl_CountFindings.f k l cs a) (r, b) ∧ r.length ≤ 1048576 := by
  unfold spec_CountFindings.f impl_CountFindings.f
  have h1 := ask_spec l cs a hn hx hc
  have h2 := ask_impl l cs a hn hx hc
  cases h : okAsk l cs a
  · rw [h] at h1 h2
    exact ⟨[], false, Ev.bind h1 (ev_neg (by simp) (ev_const rfl)), Ev.bind h2 (ev_neg (by simp) (ev_const rfl)), by simp⟩
  · rw [h] at h1 h2
    obtain ⟨hy, hb⟩ := okAsk_in h
    obtain ⟨g1, g2⟩ := found_in (cs := cs) (a := a) hy
    have hr := fun f hf => (g2 f hf).2
    refine ⟨tal (found l cs a) (List.replicate 4 0), true, Ev.bind h1 (ev_pos rfl (ev_pos (by omega) (Ev.bind (found_spec hy hb a) (tal_spec _ (by omega) hr _ 0 _ (Nat.zero_add _) (by simp))))), Ev.bind h2 (ev_pos rfl (ev_pos (by omega) (Ev.bind (found_impl hy hb a) (tal_impl _ (by omega) hr _ 0 _ (Nat.zero_add _) (by simp))))), ?_⟩
    rw [tal_len]; simp
end Go.Proofs.Ytgeakpogmjbjkaa.UF
