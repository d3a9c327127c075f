/- Findings marked and held; the findings themselves. -/
import Derived.Test.YtgeakpogmjbjkaaPx0
import Derived.Test.YtgeakpogmjbjkaaPx13
import Derived.Test.YtgeakpogmjbjkaaPx14
import Derived.Test.YtgeakpogmjbjkaaPx8
import Derived.Test.YtgeakpogmjbjkaaUFoundIn
namespace Go.Proofs.Ytgeakpogmjbjkaa.UF
open Go.RowKit Go.Proofs.YtgeakpogmjbjkaaW.PrintWords Go.Proofs.YtgeakpogmjbjkaaW.PrintMore Go.Proofs.Ytgeakpogmjbjkaa.P Go.Proofs.Ytgeakpogmjbjkaa.U Go.Proofs.Ytgeakpogmjbjkaa.UT Go.Proofs.Ytgeakpogmjbjkaa.UY Go.Proofs.Ytgeakpogmjbjkaa.UC
set_option linter.unusedVariables false

theorem rd_f (l : List F) (i : Nat) (h : i < l.length) : rd_T59 l (i : Int) = l[i] := by
  unfold rd_T59
  rw [Int.toNat_natCast]
  exact getD_at l i _ h
theorem eqf_l (l : List F) (hn : l.length ≤ 9223372036854775807) : ∀ d i, i + d = l.length → Ev (fun k => laws_eqYardFindingS.l0 k l l (i : Int)) true := by
  intro d
  induction d with
  | zero => intro i hi; exact Ev.step (fun k => by simp only [laws_eqYardFindingS.l0]; rfl) (ev_neg (by omega) (ev_const rfl))
  | succ d ih =>
    intro i hi
    have hlt : i < l.length := by omega
    refine Ev.step (fun k => by simp only [laws_eqYardFindingS.l0]; rfl) (ev_pos (by omega) (ev_pos (by omega) (ev_pos (by omega) ?_)))
    rw [wsucc hlt (by omega)]
    refine ev_call (a := true) (by unfold laws_eqYardFinding.f; rw [if_pos rfl, if_pos rfl, if_pos rfl]) (ev_pos rfl (ih (i + 1) (by omega)))
theorem eqf_ev (l : List F) (hn : l.length ≤ 9223372036854775807) : Ev (fun k => laws_eqYardFindingS.f k l l) true := by
  unfold laws_eqYardFindingS.f
  exact ev_pos rfl (eqf_l l hn l.length 0 (by omega))
def mkF (m : Nat) (n : Int) : List F := (List.range m).map fun j : Nat => ⟨n + 3 * (j : Int), n + 3 * (j : Int) + 1, n + 3 * (j : Int) + 2⟩
theorem mkF_length (m : Nat) (n : Int) : (mkF m n).length = m := by simp [mkF]
theorem mkF_get (m : Nat) (n : Int) (i : Nat) (h : i < (mkF m n).length) : (mkF m n)[i] = ⟨n + 3 * i, n + 3 * i + 1, n + 3 * i + 2⟩ := by simp [mkF]
theorem rdf_set (l : List F) (i : Nat) (h : i < l.length) (v : F) : rd_T59 (l.set i v) (i : Int) = v := by
  rw [rd_f _ i (by simpa using h)]
  simp
theorem markF_l (n : Int) (hn : 0 ≤ n ∧ n ≤ 1000) (m : Nat) (hm : m ≤ 1048576) : ∀ d i (acc : List F), i + d = m → acc.length = m → acc.take i = (mkF m n).take i → Ev (fun k => laws_markYardFindingS.l0 k acc (n + 3 * i) (i : Int)) (n + 3 * m, mkF m n) := by
  intro d
  induction d with
  | zero =>
    intro i acc hi ha ht
    refine Ev.step (fun k => by simp only [laws_markYardFindingS.l0]; rfl) (ev_neg (by omega) (ev_const ?_))
    rw [List.take_of_length_le (by omega), List.take_of_length_le (by rw [mkF_length]; omega)] at ht
    rw [ht, show i = m by omega]
  | succ d ih =>
    intro i acc hi ha ht
    have hlt : i < acc.length := by omega
    refine Ev.step (fun k => by simp only [laws_markYardFindingS.l0]; rfl) ?_
    refine ev_pos (by omega) (ev_pos (by omega) ?_)
    refine ev_call rfl ?_
    refine ev_call rfl ?_
    rw [wsucc (n := m) (by omega) (by omega), Int.toNat_natCast, wr (x := n + 3 * (i : Int) + 1) (by omega) (by omega), wr (x := n + 3 * (i : Int) + 1 + 1) (by omega) (by omega), wr (x := n + 3 * (i : Int) + 1 + 1 + 1) (by omega) (by omega)]
    rw [rdf_set _ i hlt, rdf_set _ i (by simpa using hlt), List.set_set, List.set_set]
    rw [show n + 3 * (i : Int) + 1 + 1 + 1 = n + 3 * ((i + 1 : Nat) : Int) by omega]
    refine ih (i + 1) _ (by omega) (by rw [List.length_set]; exact ha) ?_
    rw [fill_step ht hlt, List.take_succ_eq_append_getElem (show i < (mkF m n).length by rw [mkF_length]; omega), mkF_get]
    rw [show n + 3 * (i : Int) + 1 + 1 = n + 3 * (i : Int) + 2 by omega]
theorem markF_ev (l : List F) (hm : l.length ≤ 1048576) : Ev (fun k => laws_markYardFindingS.f k l 1) (1 + 3 * (l.length : Int), mkF l.length 1) := by
  unfold laws_markYardFindingS.f
  have h := markF_l 1 (by omega) l.length hm l.length 0 l (by omega) rfl (by simp)
  exact h
theorem heldF_l (n : Int) (hn : 0 ≤ n ∧ n ≤ 1000) (m : Nat) (hm : m ≤ 1048576) : ∀ d i, i + d = m → Ev (fun k => laws_heldYardFindingS.l0 k (mkF m n) (n + 3 * i) (i : Int)) (n + 3 * m) := by
  intro d
  induction d with
  | zero =>
    intro i hi
    refine Ev.step (fun k => by simp only [laws_heldYardFindingS.l0]; rfl) (ev_neg (by rw [mkF_length]; omega) (ev_const ?_))
    rw [show i = m by omega]
  | succ d ih =>
    intro i hi
    have hlt : i < (mkF m n).length := by rw [mkF_length]; omega
    refine Ev.step (fun k => by simp only [laws_heldYardFindingS.l0]; rfl) (ev_pos (by omega) (ev_pos (by omega) ?_))
    rw [wsucc (n := m) (by omega) (by omega), wr (x := n + 3 * (i : Int) + 1) (by omega) (by omega), wr (x := n + 3 * (i : Int) + 1 + 1) (by omega) (by omega), wr (x := n + 3 * (i : Int) + 1 + 1 + 1) (by omega) (by omega), rd_f _ i hlt, mkF_get]
    refine ev_pos rfl (ev_pos rfl (ev_pos (by show n + 3 * (i : Int) + 2 = n + 3 * (i : Int) + 1 + 1; omega) ?_))
    rw [show n + 3 * (i : Int) + 1 + 1 + 1 = n + 3 * ((i + 1 : Nat) : Int) by omega]
    exact ih (i + 1) (by omega)
theorem heldF_ev (m : Nat) (hm : m ≤ 1048576) : Ev (fun k => laws_heldYardFindingS.f k (mkF m 1) 1) (1 + 3 * (m : Int)) := by
  unfold laws_heldYardFindingS.f
  exact heldF_l 1 (by omega) m hm m 0 (by omega)
theorem find_same (l : List (List Int)) (cs : List C) (a : Int) (hn : l.length ≤ 1048576) (hx : ∀ x, x ∈ l → x.length ≤ 1048576) (hc : cs.length ≤ 1048576) :
    ∃ (r : List F) (b : Bool), Ev (fun k => spec_YardFindings.f k l cs a) (r, b) ∧ Ev (fun k => impl_YardFindings.f k l cs a) (r, b) ∧ r.length ≤ 1048576 := by
  unfold spec_YardFindings.f impl_YardFindings.f
  have h1 := ask_spec l cs a hn hx hc
  have h2 := ask_impl l cs a hn hx hc
  cases h : okAsk l cs a
  · rw [h] at h1 h2
    exact ⟨[], false, Ev.bind h1 (ev_neg (by simp) (ev_const rfl)), Ev.bind h2 (ev_neg (by simp) (ev_const rfl)), by simp⟩
  · rw [h] at h1 h2
    obtain ⟨hy, hb⟩ := okAsk_in h
    obtain ⟨g1, g2⟩ := found_in (cs := cs) (a := a) hy
    exact ⟨found l cs a, true, Ev.bind h1 (ev_pos rfl (Ev.bind (found_spec hy hb a) (ev_const rfl))), Ev.bind h2 (ev_pos rfl (Ev.bind (found_impl hy hb a) (ev_const rfl))), by omega⟩
end Go.Proofs.Ytgeakpogmjbjkaa.UF
