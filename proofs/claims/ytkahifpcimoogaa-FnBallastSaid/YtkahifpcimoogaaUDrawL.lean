/- Drawn loads: they answer always, and are not many. -/
import Derived.Test.YtkahifpcimoogaaPx0
import Derived.Test.YtkahifpcimoogaaPx2
import Derived.Test.YtkahifpcimoogaaPx3
import Derived.Test.YtkahifpcimoogaaUDraw
namespace Go.Proofs.Ytkahifpcimoogaa.UD
open Go.RowKit Go.Proofs.YtkahifpcimoogaaW.PrintWords Go.Proofs.YtkahifpcimoogaaW.PrintMore Go.Proofs.Ytkahifpcimoogaa.P Go.Proofs.Ytkahifpcimoogaa.U
set_option linter.unusedVariables false

abbrev L := S38
theorem loads_more {c : List Int} (hc : codeOk c) (p : Nat) (a1 a2 a3 : Int) : ∀ d (l : List L) (i s : Int), l.length + d = 21 → p < l.length → 0 ≤ i ∧ i + 2 * d ≤ 999999900 →
    ∃ l2 j s', Ev (fun k => spec_l1Cur_loads.l1 k l (p : Int) c i s a1 a2 a3) (l2, j, s') ∧ l2.length ≤ 21 ∧ i ≤ j ∧ j ≤ i + 2 * d + 2 := by
  intro d
  induction d with
  | zero =>
    intro l i s hl hp hi
    obtain ⟨r, j, s1, e, h0, h1, h2, h3⟩ := pick_ev hc (s := s) (i := i) (n := 2) (by omega)
    refine ⟨l.set (p : Int).toNat ⟨a1, a2, a3⟩, j, s1, Ev.step (fun k => by simp only [spec_l1Cur_loads.l1]; rfl) (ev_call e ?_), by rw [List.length_set]; omega, by omega, by omega⟩
    dsimp only
    rw [wr (by omega) (by omega)]
    exact ev_neg (by omega) (ev_pos (by omega) (ev_pos (by omega) (ev_const rfl)))
  | succ d ih =>
    intro l i s hl hp hi
    obtain ⟨r, j, s1, e, h0, h1, h2, h3⟩ := pick_ev hc (s := s) (i := i) (n := 2) (by omega)
    by_cases hm : (l.length : Int) < 20 + r
    · obtain ⟨l2, j2, s2, e2, g1, g2, g3⟩ := ih (l ++ [⟨10, (l.length : Int), 0⟩]) j s1 (by rw [List.length_append, List.length_singleton]; omega) (by rw [List.length_append, List.length_singleton]; omega) (by omega)
      refine ⟨l2, j2, s2, Ev.step (fun k => by simp only [spec_l1Cur_loads.l1]; rfl) (ev_call e ?_), g1, by omega, by omega⟩
      dsimp only
      rw [wr (by omega) (by omega)]
      exact ev_pos hm (ev_pos (by omega) e2)
    · refine ⟨l.set (p : Int).toNat ⟨a1, a2, a3⟩, j, s1, Ev.step (fun k => by simp only [spec_l1Cur_loads.l1]; rfl) (ev_call e ?_), by rw [List.length_set]; omega, by omega, by omega⟩
      dsimp only
      rw [wr (by omega) (by omega)]
      exact ev_neg hm (ev_pos (by omega) (ev_pos (by omega) (ev_const rfl)))
theorem loads_end {c : List Int} (hc : codeOk c) (l : List L) (hl : l.length ≤ 6) (i s : Int) (hi : 0 ≤ i ∧ i ≤ 999999000) :
    ∃ l2 j s', Ev (fun k => spec_l1Cur_loads.l0 k l 0 c i s) (l2, j, s') ∧ l2.length ≤ 21 ∧ i ≤ j ∧ j ≤ i + 60 := by
  by_cases h0 : (l.length : Int) = 0
  · exact ⟨l, i, s, Ev.step (fun k => by simp only [spec_l1Cur_loads.l0]; rfl) (ev_neg (by omega) (ev_pos h0 (ev_const rfl))), by omega, by omega, by omega⟩
  obtain ⟨p, j, s1, e, p0, p1, p2, p3⟩ := pick_ev hc (s := s) (i := i) (n := (l.length : Int)) (by omega)
  have hp : p < (l.length : Int) := by rcases p1 with p1 | p1 <;> omega
  obtain ⟨q, j2, s2, e2, q0, q1, q2, q3⟩ := pick_ev hc (s := s1) (i := j) (n := 40) (by omega)
  obtain ⟨m, rfl⟩ := Int.eq_ofNat_of_zero_le p0
  have go : ∀ R, Ev (fun k => if q = 0 then ((spec_l1Cur_among.f c j2 s2 ([0, 32001] : List Int)).bind fun bt150 => (some ((l.set ((m : Int)).toNat (⟨bt150.1, (rd_T38 l (m : Int)).f1, (rd_T38 l (m : Int)).f2⟩ : L)), bt150.2.1, bt150.2.2))) else (if q = 1 then ((spec_l1Cur_among.f c j2 s2 (([(-201), 201] : List Int))).bind fun bt157 => (some ((l.set ((m : Int)).toNat (⟨(rd_T38 l (m : Int)).f0, bt157.1, (rd_T38 l (m : Int)).f2⟩ : L)), bt157.2.1, bt157.2.2))) else (if q = 2 then ((spec_l1Cur_among.f c j2 s2 (([(-1), 401] : List Int))).bind fun bt164 => (some ((l.set ((m : Int)).toNat (⟨(rd_T38 l (m : Int)).f0, (rd_T38 l (m : Int)).f1, bt164.1⟩ : L)), bt164.2.1, bt164.2.2))) else (if q = 3 then (spec_l1Cur_loads.l1 k l (m : Int) c j2 s2 ((rd_T38 l (m : Int)).f0) ((rd_T38 l (m : Int)).f1) ((rd_T38 l (m : Int)).f2)) else (some ((l.set ((m : Int)).toNat (⟨(rd_T38 l (m : Int)).f0, (rd_T38 l (m : Int)).f1, (rd_T38 l (m : Int)).f2⟩ : L)), j2, s2)))))) R → Ev (fun k => spec_l1Cur_loads.l0 k l 0 c i s) R := by
    intro R h
    exact Ev.step (fun k => by simp only [spec_l1Cur_loads.l0]; rfl) (ev_neg (by omega) (ev_neg h0 (ev_call e (ev_pos p0 (ev_pos hp (ev_call e2 h))))))
  by_cases c0 : q = 0
  · obtain ⟨r, j3, s3, e3, _, g1, g2⟩ := among_ev hc (s := s2) (i := j2) (by omega) [0, 32001] (by decide)
    exact ⟨_, _, _, go _ (ev_pos c0 (ev_call e3 (ev_const rfl))), by rw [List.length_set]; omega, by dsimp only; omega, by dsimp only; omega⟩
  by_cases c1 : q = 1
  · obtain ⟨r, j3, s3, e3, _, g1, g2⟩ := among_ev hc (s := s2) (i := j2) (by omega) [(-201), 201] (by decide)
    exact ⟨_, _, _, go _ (ev_neg c0 (ev_pos c1 (ev_call e3 (ev_const rfl)))), by rw [List.length_set]; omega, by dsimp only; omega, by dsimp only; omega⟩
  by_cases c2 : q = 2
  · obtain ⟨r, j3, s3, e3, _, g1, g2⟩ := among_ev hc (s := s2) (i := j2) (by omega) [(-1), 401] (by decide)
    exact ⟨_, _, _, go _ (ev_neg c0 (ev_neg c1 (ev_pos c2 (ev_call e3 (ev_const rfl))))), by rw [List.length_set]; omega, by dsimp only; omega, by dsimp only; omega⟩
  by_cases c3 : q = 3
  · obtain ⟨l2, j3, s3, e3, g1, g2, g3⟩ := loads_more hc m (rd_T38 l (m : Int)).f0 (rd_T38 l (m : Int)).f1 (rd_T38 l (m : Int)).f2 (21 - l.length) l j2 s2 (by omega) (by omega) (by omega)
    exact ⟨_, _, _, go _ (ev_neg c0 (ev_neg c1 (ev_neg c2 (ev_pos c3 e3)))), g1, by omega, by omega⟩
  · exact ⟨_, _, _, go _ (ev_neg c0 (ev_neg c1 (ev_neg c2 (ev_neg c3 (ev_const rfl))))), by rw [List.length_set]; omega, by omega, by omega⟩
theorem loads_l {c : List Int} (hc : codeOk c) : ∀ (d : Nat) (l : List L) (i s : Int), l.length + d ≤ 6 → 0 ≤ i ∧ i + 6 * d ≤ 999999000 →
    ∃ l2 j s', Ev (fun k => spec_l1Cur_loads.l0 k l (d : Int) c i s) (l2, j, s') ∧ l2.length ≤ 21 ∧ i ≤ j ∧ j ≤ i + 6 * d + 60 := by
  intro d
  induction d with
  | zero =>
    intro l i s hl hi
    obtain ⟨l2, j, s', h1, h2, h3, h4⟩ := loads_end hc l (by omega) i s (by omega)
    exact ⟨l2, j, s', h1, h2, h3, by omega⟩
  | succ d ih =>
    intro l i s hl hi
    obtain ⟨r1, j1, s1, e1, _, a1, b1⟩ := among_ev hc (s := s) (i := i) (by omega) [1, 100, 5000, 12000, 32000] (by decide)
    obtain ⟨r2, j2, s2, e2, _, a2, b2⟩ := among_ev hc (s := s1) (i := j1) (by omega) [(-200), (-50), (-7), 0, 3, 50, 120, 200] (by decide)
    obtain ⟨r3, j3, s3, e3, _, a3, b3⟩ := among_ev hc (s := s2) (i := j2) (by omega) [0, 20, 45, 130, 400] (by decide)
    obtain ⟨l2, j, s', h1, h2, h3, h4⟩ := ih (l ++ [⟨r1, r2, r3⟩]) j3 s3 (by rw [List.length_append, List.length_singleton]; omega) (by omega)
    refine ⟨l2, j, s', Ev.step (fun k => by simp only [spec_l1Cur_loads.l0]; rfl) (ev_pos (by omega) (ev_call e1 (ev_call e2 (ev_call e3 ?_)))), h2, by omega, by omega⟩
    refine ev_pos (by omega) ?_
    dsimp only
    rw [wr (by omega) (by omega), show ((d + 1 : Nat) : Int) - 1 = (d : Int) by omega]
    exact h1
theorem loads_ev {c : List Int} (hc : codeOk c) : ∃ l j s', Ev (fun k => spec_l1Cur_loads.f k c 0 0) (l, j, s') ∧ l.length ≤ 21 ∧ 0 ≤ j ∧ j ≤ 200 := by
  unfold spec_l1Cur_loads.f
  obtain ⟨r, j, s1, e, h0, h1, h2, h3⟩ := pick_ev hc (s := 0) (i := 0) (n := 6) (by omega)
  obtain ⟨d, rfl⟩ := Int.eq_ofNat_of_zero_le h0
  obtain ⟨l2, j2, s', g1, g2, g3, g4⟩ := loads_l hc d [] j s1 (by simp; omega) (by omega)
  exact ⟨l2, j2, s', ev_call e g1, g2, by omega, by omega⟩
end Go.Proofs.Ytkahifpcimoogaa.UD
