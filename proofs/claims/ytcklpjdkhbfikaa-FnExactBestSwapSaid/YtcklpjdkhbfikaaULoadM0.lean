/- Marked and held: the laws' test that a result shares no memory, over lists of loads. -/
import Derived.Test.YtcklpjdkhbfikaaPx0
import Derived.Test.YtcklpjdkhbfikaaPx4
import Derived.Test.YtcklpjdkhbfikaaULoad
namespace Go.Proofs.Ytcklpjdkhbfikaa.UL
open Go.RowKit Go.Proofs.YtcklpjdkhbfikaaW.PrintWords Go.Proofs.YtcklpjdkhbfikaaW.PrintMore Go.Proofs.Ytcklpjdkhbfikaa.P Go.Proofs.Ytcklpjdkhbfikaa.U
set_option linter.unusedVariables false

def mkL (m : Nat) (n : Int) : List L := (List.range m).map fun j : Nat => ⟨n + 3 * (j : Int), n + 3 * (j : Int) + 1, n + 3 * (j : Int) + 2⟩
theorem mkL_length (m : Nat) (n : Int) : (mkL m n).length = m := by simp [mkL]
theorem mkL_get (m : Nat) (n : Int) (i : Nat) (h : i < (mkL m n).length) : (mkL m n)[i] = ⟨n + 3 * i, n + 3 * i + 1, n + 3 * i + 2⟩ := by simp [mkL]
theorem rd_set (l : List L) (i : Nat) (h : i < l.length) (v : L) : rd_T39 (l.set i v) (i : Int) = v := by
  rw [rd_l _ i (by simpa using h)]
  simp
theorem mark_l (n : Int) (hn : 0 ≤ n ∧ n ≤ 1000) (m : Nat) (hm : m ≤ 1048576) : ∀ d i (acc : List L), i + d = m → acc.length = m → acc.take i = (mkL m n).take i → Ev (fun k => laws_markLoadS.l0 k acc (n + 3 * i) (i : Int)) (n + 3 * m, mkL m n) := by
  intro d
  induction d with
  | zero =>
    intro i acc hi ha ht
    refine Ev.step (fun k => by simp only [laws_markLoadS.l0]; rfl) (ev_neg (by omega) (ev_const ?_))
    rw [List.take_of_length_le (by omega), List.take_of_length_le (by rw [mkL_length]; omega)] at ht
    rw [ht, show i = m by omega]
  | succ d ih =>
    intro i acc hi ha ht
    have hlt : i < acc.length := by omega
    refine Ev.step (fun k => by simp only [laws_markLoadS.l0]; rfl) ?_
    refine ev_pos (by omega) (ev_pos (by omega) ?_)
    refine ev_call rfl ?_
    refine ev_call rfl ?_
    rw [wsucc (n := m) (by omega) (by omega), Int.toNat_natCast, wr (x := n + 3 * (i : Int) + 1) (by omega) (by omega), wr (x := n + 3 * (i : Int) + 1 + 1) (by omega) (by omega), wr (x := n + 3 * (i : Int) + 1 + 1 + 1) (by omega) (by omega)]
    rw [rd_set _ i hlt, rd_set _ i (by simpa using hlt), List.set_set, List.set_set]
    rw [show n + 3 * (i : Int) + 1 + 1 + 1 = n + 3 * ((i + 1 : Nat) : Int) by omega]
    refine ih (i + 1) _ (by omega) (by rw [List.length_set]; exact ha) ?_
    rw [fill_step ht hlt, List.take_succ_eq_append_getElem (show i < (mkL m n).length by rw [mkL_length]; omega), mkL_get]
    rw [show n + 3 * (i : Int) + 1 + 1 = n + 3 * (i : Int) + 2 by omega]
theorem mark_ev (l : List L) (hm : l.length ≤ 1048576) : Ev (fun k => laws_markLoadS.f k l 1) (1 + 3 * (l.length : Int), mkL l.length 1) := by
  unfold laws_markLoadS.f
  have h := mark_l 1 (by omega) l.length hm l.length 0 l (by omega) rfl (by simp)
  exact h
end Go.Proofs.Ytcklpjdkhbfikaa.UL
