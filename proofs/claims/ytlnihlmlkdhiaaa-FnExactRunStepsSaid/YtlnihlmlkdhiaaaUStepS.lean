/- Lists of steps: the laws' helpers, their marks. -/
import Derived.Test.YtlnihlmlkdhiaaaPx0
import Derived.Test.YtlnihlmlkdhiaaaPx1
import Derived.Test.YtlnihlmlkdhiaaaPx13
import Derived.Test.YtlnihlmlkdhiaaaPx16
import Derived.Test.YtlnihlmlkdhiaaaPx6
import Derived.Test.YtlnihlmlkdhiaaaUTab
namespace Go.Proofs.Ytlnihlmlkdhiaaa.UQ
open Go.RowKit Go.Proofs.YtlnihlmlkdhiaaaW.PrintWords Go.Proofs.YtlnihlmlkdhiaaaW.PrintMore Go.Proofs.Ytlnihlmlkdhiaaa.P Go.Proofs.Ytlnihlmlkdhiaaa.U Go.Proofs.Ytlnihlmlkdhiaaa.UT
set_option linter.unusedVariables false

abbrev Q0 := S53
abbrev Q := S51
theorem rd_q0 (l : List Q0) (i : Nat) (h : i < l.length) : rd_T53 l (i : Int) = l[i] := by
  unfold rd_T53
  rw [Int.toNat_natCast]
  exact getD_at l i _ h
theorem rd_q (l : List Q) (i : Nat) (h : i < l.length) : rd_T51 l (i : Int) = l[i] := by
  unfold rd_T51
  rw [Int.toNat_natCast]
  exact getD_at l i _ h
def qv (x : Q0) : Q := ⟨x.f0, x.f1⟩
theorem szq_ev (l : List Q0) (hl : l.length ≤ 9223372036854775807) (n : Int) (hn : 0 ≤ n ∧ n ≤ 1048576) :
    ∃ m, laws_szStepS.f l n = some m ∧ m ≤ 1048576 ∧ (0 ≤ m → l.length ≤ 1048576) := by
  unfold laws_szStepS.f
  rw [wr (by omega) (by omega)]
  by_cases h : n - (l.length : Int) < 0
  · exact ⟨-1, by rw [if_pos h], by omega, fun h => by omega⟩
  · exact ⟨_, by rw [if_neg h], by omega, fun h => by omega⟩
theorem toq_l (l : List Q0) (hn : l.length ≤ 1048576) : ∀ d i (acc : List Q), i + d = l.length → acc.length = l.length → acc.take i = (l.take i).map qv → Ev (fun k => laws_toStepS.l0 k l acc (i : Int)) (l.map qv) := by
  intro d
  induction d with
  | zero =>
    intro i acc hi ha ht
    refine Ev.step (fun k => by simp only [laws_toStepS.l0]; rfl) (ev_neg (by omega) ?_)
    rw [List.take_of_length_le (by omega), List.take_of_length_le (by omega)] at ht
    exact ev_const (by rw [ht])
  | succ d ih =>
    intro i acc hi ha ht
    refine Ev.step (fun k => by simp only [laws_toStepS.l0]; rfl) (ev_pos (by omega) (ev_pos (by omega) (ev_call rfl (ev_pos (by omega) ?_))))
    rw [wsucc (show i < l.length by omega) (by omega), Int.toNat_natCast]
    refine ih (i + 1) _ (by omega) (by rw [List.length_set]; exact ha) ?_
    rw [fill_step ht (by omega), List.take_succ_eq_append_getElem (show i < l.length by omega), List.map_append]
    rw [rd_q0 l i (by omega)]
    rfl
theorem toq_ev (l : List Q0) (hn : l.length ≤ 1048576) : Ev (fun k => laws_toStepS.f k l) (l.map qv) := by
  unfold laws_toStepS.f
  refine ev_pos (by omega) (ev_pos (by omega) ?_)
  exact toq_l l hn l.length 0 _ (by omega) (by simp) (by simp)
theorem eqq_l (l : List Q) (hn : l.length ≤ 9223372036854775807) : ∀ d i, i + d = l.length → Ev (fun k => laws_eqStepS.l0 k l l (i : Int)) true := by
  intro d
  induction d with
  | zero => intro i hi; exact Ev.step (fun k => by simp only [laws_eqStepS.l0]; rfl) (ev_neg (by omega) (ev_const rfl))
  | succ d ih =>
    intro i hi
    refine Ev.step (fun k => by simp only [laws_eqStepS.l0]; rfl) (ev_pos (by omega) (ev_pos (by omega) (ev_pos (by omega) (ev_call (a := true) (by simp [laws_eqStep.f]) (ev_pos rfl ?_)))))
    rw [wsucc (show i < l.length by omega) (by omega)]
    exact ih (i + 1) (by omega)
theorem eqq_ev (l : List Q) (hn : l.length ≤ 9223372036854775807) : Ev (fun k => laws_eqStepS.f k l l) true := by
  unfold laws_eqStepS.f
  exact ev_pos rfl (eqq_l l hn l.length 0 (by omega))
def mkQ (m : Nat) (n : Int) : List Q := (List.range m).map fun j : Nat => ⟨n + 2 * (j : Int), n + 2 * (j : Int) + 1⟩
theorem mkQ_length (m : Nat) (n : Int) : (mkQ m n).length = m := by simp [mkQ]
theorem mkQ_get (m : Nat) (n : Int) (i : Nat) (h : i < (mkQ m n).length) : (mkQ m n)[i] = ⟨n + 2 * i, n + 2 * i + 1⟩ := by simp [mkQ]
theorem rdq_set (l : List Q) (i : Nat) (h : i < l.length) (v : Q) : rd_T51 (l.set i v) (i : Int) = v := by
  rw [rd_q _ i (by simpa using h)]
  simp
theorem markQ_l (n : Int) (hn : 0 ≤ n ∧ n ≤ 4398046511104) (m : Nat) (hm : m ≤ 1048576) : ∀ d i (acc : List Q), i + d = m → acc.length = m → acc.take i = (mkQ m n).take i → Ev (fun k => laws_markStepS.l0 k acc (n + 2 * i) (i : Int)) (n + 2 * m, mkQ m n) := by
  intro d
  induction d with
  | zero =>
    intro i acc hi ha ht
    refine Ev.step (fun k => by simp only [laws_markStepS.l0]; rfl) (ev_neg (by omega) (ev_const ?_))
    rw [List.take_of_length_le (by omega), List.take_of_length_le (by rw [mkQ_length]; omega)] at ht
    rw [ht, show i = m by omega]
  | succ d ih =>
    intro i acc hi ha ht
    have hlt : i < acc.length := by omega
    refine Ev.step (fun k => by simp only [laws_markStepS.l0]; rfl) ?_
    refine ev_pos (by omega) (ev_pos (by omega) ?_)
    refine ev_call rfl ?_
    rw [wsucc (n := m) (by omega) (by omega), Int.toNat_natCast, wr (x := n + 2 * (i : Int) + 1) (by omega) (by omega), wr (x := n + 2 * (i : Int) + 1 + 1) (by omega) (by omega)]
    rw [rdq_set _ i hlt, List.set_set]
    rw [show n + 2 * (i : Int) + 1 + 1 = n + 2 * ((i + 1 : Nat) : Int) by omega]
    refine ih (i + 1) _ (by omega) (by rw [List.length_set]; exact ha) ?_
    rw [fill_step ht hlt, List.take_succ_eq_append_getElem (show i < (mkQ m n).length by rw [mkQ_length]; omega), mkQ_get]
theorem markQ (l : List Q) (n : Int) (hn : 0 ≤ n ∧ n ≤ 4398046511104) (hm : l.length ≤ 1048576) : Ev (fun k => laws_markStepS.f k l n) (n + 2 * (l.length : Int), mkQ l.length n) := by
  unfold laws_markStepS.f
  have h := markQ_l n hn l.length hm l.length 0 l (by omega) rfl (by simp)
  rw [show n + 2 * ((0 : Nat) : Int) = n by omega] at h
  exact h
end Go.Proofs.Ytlnihlmlkdhiaaa.UQ
