/- The laws' own helpers over lists of loads and of numbers: to, eq, mark, held. -/
import Derived.Test.YtcklpjdkhbfikaaPx0
import Derived.Test.YtcklpjdkhbfikaaPx1
import Derived.Test.YtcklpjdkhbfikaaPx4
import Derived.Test.YtcklpjdkhbfikaaU
namespace Go.Proofs.Ytcklpjdkhbfikaa.UL
open Go.RowKit Go.Proofs.YtcklpjdkhbfikaaW.PrintWords Go.Proofs.YtcklpjdkhbfikaaW.PrintMore Go.Proofs.Ytcklpjdkhbfikaa.P Go.Proofs.Ytcklpjdkhbfikaa.U
set_option linter.unusedVariables false

abbrev L0 := S41
abbrev L := S39
theorem rd_l0 (l : List L0) (i : Nat) (h : i < l.length) : rd_T41 l (i : Int) = l[i] := by
  unfold rd_T41
  rw [Int.toNat_natCast]
  exact getD_at l i _ h
theorem rd_l (l : List L) (i : Nat) (h : i < l.length) : rd_T39 l (i : Int) = l[i] := by
  unfold rd_T39
  rw [Int.toNat_natCast]
  exact getD_at l i _ h
def cv (x : L0) : L := ⟨x.f0, x.f1, x.f2⟩

theorem sz_neg (l : List L0) (hl : l.length ≤ maxLen) (h : 1048576 < l.length) : laws_szLoadS.f l 1048576 = some (-1) := by
  unfold maxLen at hl
  have e : wrap64 (1048576 - (l.length : Int)) = 1048576 - (l.length : Int) := wr (by omega) (by omega)
  unfold laws_szLoadS.f
  rw [e, if_pos (by omega)]
theorem sz_pos (l : List L0) (h : l.length ≤ 1048576) : ∃ n, 0 ≤ n ∧ laws_szLoadS.f l 1048576 = some n := by
  have e : wrap64 (1048576 - (l.length : Int)) = 1048576 - (l.length : Int) := wr (by omega) (by omega)
  unfold laws_szLoadS.f
  rw [e, if_neg (by omega)]
  exact ⟨_, by omega, rfl⟩

theorem to_l (l : List L0) (hn : l.length ≤ 1048576) : ∀ d i (acc : List L), i + d = l.length → acc.length = l.length → acc.take i = (l.take i).map cv → Ev (fun k => laws_toLoadS.l0 k l acc (i : Int)) (l.map cv) := by
  intro d
  induction d with
  | zero =>
    intro i acc hi ha ht
    refine Ev.step (fun k => by simp only [laws_toLoadS.l0]; rfl) (ev_neg (by omega) ?_)
    rw [List.take_of_length_le (by omega), List.take_of_length_le (by omega)] at ht
    exact ev_const (by rw [ht])
  | succ d ih =>
    intro i acc hi ha ht
    refine Ev.step (fun k => by simp only [laws_toLoadS.l0]; rfl) (ev_pos (by omega) (ev_pos (by omega) (ev_call rfl (ev_pos (by omega) ?_))))
    rw [wsucc (show i < l.length by omega) (by omega), Int.toNat_natCast]
    refine ih (i + 1) _ (by omega) (by rw [List.length_set]; exact ha) ?_
    rw [fill_step ht (by omega), List.take_succ_eq_append_getElem (show i < l.length by omega), List.map_append]
    rw [rd_l0 l i (by omega)]
    rfl
theorem to_ev (l : List L0) (hn : l.length ≤ 1048576) : Ev (fun k => laws_toLoadS.f k l) (l.map cv) := by
  unfold laws_toLoadS.f
  refine ev_pos (by omega) (ev_pos (by omega) ?_)
  exact to_l l hn l.length 0 _ (by omega) (by simp) (by simp)

theorem eq_l (l : List L) (hn : l.length ≤ 9223372036854775807) : ∀ d i, i + d = l.length → Ev (fun k => laws_eqLoadS.l0 k l l (i : Int)) true := by
  intro d
  induction d with
  | zero => intro i hi; exact Ev.step (fun k => by simp only [laws_eqLoadS.l0]; rfl) (ev_neg (by omega) (ev_const rfl))
  | succ d ih =>
    intro i hi
    refine Ev.step (fun k => by simp only [laws_eqLoadS.l0]; rfl) (ev_pos (by omega) (ev_pos (by omega) (ev_pos (by omega) (ev_call (a := true) (by simp [laws_eqLoad.f]) (ev_pos rfl ?_)))))
    rw [wsucc (show i < l.length by omega) (by omega)]
    exact ih (i + 1) (by omega)
theorem eq_ev (l : List L) (hn : l.length ≤ 9223372036854775807) : Ev (fun k => laws_eqLoadS.f k l l) true := by
  unfold laws_eqLoadS.f
  exact ev_pos rfl (eq_l l hn l.length 0 (by omega))
end Go.Proofs.Ytcklpjdkhbfikaa.UL
