/- The reference's number put into a rising list. -/
import Derived.Test.YtchjkaondonldaaPx0
import Derived.Test.YtchjkaondonldaaPx16
import Derived.Test.YtchjkaondonldaaUTab
import Derived.Test.YtchjkaondonldaaUSort
namespace Go.Proofs.Ytchjkaondonldaa.US
open Go.RowKit Go.Proofs.YtchjkaondonldaaW.PrintWords Go.Proofs.YtchjkaondonldaaW.PrintMore Go.Proofs.Ytchjkaondonldaa.P Go.Proofs.Ytchjkaondonldaa.U Go.Proofs.Ytchjkaondonldaa.UT
set_option linter.unusedVariables false

theorem lead_step (n : Int) : ∀ (l : List Int) (i : Nat) (hi : i < l.length), i ≤ lead n l → (l[i] < n → i + 1 ≤ lead n l) ∧ (¬ l[i] < n → lead n l = i)
  | x :: l, 0, hi, h => by
    unfold lead
    refine ⟨fun hx => ?_, fun hx => ?_⟩
    · rw [if_pos (show x < n from hx)]; omega
    · rw [if_neg (show ¬ x < n from hx)]
  | x :: l, i + 1, hi, h => by
    unfold lead at h ⊢
    by_cases hx : x < n
    · rw [if_pos hx] at h ⊢
      have := lead_step n l i (by simpa using hi) (by omega)
      exact ⟨fun h1 => by have := this.1 h1; omega, fun h1 => by have := this.2 h1; omega⟩
    · rw [if_neg hx] at h; omega
theorem put_l (l : List Int) (n : Int) (hl : l.length ≤ 1048576) : ∀ d i, i + d = l.length → i ≤ lead n l → Ev (fun k => spec_l1Put.l0 k l n (i : Int)) (put l n) := by
  have stop : ∀ (i : Nat), i ≤ l.length → lead n l = i → ¬ l[i]? = some n → put l n = l.take i ++ [n] ++ l.drop i := fun i _ h1 h2 => by rw [put_eq, h1, if_neg h2]
  intro d
  induction d with
  | zero =>
    intro i hi h
    have hle := lead_le n l
    refine Ev.step (fun k => by simp only [spec_l1Put.l0]; rfl) (ev_neg (by omega) (ev_const ?_))
    rw [stop i (by omega) (by omega) (by rw [List.getElem?_eq_none (by omega)]; simp)]
    simp only [Option.bind_some, List.nil_append, List.length_nil, List.length_append, List.length_take, List.length_drop, List.length_singleton, Int.toNat_natCast]
    rw [if_pos (by omega), if_pos (by omega), if_pos (by omega), if_pos (by omega), if_pos (by omega)]
  | succ d ih =>
    intro i hi h
    have hlt : i < l.length := by omega
    obtain ⟨s1, s2⟩ := lead_step n l i hlt h
    refine Ev.step (fun k => by simp only [spec_l1Put.l0]; rfl) (ev_pos (by omega) (ev_pos (by omega) ?_))
    rw [rd_at l i hlt, wsucc hlt (by omega)]
    by_cases hc : l[i] < n
    · exact ev_pos hc (ih (i + 1) (by omega) (s1 hc))
    · refine ev_neg hc ?_
      by_cases he : l[i] = n
      · refine ev_eq (ev_pos he (ev_const rfl)) ?_
        rw [put_eq, s2 hc, if_pos (by rw [List.getElem?_eq_getElem hlt, he])]
      · refine ev_neg he (ev_const ?_)
        rw [stop i (by omega) (s2 hc) (by rw [List.getElem?_eq_getElem hlt]; simpa using he)]
        simp only [Option.bind_some, List.nil_append, List.length_nil, List.length_append, List.length_take, List.length_drop, List.length_singleton, Int.toNat_natCast]
        rw [if_pos (by omega), if_pos (by omega), if_pos (by omega), if_pos (by omega)]
theorem put_ev (l : List Int) (n : Int) (hl : l.length ≤ 1048576) : Ev (fun k => spec_l1Put.f k l n) (put l n) := by
  unfold spec_l1Put.f
  exact put_l l n hl l.length 0 (by omega) (by omega)
end Go.Proofs.Ytchjkaondonldaa.US
