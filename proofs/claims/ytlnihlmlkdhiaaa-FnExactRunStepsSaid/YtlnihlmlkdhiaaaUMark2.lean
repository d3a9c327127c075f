/- Held marks over rows of numbers. -/
import Derived.Test.YtlnihlmlkdhiaaaPx0
import Derived.Test.YtlnihlmlkdhiaaaPx16
import Derived.Test.YtlnihlmlkdhiaaaUMarkH
namespace Go.Proofs.Ytlnihlmlkdhiaaa.UK
open Go.RowKit Go.Proofs.YtlnihlmlkdhiaaaW.PrintWords Go.Proofs.YtlnihlmlkdhiaaaW.PrintMore Go.Proofs.Ytlnihlmlkdhiaaa.P Go.Proofs.Ytlnihlmlkdhiaaa.U Go.Proofs.Ytlnihlmlkdhiaaa.UT
set_option linter.unusedVariables false

theorem held2_l : ∀ (suf : List (List Int)) (pre : List (List Int)) (n : Int), 0 ≤ n → n + sumL suf ≤ 4398046511104 → pre.length + suf.length ≤ 1048576 → (∀ x, x ∈ suf → x.length ≤ 1048576) →
    Ev (fun k => laws_heldIntSS.l0 k (pre ++ mk2 suf n) n (pre.length : Int)) (n + sumL suf)
  | [], pre, n, h0, h1, hl, hx => by
    refine Ev.step (fun k => by simp only [laws_heldIntSS.l0]; rfl) (ev_neg (by simp [mk2]) (ev_const ?_))
    simp [sumL]
  | r :: suf, pre, n, h0, h1, hl, hx => by
    have hr := hx r List.mem_cons_self
    have hp := sumL_pos suf
    rw [sumL_cons] at h1
    rw [List.length_cons] at hl
    refine Ev.step (fun k => by simp only [laws_heldIntSS.l0]; rfl) ?_
    rw [mk2_cons]
    refine (ev_pos (by simp; omega) (ev_pos (by omega) ?_))
    have hg : rd_L1 (pre ++ mk1 r.length n :: mk2 suf (n + r.length)) (pre.length : Int) = mk1 r.length n := by
      rw [rd_l1 _ pre.length (by simp)]; simp
    rw [hg, wsucc (n := 1048576) (by omega) (by omega)]
    refine Ev.bind (held1 r.length n ⟨h0, by omega⟩ hr) (ev_neg (by omega) ?_)
    have ih := held2_l suf (pre ++ [mk1 r.length n]) (n + r.length) (by omega) (by omega) (by simp; omega) (fun x h => hx x (List.mem_cons_of_mem _ h))
    rw [List.length_append, List.length_singleton, List.append_assoc] at ih
    refine ev_eq ih ?_
    rw [sumL_cons]; omega
theorem held2 (l : List (List Int)) (n : Int) (h0 : 0 ≤ n) (h1 : n + sumL l ≤ 4398046511104) (hl : l.length ≤ 1048576) (hx : ∀ x, x ∈ l → x.length ≤ 1048576) : Ev (fun k => laws_heldIntSS.f k (mk2 l n) n) (n + sumL l) := by
  unfold laws_heldIntSS.f
  exact held2_l l [] n h0 h1 (by simp; omega) hx
end Go.Proofs.Ytlnihlmlkdhiaaa.UK
