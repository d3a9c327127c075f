/- The top of a row of a bay. -/
import Derived.Test.YtdbolmkpdddbiaaPx0
import Derived.Test.YtdbolmkpdddbiaaPx9
import Derived.Test.YtdbolmkpdddbiaaUBayM
namespace Go.Proofs.Ytdbolmkpdddbiaa.UB
open Go.RowKit Go.Proofs.YtdbolmkpdddbiaaW.PrintWords Go.Proofs.YtdbolmkpdddbiaaW.PrintMore Go.Proofs.Ytdbolmkpdddbiaa.P Go.Proofs.Ytdbolmkpdddbiaa.U Go.Proofs.Ytdbolmkpdddbiaa.UT
set_option linter.unusedVariables false

/-- The last number of a row, and the row without it. -/
def top (r : List Int) : Int := rd r ((r.length : Int) - 1)
def cutR (l : List (List Int)) (a : Int) : List (List Int) := l.set a.toNat ((rd_L1 l a).take ((rd_L1 l a).length - 1))
theorem cutR_len (l : List (List Int)) (a : Int) : (cutR l a).length = l.length := by simp [cutR]
theorem cutR_rows {l : List (List Int)} {a : Int} {c : Nat} (h : ∀ x, x ∈ l → x.length ≤ c) (h0 : 0 ≤ a) (h1 : a < (l.length : Int)) : ∀ x, x ∈ cutR l a → x.length ≤ c := by
  intro x hx
  rcases List.mem_or_eq_of_mem_set hx with h2 | rfl
  · exact h x h2
  · rw [List.length_take]; have := h _ (rdl_mem h0 h1); omega
theorem wlast {n : Nat} (h : 0 < n) (hn : n ≤ 1048576) : wrap64 ((n : Int) - 1) = (n : Int) - 1 ∧ ((n : Int) - 1).toNat = n - 1 := ⟨wr (by omega) (by omega), by omega⟩
theorem top_impl (r : List Int) (h : 0 < r.length) (hn : r.length ≤ 1048576) : impl_topOf.f r = some (top r) := by
  unfold impl_topOf.f top
  rw [(wlast h hn).1, if_neg (by omega), if_pos (by omega), if_pos (by omega)]
end Go.Proofs.Ytdbolmkpdddbiaa.UB
