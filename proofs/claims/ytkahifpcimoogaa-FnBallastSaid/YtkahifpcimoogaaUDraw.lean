/- The cursor that draws: it answers always. -/
import Derived.Test.YtkahifpcimoogaaPx0
import Derived.Test.YtkahifpcimoogaaPx1
import Derived.Test.YtkahifpcimoogaaPx2
import Derived.Laws.BitsLemmas
import Derived.Test.YtkahifpcimoogaaU
namespace Go.Proofs.Ytkahifpcimoogaa.UD
open Go.RowKit Go.Proofs.YtkahifpcimoogaaW.PrintWords Go.Proofs.YtkahifpcimoogaaW.PrintMore Go.Proofs.Ytkahifpcimoogaa.P Go.Proofs.Ytkahifpcimoogaa.U
set_option linter.unusedVariables false

def codeOk (c : List Int) : Prop := c.length ≤ 65536 ∧ ∀ x, x ∈ c → 0 ≤ x ∧ x ≤ 255
theorem wf_u8 {x : Int} (h : (Lit.int .u8 x).wf = true) : 0 ≤ x ∧ x ≤ 255 := by
  have h1 : (decide (IntKind.u8.min ≤ x) && decide (x ≤ IntKind.u8.max)) = true := h
  rw [Bool.and_eq_true, decide_eq_true_iff, decide_eq_true_iff] at h1
  exact h1
theorem wrap_u64 (n : Int) : IntKind.u64.wrap n = n % 18446744073709551616 := by simp [IntKind.wrap, IntKind.bits, IntKind.signed]
theorem u64_low (n : Int) : 0 ≤ wrap64 (Go.bits .and .u64 (IntKind.u64.wrap n / 1099511627776) 255) ∧ wrap64 (Go.bits .and .u64 (IntKind.u64.wrap n / 1099511627776) 255) ≤ 255 := by
  have h : IntKind.u64.wrap n = n % 18446744073709551616 := wrap_u64 n
  have e := bits_mask .u64 24 (by decide) (fun m h0 h1 => by rw [wrap_u64]; omega) 8 (by decide) (IntKind.u64.wrap n / 1099511627776) (by omega) (by omega)
  have e2 : Go.bits .and .u64 (IntKind.u64.wrap n / 1099511627776) 255 = IntKind.u64.wrap n / 1099511627776 % 256 := e
  rw [e2, wr (by omega) (by omega)]
  omega
theorem next_ev {c : List Int} (hc : codeOk c) {i s : Int} (hi : 0 ≤ i ∧ i ≤ 1000000000) : ∃ r s', spec_l1Cur_next.f c i s = some (r, i + 1, s') ∧ 0 ≤ r ∧ r ≤ 255 := by
  have hw : wrap64 (i + 1) = i + 1 := wr (by omega) (by omega)
  unfold spec_l1Cur_next.f
  rw [hw]
  by_cases h1 : i < (c.length : Int)
  · obtain ⟨n, rfl⟩ := Int.eq_ofNat_of_zero_le hi.1
    have hn : n < c.length := by omega
    have hb := hc.2 _ (List.getElem_mem hn)
    rw [if_pos h1, if_pos hi.1, if_pos (by omega), rd_at c n hn]
    exact ⟨_, _, rfl, by rw [wr (by omega) (by omega)]; exact hb⟩
  · rw [if_neg h1, if_neg (by have := hc.1; omega)]
    exact ⟨_, _, rfl, u64_low _⟩
theorem tmod_in {b n : Int} (hb : 0 ≤ b) (hn : 0 < n) : 0 ≤ Int.tmod b n ∧ Int.tmod b n < n := by
  rw [Int.tmod_eq_emod_of_nonneg hb]
  exact ⟨Int.emod_nonneg _ (by omega), Int.emod_lt_of_pos _ hn⟩
theorem pick_ev {c : List Int} (hc : codeOk c) {i s n : Int} (hi : 0 ≤ i ∧ i ≤ 999999990) : ∃ r j s', spec_l1Cur_pick.f c i s n = some (r, j, s') ∧ 0 ≤ r ∧ (r < n ∨ n ≤ 1 ∧ r = 0) ∧ i ≤ j ∧ j ≤ i + 2 := by
  unfold spec_l1Cur_pick.f
  by_cases h1 : n ≤ 1
  · rw [if_pos h1]
    exact ⟨0, i, s, rfl, by omega, Or.inr ⟨h1, rfl⟩, by omega, by omega⟩
  rw [if_neg h1]
  obtain ⟨r1, s1, e1, b1⟩ := next_ev hc (s := s) (i := i) (by omega)
  rw [e1, Option.bind_some]
  dsimp only
  by_cases h2 : n > 200
  · rw [if_pos h2]
    obtain ⟨r2, s2, e2, b2⟩ := next_ev hc (s := s1) (i := i + 1) (by omega)
    rw [e2, Option.bind_some]
    dsimp only
    rw [if_neg (by omega), wr (x := r1 * 256) (by omega) (by omega), wr (x := r1 * 256 + r2) (by omega) (by omega)]
    have := tmod_in (b := r1 * 256 + r2) (n := n) (by omega) (by omega)
    exact ⟨_, _, _, rfl, this.1, Or.inl this.2, by omega, by omega⟩
  · rw [if_neg h2, if_neg (by omega)]
    have := tmod_in (b := r1) (n := n) (by omega) (by omega)
    exact ⟨_, _, _, rfl, this.1, Or.inl this.2, by omega, by omega⟩
theorem among_ev {c : List Int} (hc : codeOk c) {i s : Int} (hi : 0 ≤ i ∧ i ≤ 999999990) (l : List Int) (hl : 0 < l.length) : ∃ r j s', spec_l1Cur_among.f c i s l = some (r, j, s') ∧ r ∈ l ∧ i ≤ j ∧ j ≤ i + 2 := by
  unfold spec_l1Cur_among.f
  obtain ⟨r, j, s1, e, h0, h1, h2⟩ := pick_ev hc (s := s) (n := (l.length : Int)) hi
  rw [e, Option.bind_some]
  dsimp only
  have hr : r < (l.length : Int) := by rcases h1 with h1 | h1 <;> omega
  rw [if_pos h0, if_pos hr]
  obtain ⟨n, rfl⟩ := Int.eq_ofNat_of_zero_le h0
  have hn : n < l.length := by omega
  exact ⟨_, _, _, rfl, by rw [rd_at l n hn]; exact List.getElem_mem hn, h2⟩
end Go.Proofs.Ytkahifpcimoogaa.UD
