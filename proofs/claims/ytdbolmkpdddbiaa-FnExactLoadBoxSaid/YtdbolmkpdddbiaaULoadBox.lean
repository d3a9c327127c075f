/- A number put on a row of a bay. -/
import Derived.Test.YtdbolmkpdddbiaaPx0
import Derived.Test.YtdbolmkpdddbiaaPx1
import Derived.Test.YtdbolmkpdddbiaaPx2
import Derived.Test.YtdbolmkpdddbiaaPx4
import Derived.Test.YtdbolmkpdddbiaaPx5
import Derived.Test.YtdbolmkpdddbiaaPx7
import Derived.Test.YtdbolmkpdddbiaaUBayR
import Derived.Test.YtdbolmkpdddbiaaUBayOwn
namespace Go.Proofs.Ytdbolmkpdddbiaa.UB
open Go.RowKit Go.Proofs.YtdbolmkpdddbiaaW.PrintWords Go.Proofs.YtdbolmkpdddbiaaW.PrintMore Go.Proofs.Ytdbolmkpdddbiaa.P Go.Proofs.Ytdbolmkpdddbiaa.U Go.Proofs.Ytdbolmkpdddbiaa.UT
set_option linter.unusedVariables false

/-! One number more on a stack. -/
def push (l : List (List Int)) (s n : Int) : List (List Int) := l.set s.toNat (rd_L1 l s ++ [n])
theorem push_len (l : List (List Int)) (s n : Int) : (push l s n).length = l.length := by simp [push]
theorem push_mem {l : List (List Int)} {s n : Int} {x : List Int} (h : x ∈ push l s n) : x ∈ l ∨ x = rd_L1 l s ++ [n] := List.mem_or_eq_of_mem_set h
theorem push_rows {l : List (List Int)} {s n : Int} {c : Nat} (h : ∀ x, x ∈ l → x.length ≤ c) (h0 : 0 ≤ s) (h1 : s < (l.length : Int)) : ∀ x, x ∈ push l s n → x.length ≤ c + 1 := by
  intro x hx
  rcases push_mem hx with h2 | rfl
  · exact Nat.le_succ_of_le (h x h2)
  · rw [List.length_append, List.length_singleton]
    exact Nat.succ_le_succ (h _ (rdl_mem h0 h1))
theorem load_same (h : Int) (l : List (List Int)) (hn : l.length ≤ 1048576) (hx : ∀ x, x ∈ l → x.length ≤ 1048576) (a n : Int) :
    ∃ (c : Int) (r : List (List Int)) (b : Bool), Ev (fun k => spec_LoadBox.f k h l a n) (c, r, b) ∧ Ev (fun k => impl_LoadBox.f k h l a n) (c, r, b) ∧ r.length ≤ 1048576 ∧ ∀ x, x ∈ r → x.length ≤ 1048576 := by
  unfold spec_LoadBox.f impl_LoadBox.f
  have h1 := row_spec h l hn hx a
  have h2 := row_impl h l hn a
  cases hr : okRow h l a
  · rw [hr] at h1 h2
    exact ⟨0, [], false, Ev.bind h1 (ev_neg (by simp) (ev_const rfl)), ev_call h2 (ev_neg (by simp) (ev_const rfl)), by simp, fun x hx => by cases hx⟩
  rw [hr] at h1 h2
  obtain ⟨hb, h0, h3⟩ := okRow_in hr
  obtain ⟨⟨_, hl5⟩, hm⟩ := okBay_mem hb
  have hrow := (hm _ (rdl_mem h0 h3)).1
  have hp4 : ∀ x, x ∈ push l a n → x.length ≤ 5 := push_rows (fun x hx => (hm x hx).1) h0 h3
  have hg := good_spec h (push l a n) (by rw [push_len]; exact hn) (fun x hx => by have := hp4 x hx; omega)
  have hs : ∀ (r : Int × List (List Int) × Bool), Ev (fun k => (spec_l9Good.f k h (push l a n)).bind fun t => if t = true then some (h, push l a n, true) else some (0, [], false)) r → Ev (fun k => (spec_l9Row.f k h l a).bind fun t142 => (if t142 = true then ((spec_l9Own.f k h l).bind fun bt143 => (if 0 ≤ a then (if a < (bt143.2.length : Int) then (if (rd_L1 bt143.2 a).length < 17592186044416 then ((some (bt143.2.set (a : Int).toNat ((rd_L1 bt143.2 a) ++ [n]) : List (List Int))).bind fun y152 => ((spec_l9Good.f k bt143.1 y152).bind fun t153 => (if t153 = true then (some (bt143.1, y152, true)) else (some (0, ([] : List (List Int)), false))))) else (none)) else (none)) else (none))) else (some (0, ([] : List (List Int)), false)))) r := fun r hh =>
    Ev.bind h1 (ev_pos rfl (Ev.bind (own_spec h l hn hx) (ev_pos h0 (ev_pos h3 (ev_pos (by show (rd_L1 l a).length < _; omega) hh)))))
  have hi : ∀ (r : Int × List (List Int) × Bool), (if okBay h (push l a n) = true then some (h, push l a n, true) else some (0, [], false)) = some r → Ev (fun k => (impl_hasRow.f h l a).bind fun t191 => (if t191 = true then ((impl_ownBay.f k h l).bind fun bt192 => (if 0 ≤ a then (if a < (bt192.2.length : Int) then (if (rd_L1 bt192.2 a).length < 17592186044416 then ((some (bt192.2.set (a : Int).toNat ((rd_L1 bt192.2 a) ++ [n]) : List (List Int))).bind fun y201 => ((impl_IsValidBay.f bt192.1 y201).bind fun t202 => (if t202 = true then (some (bt192.1, y201, true)) else (some (0, ([] : List (List Int)), false))))) else (none)) else (none)) else (none))) else (some (0, ([] : List (List Int)), false)))) r := fun r hh =>
    ev_call h2 (ev_pos rfl (Ev.bind (own_impl h l hn hx) (ev_pos h0 (ev_pos h3 (ev_pos (by show (rd_L1 l a).length < _; omega) (ev_const hh))))))
  cases hk : okBay h (push l a n)
  · rw [hk] at hg hi
    exact ⟨0, [], false, hs _ (Ev.bind hg (ev_neg (by simp) (ev_const rfl))), hi _ rfl, by simp, fun x hx => by cases hx⟩
  · rw [hk] at hg hi
    exact ⟨h, push l a n, true, hs _ (Ev.bind hg (ev_pos rfl (ev_const rfl))), hi _ rfl, by rw [push_len]; exact hn, fun x hx => by have := hp4 x hx; omega⟩
end Go.Proofs.Ytdbolmkpdddbiaa.UB
