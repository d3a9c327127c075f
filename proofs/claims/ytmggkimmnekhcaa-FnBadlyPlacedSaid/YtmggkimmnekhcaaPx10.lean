-- Written by a program of this session over the translation (a variant of the printer, see wip/gen); Lean checks it.
import Derived.Test.YtmggkimmnekhcaaPx0
import Derived.Shelf.Sort.Plain
import Derived.Shelf.Slices.In.SortNone
import Derived.Sort.OwnSortedInts
import Derived.Test.YtmggkimmnekhcaaShelf
namespace Go.Proofs.Ytmggkimmnekhcaa.P
open Go.RowKit Go.Proofs.YtmggkimmnekhcaaW.PrintWords Go.Proofs.YtmggkimmnekhcaaW.PrintLast Go.Proofs.YtmggkimmnekhcaaW.PrintMore
attribute [local go_sem] Go.Proofs.Ytmggkimmnekhcaa.V.isSome_setCell max2_int min2_int max_two min_two max_three min_three max_four min_four   -- for this text's walks alone
set_option linter.unusedVariables false
set_option linter.unusedSimpArgs false

/-! ### slices_Sort_int_int: function 55 -/
def slices_Sort_int_int.f (l0 : List Int) : Option (List Int) := if l0.length < 4611686018427387904 then some (l0.mergeSort fun x y => decide (x ≤ y)) else none
theorem slices_Sort_int_int.rep {ps : List Int} {cs : List Value} (h : Reps (fun x cs => cs = [Value.int .i64 x]) 1 ps cs) : cs = ps.map (Value.int .i64) := by
  apply List.ext_getElem?
  intro j
  have hl : cs.length = ps.length := by rw [h.1, Nat.mul_one]
  by_cases hj : j < ps.length
  · have h1 := h.2 j ps[j] (List.getElem?_eq_getElem hj)
    rw [Nat.mul_one] at h1
    have hj2 : j < cs.length := by omega
    rw [List.drop_eq_getElem_cons hj2, List.take_succ_cons, List.take_zero] at h1
    rw [List.getElem?_eq_getElem hj2, List.getElem?_map, List.getElem?_eq_getElem hj]
    injection h1 with h2 _
    rw [h2]; rfl
  · rw [List.getElem?_eq_none (by omega), List.getElem?_eq_none (by rw [List.length_map]; omega)]
theorem slices_Sort_int_int.per (ps : List Int) : Reps (fun x cs => cs = [Value.int .i64 x]) 1 ps (ps.map (Value.int .i64)) := by
  refine ⟨by rw [List.length_map, Nat.mul_one], fun j p hj => ?_⟩
  obtain ⟨hl, rfl⟩ := List.getElem?_eq_some_iff.mp hj
  have h2 : j < (ps.map (Value.int .i64)).length := by rw [List.length_map]; exact hl
  rw [Nat.mul_one, List.drop_eq_getElem_cons h2, List.take_succ_cons, List.take_zero, List.getElem_map]
set_option maxHeartbeats 8000000 in
set_option maxRecDepth 100000 in
theorem slices_Sort_int_int.calls (P0_ : Nat → Prop) (u9000_ : Value) (l0 : List Int) (r1 : List Int) (w0 w : World) (hB : Below w0.heap.size w0 w) (ho0 : Kd.R (Kd.int .i64) 3 w w0.heap.size P0_ u9000_ l0) (h : slices_Sort_int_int.f l0 = some r1) :
    Calls Try.prog 55 #[u9000_] w fun e w' => e = .returned (.tuple #[]) ∧ Kd.R (Kd.int .i64) 3 w' w0.heap.size (fun k_ => (P0_ k_ ∨ w.heap.size ≤ k_)) u9000_ r1 ∧ Below w0.heap.size w0 w' ∧ Kept w w' (fun k_ => P0_ k_) := by
  unfold slices_Sort_int_int.f at h
  by_cases hsz : l0.length < 4611686018427387904
  · rw [if_pos hsz] at h
    obtain rfl := Option.some.inj h
    obtain ⟨hok, inner, ho, hr⟩ := ho0
    obtain rfl := slices_Sort_int_int.rep hr
    obtain ⟨hl, ⟨rfl, h0⟩ | ⟨g, cap, cur, rfl, hg, hb, h1, h2, h3, h4⟩⟩ := ho
    · have hnil : l0 = [] := List.length_eq_zero_iff.1 h0
      subst hnil
      have hc : Calls Try.prog 55 #[.slice none 0 0] w fun e w' => e = .returned (.tuple #[]) ∧ w' = w := Go.Proofs.Any.slices_Sort_int_none Go.Proofs.Try.laysSort none 0 w
      refine hc.mono ?_
      rintro e w' ⟨rfl, rfl⟩
      exact ⟨rfl, by rw [List.mergeSort_nil]; exact Kd.R_nil _ _ _ _ _, hB, Kept.refl _ _⟩
    · have hlt : g < w.heap.size := (Array.getElem?_eq_some_iff.1 hb).1
      have h3 : cur.size = cap := by have h_ := h3; rw [show (Kd.int .i64).sz = 1 from rfl, Nat.mul_one] at h_; exact h_
      have h4 : cur.toList.take l0.length = l0.map (Value.int .i64) := by have h_ := h4; rw [show (Kd.int .i64).sz = 1 from rfl, Nat.mul_one] at h_; exact h_
      have hH : Go.Sort.Holds (Value.int .i64) w g 0 l0.toArray := Go.holds_of_blockI hb h4
      have hc : Calls Try.prog 55 #[.slice (some ⟨g, 0, none⟩) l0.length cap] w fun e w' => e = .returned (.tuple #[]) ∧ ∃ n os, w' = Go.Sort.grow (Go.Sort.putRow (Value.int .i64) (Go.Sort.ahead w n) g 0 (l0.mergeSort fun x y => decide (x ≤ y)).toArray) os := Go.Proofs.Any.slices_Sort_int Go.Proofs.Try.laysSort g 0 cap l0 w hH hlt hsz
      refine hc.mono ?_
      rintro e w' ⟨rfl, n, os, rfl⟩
      have hlen : (l0.mergeSort fun x y => decide (x ≤ y)).length = l0.length := List.length_mergeSort l0
      have hgr := Go.grownBy_sortedI (w := w) (g := g) (n := n) (os := os) (l0.mergeSort fun x y => decide (x ≤ y)).toArray
      have hown := Go.ownsRow_sortedI (n := n) (os := os) (cap := cap) hlen hg hb h1 h2 (by rw [Nat.mul_one]; exact h3)
      refine ⟨rfl, ⟨fun k hk => Or.inl (hok k hk), _, ?_, slices_Sort_int_int.per _⟩, hB.grown hgr hB.size (fun k hk => by cases hk; exact hg), Kept.of_grown hgr (Kept.refl _ _) (fun k hk => by cases hk; exact Or.inl (hok g rfl))⟩
      rw [hlen]
      exact hown
  · rw [if_neg hsz] at h
    cases h


end Go.Proofs.Ytmggkimmnekhcaa.P
