-- Written by a program of this session over the translation (a variant of the printer, see wip/gen); Lean checks it.
import Derived.Test.YtipahijdcgoemaaPx0
import Derived.Shelf.Slices.CompactI
import Derived.Sort.OwnSortedInts
import Derived.Test.YtipahijdcgoemaaShelf2
namespace Go.Proofs.Ytipahijdcgoemaa.P
open Go.RowKit Go.Proofs.YtipahijdcgoemaaW.PrintWords Go.Proofs.YtipahijdcgoemaaW.PrintLast Go.Proofs.YtipahijdcgoemaaW.PrintMore
attribute [local go_sem] Go.Proofs.Ytipahijdcgoemaa.V.isSome_setCell max2_int min2_int max_two min_two max_three min_three max_four min_four
set_option linter.unusedVariables false
set_option linter.unusedSimpArgs false
/-! ### slices_Compact_int_int: function 37 -/
def slices_Compact_int_int.f (l0 : List Int) : Option (List Int) := if l0.length < 4611686018427387904 then some (Go.Lib.compact l0) else none
theorem slices_Compact_int_int.rep {ps : List Int} {cs : List Value} (h : Reps (fun x cs => cs = [Value.int .i64 x]) 1 ps cs) : cs = ps.map (Value.int .i64) := by
 apply List.ext_getElem?
 intro j
 have hl : cs.length = ps.length := by rw [h.1, Nat.mul_one]
 by_cases hj : j < ps.length
 rotate_left
 ·rw [List.getElem?_eq_none (by omega), List.getElem?_eq_none (by rw [List.length_map]; omega)]
 have h1 := h.2 j ps[j] (List.getElem?_eq_getElem hj)
 rw [Nat.mul_one] at h1
 have hj2 : j < cs.length := by omega
 rw [List.drop_eq_getElem_cons hj2, List.take_succ_cons, List.take_zero] at h1
 rw [List.getElem?_eq_getElem hj2, List.getElem?_map, List.getElem?_eq_getElem hj]
 injection h1 with h2 _
 rw [h2]; rfl
theorem slices_Compact_int_int.per (ps : List Int) : Reps (fun x cs => cs = [Value.int .i64 x]) 1 ps (ps.map (Value.int .i64)) := by
 refine ⟨by rw [List.length_map, Nat.mul_one], fun j p hj => ?_⟩
 obtain ⟨hl, rfl⟩ := List.getElem?_eq_some_iff.mp hj
 have h2 : j < (ps.map (Value.int .i64)).length := by rw [List.length_map]; exact hl
 rw [Nat.mul_one, List.drop_eq_getElem_cons h2, List.take_succ_cons, List.take_zero, List.getElem_map]
theorem slices_Compact_int_int.le (zs : List Int) : (Go.Lib.compact zs).length ≤ zs.length := by
 unfold Go.Lib.compact Go.Lib.compactUpTo
 rw [List.length_map]
 exact Nat.le_trans (List.length_filter_le _ _) (by rw [List.length_range]; exact Nat.le_refl _)
set_option maxHeartbeats 8000000 in
set_option maxRecDepth 100000 in
theorem slices_Compact_int_int.calls (P0_ : Nat → Prop) (u9000_ : Value) (l0 : List Int) (r : List Int) (w0 w : World) (hB : Below w0.heap.size w0 w) (ho0 : Kd.R (Kd.int .i64) 3 w w0.heap.size P0_ u9000_ l0) (h : slices_Compact_int_int.f l0 = some r) :
    Calls Try.prog 37 #[u9000_] w fun e w' => ∃ v0_ : Value, e = .returned (v0_) ∧ Kd.R (Kd.int .i64) 3 w' w0.heap.size (fun k_ => (P0_ k_ ∨ w.heap.size ≤ k_)) v0_ r ∧ Below w0.heap.size w0 w' ∧ Kept w w' (fun k_ => P0_ k_) := by
 unfold slices_Compact_int_int.f at h
 by_cases hsz : l0.length < 4611686018427387904
 rotate_left
 ·rw [if_neg hsz] at h
  cases h
 rw [if_pos hsz] at h
 obtain rfl := Option.some.inj h
 obtain ⟨hok, inner, ho, hr⟩ := ho0
 obtain rfl := slices_Compact_int_int.rep hr
 obtain ⟨hl, ⟨rfl, h0⟩ | ⟨g, cap, cur, rfl, hg, hb, h1, h2, h3, h4⟩⟩ := ho
 ·have hnil : l0 = [] := List.length_eq_zero_iff.1 h0
  subst hnil
  have hc : Calls Try.prog 37 #[.slice none 0 0] w fun e w' => e = .returned (.slice none 0 0) ∧ w' = w := Go.Proofs.Any.slices_Compact_int_empty Go.Proofs.Try.laysCompact none 0 w
  refine hc.mono ?_
  rintro e w' ⟨rfl, rfl⟩
  exact ⟨_, rfl, Kd.R_nil _ _ _ _ _, hB, Kept.refl _ _⟩
 have h3 : cur.size = cap := by have h_ := h3; rw [show (Kd.int .i64).sz = 1 from rfl, Nat.mul_one] at h_; exact h_
 have h4 : cur.toList.take l0.length = l0.map (Value.int .i64) := by have h_ := h4; rw [show (Kd.int .i64).sz = 1 from rfl, Nat.mul_one] at h_; exact h_
 have hH : Go.Sort.Holds (Value.int .i64) w g 0 l0.toArray := Go.holds_of_blockI hb h4
 have hc : Calls Try.prog 37 #[.slice (some ⟨g, 0, none⟩) l0.length cap] w fun e w' => e = .returned (.slice (some ⟨g, 0, none⟩) (Go.Lib.compact l0).length cap) ∧ ∃ q, w' = Go.Sort.putRow (Value.int .i64) (Go.Sort.ahead w q) g 0 (Go.Lib.compact l0 ++ List.replicate (l0.length - (Go.Lib.compact l0).length) 0).toArray := Go.Proofs.Any.slices_Compact_int Go.Proofs.Try.laysCompact g 0 cap l0 w hH (by omega) h1
 refine hc.mono ?_
 rintro e w' ⟨rfl, n, hw'⟩
 have hle := slices_Compact_int_int.le l0
 generalize hts : Go.Lib.compact l0 ++ List.replicate (l0.length - (Go.Lib.compact l0).length) 0 = ts at hw'
 have hlen : ts.length = l0.length := by rw [← hts, List.length_append, List.length_replicate]; omega
 have hw2 : w' = Go.Sort.grow (Go.Sort.putRow (Value.int .i64) (Go.Sort.ahead w n) g 0 ts.toArray) #[] := by rw [hw', Go.Sort.grow_empty]
 subst hw2
 have hgr := Go.grownBy_sortedI (w := w) (g := g) (n := n) (os := #[]) ts.toArray
 have hown := Go.ownsRow_sortedI (n := n) (os := #[]) (cap := cap) hlen hg hb h1 h2 (by rw [Nat.mul_one]; exact h3)
 have hR : Kd.R (Kd.int .i64) 3 (Go.Sort.grow (Go.Sort.putRow (Value.int .i64) (Go.Sort.ahead w n) g 0 ts.toArray) #[]) w0.heap.size (fun k_ => (P0_ k_ ∨ w.heap.size ≤ k_)) (.slice (some ⟨g, 0, none⟩) l0.length cap) ts := ⟨fun k hk => Or.inl (hok k hk), _, by rw [hlen]; exact hown, slices_Compact_int_int.per _⟩
 have hT := Kd.R_take hR (m := (Go.Lib.compact l0).length) (by omega)
 rw [show ts.take (Go.Lib.compact l0).length = Go.Lib.compact l0 by rw [← hts, List.take_left]] at hT
 exact ⟨_, rfl, hT, hB.grown hgr hB.size (fun k hk => by cases hk; exact hg), Kept.of_grown hgr (Kept.refl _ _) (fun k hk => by cases hk; exact Or.inl (hok g rfl))⟩
end Go.Proofs.Ytipahijdcgoemaa.P
