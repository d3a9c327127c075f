/- A literal's cells, read: whole or its head. -/
import Derived.Test.YtipahijdcgoemaaWMore
import Derived.Test.YtipahijdcgoemaaVV
namespace Go.Proofs.Ytipahijdcgoemaa.P
open Go.RowKit Go.Proofs.YtipahijdcgoemaaW.PrintWords
theorem lit_C {W : World} {g t : Nat} {xs : List Int} (hb : W.heap[g]? = some (.cells (xs.map (Value.int .i64)).toArray t (0, 0))) (m : Nat) (hm : m ≤ xs.length) (h63 : xs.length ≤ 9223372036854775807 := by decide) : Kd.C (Kd.int .i64) W (some ⟨g, 0, none⟩) (xs.take m).length (xs.take m) := by
  have hl : (xs.take m).length = m := by rw [List.length_take]; omega
  refine ⟨rfl, by omega, fun _ => ⟨_, rfl, fun j p hj => ⟨[.int .i64 p], rfl, rfl, fun i u hi => ?_⟩⟩⟩
  have hjm : j < m := by have := (List.getElem?_eq_some_iff.1 hj).1; omega
  have hi0 : i = 0 := by have := (List.getElem?_eq_some_iff.1 hi).1; simp at this; omega
  subst hi0
  have hu : u = .int .i64 p := by simpa using hi.symm
  subst hu
  have hx : xs[j]? = some p := by rw [List.getElem?_take, if_pos hjm] at hj; exact hj
  have h1 := blk_cell hb j
  have hadd : (⟨g, 0, none⟩ : Addr).add (j * (Kd.int .i64).sz + 0) = ⟨g, j, none⟩ := by
    show (⟨g, 0, none⟩ : Addr).add (j * 1 + 0) = _
    rw [Nat.mul_one, Nat.add_zero]
    unfold Addr.add; split <;> simp_all
  rw [hadd, h1]
  simp [hx]
end Go.Proofs.Ytipahijdcgoemaa.P
