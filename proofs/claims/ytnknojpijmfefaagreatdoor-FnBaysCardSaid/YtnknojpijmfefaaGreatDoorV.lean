/- A store keeps which cells there are: for the walks' own simp. -/
import Derived.WalkKit
namespace Go.Proofs.YtnknojpijmfefaaGreatDoor.V
theorem isSome_setCell (w : World) (p : Addr) (v : Value) (q : Addr) : ((w.setCell p v).cell? q).isSome = (w.cell? q).isSome := by
  by_cases e : p = q
  · subst e
    cases h : w.cell? p with
    | some u => rw [World.cell?_setCell_same w p v h]; rfl
    | none =>
      cases h' : (w.setCell p v).cell? p with
      | none => rfl
      | some u =>
        exfalso
        simp only [World.setCell, World.cell?, Array.getElem?_modify, ↓reduceIte] at h h'
        cases hb : w.heap[p.block]? with
        | none => simp [hb] at h'
        | some o =>
          cases o <;> simp [hb] at h h'
          cases hs : p.spot with
          | some _ => simp [hs] at h'
          | none =>
            simp [hs] at h h'
            rw [Array.getElem?_eq_none (by simpa using h)] at h'
            cases h'
  · rw [World.cell?_setCell_other w p q v e]
/-- A call whose first argument is a slice with its length spelled otherwise. -/
theorem calls_len {P : Program} {f : FuncId} {A : Option Addr} {n m c : Nat} {rest : List Value} {w : World} {Q : Ending → World → Prop} (hn : n = m)
    (h : Calls P f (List.toArray (.slice A m c :: rest)) w Q) : Calls P f (List.toArray (.slice A n c :: rest)) w Q := hn ▸ h
end Go.Proofs.YtnknojpijmfefaaGreatDoor.V
