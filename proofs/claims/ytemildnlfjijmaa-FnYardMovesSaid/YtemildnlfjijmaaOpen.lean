/- How an argument of a law, whatever its type, reads as a list, a struct or a number: no function of the program is named here. -/
import Derived.Test.YtemildnlfjijmaaWMore
import Derived.Test.YtemildnlfjijmaaWSized
import Derived.Deep.Slices
import Derived.Deep.Fields
import Derived.ChangeSame
namespace Go.Proofs.Ytemildnlfjijmaa.Open
open Go.RowKit Go.ChangeShapes Go.WideShapes Go.Deep Go.Proofs.YtemildnlfjijmaaW.PrintWords
set_option linter.unusedVariables false

/-- What cells of type t can be read, they read as kind d, and G holds of the value. -/
def Opens (P : Program) (t : TypeId) {α : Type} (d : Kd α) (G : α → Prop) : Prop :=
  ∀ (H : Type) (enc : TypeId × Value → H) (W : World) (fuel : Nat) (cs : List Value) (x : DataW H × List MemPlace),
    DataW.trod enc P W 0 (fun _ => true) true fuel t cs = some x → ∃ y, d.K W y cs ∧ G y

theorem opens_int {P : Program} {t : TypeId} {k : IntKind} (hu : P.underlying t = some (.int k)) : Opens P t (Kd.int k) (fun n => (Lit.int k n).wf = true) :=
  fun H enc W fuel cs x hx => by
    obtain ⟨n, rfl, _, hw⟩ := DataW.trod_int hu hx
    exact ⟨n, rfl, hw⟩
theorem opens_slice {P : Program} {t e : TypeId} {α : Type} {d : Kd α} {G : α → Prop} (hu : P.underlying t = some (.slice e)) (hc : P.cellsOf e = d.sz) (h : Opens P e d G) :
    Opens P t (Kd.slice e d) (fun l => l.length ≤ maxLen ∧ ∀ x, x ∈ l → G x) :=
  fun H enc W fuel cs x hx => by
    rcases open_slice hu hx with ⟨rfl, _⟩ | ⟨a, len, cap, m, n, D, Pl, rfl, _, hl, hm, hmm, _, hi⟩
    · refine ⟨[], ⟨none, 0, rfl, Nat.le_refl _, rfl, by simp, fun hp => absurd hp (by simp)⟩, by simp, by simp⟩
    · have hle : len ≤ m := by rw [hmm]; split <;> omega
      have hsel : ∀ i : Fin len, ∃ y, (∃ cs', W.cells? 0 (a.add (i.val * P.cellsOf e)) (P.cellsOf e) = some cs' ∧ d.K W y cs') ∧ G y := fun i => by
        obtain ⟨cs', hcs, ht⟩ := hi i.val (Nat.lt_of_lt_of_le i.isLt hle)
        obtain ⟨y, hy, hg⟩ := h H enc W n cs' _ ht
        exact ⟨y, ⟨cs', hcs, hy⟩, hg⟩
      obtain ⟨f, hf⟩ : ∃ f : Fin len → α, ∀ i, (∃ cs', W.cells? 0 (a.add (i.val * P.cellsOf e)) (P.cellsOf e) = some cs' ∧ d.K W (f i) cs') ∧ G (f i) :=
        ⟨fun i => Classical.choose (hsel i), fun i => Classical.choose_spec (hsel i)⟩
      have hlen : (List.ofFn f).length = len := List.length_ofFn
      refine ⟨List.ofFn f, ⟨some a, cap, by rw [hlen], by rw [hlen]; exact hl, rfl, ?_, ?_⟩, ?_, ?_⟩
      · rw [hlen]; simp only [maxLen] at hm; omega
      · intro _
        refine ⟨a, rfl, fun j p hj => ?_⟩
        obtain ⟨hjl, hjp⟩ := List.getElem?_eq_some_iff.1 hj
        have hj' : j < len := by rw [hlen] at hjl; exact hjl
        obtain ⟨⟨cs', hcs, hk⟩, _⟩ := hf ⟨j, hj'⟩
        have hp : p = f ⟨j, hj'⟩ := by rw [← hjp]; simp
        subst hp
        obtain ⟨_, hcl, hat⟩ := World.cells?_some hcs
        refine ⟨cs', by rw [hcl, hc], hk, fun i u hiu => ?_⟩
        have hil : i < P.cellsOf e := by rw [← hcl]; exact (List.getElem?_eq_some_iff.1 hiu).1
        have h1 := hat i hil
        rw [hc] at h1
        rw [← Go.Deep.add_add, h1, hiu]
      · rw [hlen]; exact Nat.le_trans hl hm
      · intro y hy
        obtain ⟨i, rfl⟩ := List.mem_ofFn.1 hy
        exact (hf i).2

/-- A struct of one-cell fields: each field's own reading. -/
theorem fields {H : Type} {enc : TypeId × Value → H} {P : Program} {W : World} {t : TypeId} {fs : Array Field} {fuel : Nat} {cs : List Value} {x : DataW H × List MemPlace} (hs : P.underlying t = some (.struct fs)) (hone : oneCellFields P fs = true)
    (hC : P.cellsOf t = fs.size) (h : DataW.trod enc P W 0 (fun _ => true) true fuel t cs = some x) :
    cs.length = fs.size ∧ ∀ (j : Nat) (f : Field), fs[j]? = some f → ∃ (v : Value) (n : Nat) (y : DataW H × List MemPlace), cs[j]? = some v ∧ DataW.trod enc P W 0 (fun _ => true) true n f.type [v] = some y := by
  obtain ⟨ys, n, _, _, hlen, hyl, hf⟩ := DataW.trod_struct hs h
  refine ⟨hlen.trans hC, fun j f hj => ?_⟩
  obtain ⟨ho, hk⟩ := hone_of hone j f hj
  have hjl : j < fs.size := (Array.getElem?_eq_some_iff.1 hj).1
  have hcl : j < cs.length := by omega
  have h1 := hf j f hj
  rw [ho, hk] at h1
  have hone' : (cs.drop j).take 1 = [cs[j]'hcl] := by
    rw [List.drop_eq_getElem_cons hcl]
    rfl
  rw [hone'] at h1
  exact ⟨_, n, _, List.getElem?_eq_getElem hcl, h1.trans (List.getElem?_eq_getElem (by omega))⟩

/-- A slice among the arguments. -/
theorem arg_slice {P : Program} {t e : TypeId} {α : Type} {d : Kd α} {G : List α → Prop} (h : Opens P t (Kd.slice e d) G) {H : Type} {enc : TypeId × Value → H} {W : World} {a : Option Addr} {len cap : Nat} {D : DataW H} {p : List MemPlace}
    (hv : DataW.Trod enc P W 0 (fun _ => true) true t (.slice a len cap) D p) : ∃ l : List α, l.length = len ∧ len ≤ cap ∧ d.C W a l.length l ∧ G l := by
  obtain ⟨fuel, hf⟩ := hv
  obtain ⟨l, ⟨A, c, hcs, hl, hr⟩, g⟩ := h H enc W fuel _ _ hf
  simp only [Value.cells, List.cons.injEq, Value.slice.injEq, and_true] at hcs
  obtain ⟨rfl, rfl, rfl⟩ := hcs
  exact ⟨l, rfl, hl, hr, g⟩
end Go.Proofs.Ytemildnlfjijmaa.Open
