-- Written by a program of this session over the translation (a variant of the printer, see wip/gen); Lean checks it.
import Derived.Test.YtooknbndbfkpcaaDoorPx0
import Derived.Test.YtooknbndbfkpcaaDoorU
import Derived.Shelf.Strings.Cut
import Derived.Shelf.Strconv.AtoiAll
import Derived.Shelf.Strconv.Itoa3
import Derived.WalkSmall
import Derived.Lib.LaidTab
import Derived.Test.YtooknbndbfkpcaaDoorShelf4
namespace Go.Proofs.YtooknbndbfkpcaaDoor.P
open Go.RowKit Go.Proofs.YtooknbndbfkpcaaDoorW.PrintWords Go.Proofs.YtooknbndbfkpcaaDoorW.PrintLast Go.Proofs.YtooknbndbfkpcaaDoorW.PrintMore
attribute [local go_sem] Go.Proofs.YtooknbndbfkpcaaDoor.V.isSome_setCell max2_int min2_int max_two min_two max_three min_three max_four min_four   -- for this text's walks alone
set_option linter.unusedVariables false
set_option linter.unusedSimpArgs false

/-! ### strings_Cut: function 11 -/
/-- What the library's own variables hold, as far as the calls below ask for it. -/
def GGlob (w : World) : Prop := ∃ (m : Int) (es er : Value), w.cell? ⟨0, 0, none⟩ = some (.int .i64 m) ∧ w.cell? ⟨1, 0, none⟩ = some es ∧ (es = .nilIface ∨ ∃ te pe, es = .iface te pe) ∧ w.cell? ⟨2, 0, none⟩ = some er ∧ (er = .nilIface ∨ ∃ te pe, er = .iface te pe) ∧ Go.Lib.TabIs Tryd.prog w "internal/strconv.uint64pow10" .u64 Go.Lib.pow10Tab
theorem gPow : Tryd.prog.globalNamed "internal/strconv.uint64pow10" = some 3 := by kernel_rfl
theorem GGlob.below {b : Nat} {w w' : World} (h : GGlob w) (hw : w.heap.size ≤ b) (hb : Below b w w') : GGlob w' := by
  obtain ⟨m, es, er, h0, h1, k1, h2, k2, h3⟩ := h
  have hc : ∀ {a : Addr} {v : Value}, w.cell? a = some v → w'.cell? a = some v := fun {a v} e => (hb.cell (Nat.lt_of_lt_of_le (World.block_lt_of_cell? _ _ e) hw)).trans e
  have hl : 3 < w.heap.size := World.block_lt_of_cell? _ _ (h3.cell gPow 0 (by rw [Go.Lib.pow10Tab_length]; decide))
  exact ⟨m, es, er, hc h0, hc h1, k1, hc h2, k2, var?_below hb gPow (Nat.lt_of_lt_of_le hl hw) h3⟩
def strings_Cut.f (a0 : ByteArray) (a1 : ByteArray) : Option (ByteArray × ByteArray × Bool) := if a0.size ≤ 1048576 then some (⟨(Go.Lib.cut a0.data.toList a1.data.toList).1.toArray⟩, ⟨(Go.Lib.cut a0.data.toList a1.data.toList).2.1.toArray⟩, (Go.Lib.cut a0.data.toList a1.data.toList).2.2) else none
theorem strings_Cut.calls (a0 : ByteArray) (a1 : ByteArray) (r1 : ByteArray) (r2 : ByteArray) (r3 : Bool) (w : World) (h : strings_Cut.f a0 a1 = some (r1, r2, r3)) (hG : GGlob w) :
    Calls Tryd.prog 11 #[.string a0, .string a1] w fun e w' => e = .returned (.tuple #[.string r1, .string r2, .bool r3]) ∧ Drawn0 w w' := by
  unfold strings_Cut.f at h
  split at h
  case isFalse => cases h
  case isTrue hc =>
  injection h with h
  injection h with h1 h
  injection h with h2 h3
  subst h1 h2 h3
  obtain ⟨m, _, _, h0, _⟩ := hG
  refine (Go.Proofs.Tryd.strings_Cut a0 a1 m w (by omega) h0).mono ?_
  rintro e w' ⟨rfl, n, rfl⟩
  exact ⟨rfl, n, rfl⟩


end Go.Proofs.YtooknbndbfkpcaaDoor.P
