-- Written by a program of this session over the translation (a variant of the printer, see wip/gen); Lean checks it.
import Derived.Test.YtnknojpijmfefaaGreatDoorPx0
import Derived.Test.YtnknojpijmfefaaGreatDoorU
import Derived.Shelf.Strings.Split
import Derived.Shelf.Strconv.AtoiAll
import Derived.Shelf.Strconv.Itoa3
import Derived.WalkSmall
import Derived.Lib.LaidTab
import Derived.Lib.Split
import Derived.Test.YtnknojpijmfefaaGreatDoorPbCom
import Derived.Test.YtnknojpijmfefaaGreatDoorShelf4
namespace Go.Proofs.YtnknojpijmfefaaGreatDoor.P
open Go.RowKit Go.Proofs.YtnknojpijmfefaaGreatDoorW.PrintWords Go.Proofs.YtnknojpijmfefaaGreatDoorW.PrintLast Go.Proofs.YtnknojpijmfefaaGreatDoorW.PrintMore
attribute [local go_sem] Go.Proofs.YtnknojpijmfefaaGreatDoor.V.isSome_setCell max2_int min2_int max_two min_two max_three min_three max_four min_four   -- for this text's walks alone
set_option linter.unusedVariables false
set_option linter.unusedSimpArgs false

/-! ### strings_Split: function 30 -/
/-- What the library's own variables hold, as far as the calls below ask for it. -/
def GGlob (w : World) : Prop := ∃ (m : Int) (es er : Value), w.cell? ⟨0, 0, none⟩ = some (.int .i64 m) ∧ w.cell? ⟨1, 0, none⟩ = some es ∧ (es = .nilIface ∨ ∃ te pe, es = .iface te pe) ∧ w.cell? ⟨2, 0, none⟩ = some er ∧ (er = .nilIface ∨ ∃ te pe, er = .iface te pe) ∧ Go.Lib.TabIs Tryz.prog w "internal/strconv.uint64pow10" .u64 Go.Lib.pow10Tab
theorem gPow : Tryz.prog.globalNamed "internal/strconv.uint64pow10" = some 5 := by kernel_rfl
theorem GGlob.below {b : Nat} {w w' : World} (h : GGlob w) (hw : w.heap.size ≤ b) (hb : Below b w w') : GGlob w' := by
  obtain ⟨m, es, er, h0, h1, k1, h2, k2, h3⟩ := h
  have hc : ∀ {a : Addr} {v : Value}, w.cell? a = some v → w'.cell? a = some v := fun {a v} e => (hb.cell (Nat.lt_of_lt_of_le (World.block_lt_of_cell? _ _ e) hw)).trans e
  have hl : 5 < w.heap.size := World.block_lt_of_cell? _ _ (h3.cell gPow 0 (by rw [Go.Lib.pow10Tab_length]; decide))
  exact ⟨m, es, er, hc h0, hc h1, k1, hc h2, k2, var?_below hb gPow (Nat.lt_of_lt_of_le hl hw) h3⟩
/-- The parts of a text between bytes c. -/
def wordsB (s : ByteArray) (c : UInt8) : List ByteArray := Go.Lib.splitB ⟨#[c]⟩ 0 (Go.Lib.countB s ⟨#[c]⟩) s
theorem wordsB_len (s : ByteArray) (c : UInt8) : (wordsB s c).length = Go.Lib.countB s ⟨#[c]⟩ + 1 := Go.Lib.splitB_all ⟨#[c]⟩ (Nat.le_refl 1) 0 _ s rfl
theorem wordsB_le (s : ByteArray) (c : UInt8) : (wordsB s c).length ≤ s.size + 1 := by
  rw [wordsB_len]
  exact Nat.succ_le_succ (Go.Lib.countB_le ⟨#[c]⟩ (Nat.le_refl 1) s.size s (Nat.le_refl _))
theorem strings_Split.calls (s : ByteArray) (c : UInt8) (w : World) (hs : s.size ≤ 1048576) (hG : GGlob w) :
    Calls Tryz.prog 30 #[.string s, .string ⟨#[c]⟩] w fun e w' => e = .returned (.slice (some ⟨w.heap.size, 0, none⟩) (wordsB s c).length (wordsB s c).length) ∧ Kd.R Kd.string 9 w' w.heap.size (fun _ => True) (.slice (some ⟨w.heap.size, 0, none⟩) (wordsB s c).length (wordsB s c).length) (wordsB s c) ∧ Below w.heap.size w w' := by
  obtain ⟨m, _, _, h0, _⟩ := hG
  refine (Go.Proofs.Tryz.strings_Split s ⟨#[c]⟩ m w (by omega) h0 (Nat.le_refl 1)).mono ?_
  rintro e w' ⟨rfl, rfl⟩
  rw [← wordsB_len]
  exact ⟨rfl, strR w (wordsB s c) (by have := wordsB_le s c; omega), below_alloc (Below.refl _ _) _⟩


end Go.Proofs.YtnknojpijmfefaaGreatDoor.P
