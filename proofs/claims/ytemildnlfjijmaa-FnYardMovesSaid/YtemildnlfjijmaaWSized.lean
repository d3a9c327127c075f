-- Out of the words of the kit's printer, cut down by a program of this session (wip/gen/trim.py) to what this claim names; Lean checks it.
-- PRINTED WORDS (module Derived/Print/Sized.lean): go-gate-2's, for the rows of laws over slices: an AI agent of Go's test side, Tue Nov 17 2026; no person has read it. Lean checks it.
import Derived.SizedLaws
import Derived.ChangeSlices
namespace Go.Proofs.YtemildnlfjijmaaW.PrintWords
open Go.ChangeShapes Go.WideShapes
end Go.Proofs.YtemildnlfjijmaaW.PrintWords
