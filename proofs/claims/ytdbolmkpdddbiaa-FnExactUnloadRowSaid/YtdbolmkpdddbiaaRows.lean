/-
  No cell of these rows narrows 'for every input' (looked for: loops, veiled, ifaces, maps, wideKeys, modest, calm, conditions, laid).
  DERIVED. THE GIVEN ROWS OF THIS SEAT. 4 by the template 'for every input the law returns true; each argument reads behind the call as it read before'; 0 by the template 'total and deterministic' (their statements: YtdbolmkpdddbiaaTotals.lean).
  GIVEN WITH THE SEED: the statements are not yours to turn. If you find one false, say at which input.
  Laid BY PROGRAM, IN A SANDBOX (cutbox-rows.mjs): the forced cells as the released guide's own fill.sh prints them over the translation 687918ad428c2b36… (all of the seat's roots in one cut). By AI agents, Wed Nov 11 2026. No macro, syntax, notation, axiom, sorry.
-/
import Derived.Test.YtdbolmkpdddbiaaChecked
import GoSem.Claim
import GoSem.ClaimJoined
import GoSem.ClaimMapViews
import Derived.JoinedTies
import Derived.KernelRfl
namespace Go.Proofs.Ytdbolmkpdddbiaa
/- THE CELL 'sum', in the pinned program and in every row, IS THE sha256 OF THE DUMP (.gsa) THAT YtdbolmkpdddbiaaProg.lean LOADS. Nothing in Lean hashes anything: it is a label: what it is worth is what the hold of that sum in a sandbox is worth. -/
noncomputable def Try.pinned : Pinned := { name := "ytdbolmkpdddbiaa", sum := "687918ad428c2b361f975f4648d0146e654ae5a39069b1a9084fc59732388d9c", checked := Try.checked }
namespace Rows
def none {H : Type} : Left H := { results := [], args := [] }

/-- 'laws.FnExactLoadBox': WHATEVER THE INPUT: true; the input reads as it did. -/
def fnExactLoadBoxSpec : ChangeSpec := { name := "fnExactLoadBox", fn := fun _ => fun
  | [d1, d2, d3] => { results := [.lit (.bool true)], args := [d1, d2, d3] }
  | _ => none }
def fnExactLoadBoxRow : OpenClaim := { program := "ytdbolmkpdddbiaa", sum := "687918ad428c2b361f975f4648d0146e654ae5a39069b1a9084fc59732388d9c", func := "loop.example/g00906/laws.FnExactLoadBox", spec := "fnExactLoadBox", apart := false }
def FnExactLoadBoxSaid : Prop := fnExactLoadBoxRow.holds Try.pinned (OpenSpec.ofChange fnExactLoadBoxSpec)

/-- ITS FALSE NEIGHBOUR: 'it returns false'. Refute it at one input. -/
def fnExactLoadBoxWrong : ChangeSpec := { name := "fnExactLoadBox", fn := fun _ => fun
  | [d1, d2, d3] => { results := [.lit (.bool false)], args := [d1, d2, d3] }
  | _ => none }
def FnExactLoadBoxWrongFalsely : Prop := fnExactLoadBoxRow.holds Try.pinned (OpenSpec.ofChange fnExactLoadBoxWrong)

/-- 'laws.FnExactUnloadRow': WHATEVER THE INPUT: true; the input reads as it did. -/
def fnExactUnloadRowSpec : ChangeSpec := { name := "fnExactUnloadRow", fn := fun _ => fun
  | [d1, d2] => { results := [.lit (.bool true)], args := [d1, d2] }
  | _ => none }
def fnExactUnloadRowRow : OpenClaim := { program := "ytdbolmkpdddbiaa", sum := "687918ad428c2b361f975f4648d0146e654ae5a39069b1a9084fc59732388d9c", func := "loop.example/g00906/laws.FnExactUnloadRow", spec := "fnExactUnloadRow", apart := false }
def FnExactUnloadRowSaid : Prop := fnExactUnloadRowRow.holds Try.pinned (OpenSpec.ofChange fnExactUnloadRowSpec)

/-- ITS FALSE NEIGHBOUR: 'it returns false'. Refute it at one input. -/
def fnExactUnloadRowWrong : ChangeSpec := { name := "fnExactUnloadRow", fn := fun _ => fun
  | [d1, d2] => { results := [.lit (.bool false)], args := [d1, d2] }
  | _ => none }
def FnExactUnloadRowWrongFalsely : Prop := fnExactUnloadRowRow.holds Try.pinned (OpenSpec.ofChange fnExactUnloadRowWrong)

/-- 'laws.FnExactClearOrder': WHATEVER THE INPUT: true; the input reads as it did. -/
def fnExactClearOrderSpec : ChangeSpec := { name := "fnExactClearOrder", fn := fun _ => fun
  | [d] => { results := [.lit (.bool true)], args := [d] }
  | _ => none }
def fnExactClearOrderRow : OpenClaim := { program := "ytdbolmkpdddbiaa", sum := "687918ad428c2b361f975f4648d0146e654ae5a39069b1a9084fc59732388d9c", func := "loop.example/g00906/laws.FnExactClearOrder", spec := "fnExactClearOrder", apart := false }
def FnExactClearOrderSaid : Prop := fnExactClearOrderRow.holds Try.pinned (OpenSpec.ofChange fnExactClearOrderSpec)

/-- ITS FALSE NEIGHBOUR: 'it returns false'. Refute it at one input. -/
def fnExactClearOrderWrong : ChangeSpec := { name := "fnExactClearOrder", fn := fun _ => fun
  | [d] => { results := [.lit (.bool false)], args := [d] }
  | _ => none }
def FnExactClearOrderWrongFalsely : Prop := fnExactClearOrderRow.holds Try.pinned (OpenSpec.ofChange fnExactClearOrderWrong)

/-- 'laws.FnExactOverstowsOf': WHATEVER THE INPUT: true; the input reads as it did. -/
def fnExactOverstowsOfSpec : ChangeSpec := { name := "fnExactOverstowsOf", fn := fun _ => fun
  | [d1, d2] => { results := [.lit (.bool true)], args := [d1, d2] }
  | _ => none }
def fnExactOverstowsOfRow : OpenClaim := { program := "ytdbolmkpdddbiaa", sum := "687918ad428c2b361f975f4648d0146e654ae5a39069b1a9084fc59732388d9c", func := "loop.example/g00906/laws.FnExactOverstowsOf", spec := "fnExactOverstowsOf", apart := false }
def FnExactOverstowsOfSaid : Prop := fnExactOverstowsOfRow.holds Try.pinned (OpenSpec.ofChange fnExactOverstowsOfSpec)

/-- ITS FALSE NEIGHBOUR: 'it returns false'. Refute it at one input. -/
def fnExactOverstowsOfWrong : ChangeSpec := { name := "fnExactOverstowsOf", fn := fun _ => fun
  | [d1, d2] => { results := [.lit (.bool false)], args := [d1, d2] }
  | _ => none }
def FnExactOverstowsOfWrongFalsely : Prop := fnExactOverstowsOfRow.holds Try.pinned (OpenSpec.ofChange fnExactOverstowsOfWrong)

/- THE SECOND FORM. 'bulk': how many values and letters a reading holds, each counted each time it is reached (what is shared counts as often as it is met; a slice's spare places count too). A statement '..UptoSaid' is the law's where the arguments, and the package variables that the reading takes, are together of bulk at most 1048576: NARROWER than '..Said'. Prove '..Said' where nothing that the law and all that it calls make is longer than what came in: it says more and counts as full. Else prove '..UptoSaid'. A law counts once. -/
mutual
def uptoBulk {H : Type} : DataW H → Nat
  | .lit (.string bytes) => bytes.length + 1
  | .lit _ => 1
  | .nil => 1
  | .ptr d => uptoBulk d + 1
  | .slice elems spare => uptoBulkAll elems + uptoBulkAll spare + 1
  | .agg parts => uptoBulkAll parts + 1
  | .iface _ d => uptoBulk d + 1
  | .map entries => uptoBulkEntries entries + 1
  | .held _ => 1
def uptoBulkAll {H : Type} : List (DataW H) → Nat
  | [] => 0
  | d :: r => uptoBulk d + uptoBulkAll r
def uptoBulkEntries {H : Type} : List (Lit × DataW H) → Nat
  | [] => 0
  | x :: r => uptoBulkEntry x + uptoBulkEntries r
def uptoBulkEntry {H : Type} : Lit × DataW H → Nat
  | (.string bytes, d) => bytes.length + uptoBulk d + 1
  | (_, d) => uptoBulk d + 1
 end
def uptoSmall : (H : Type) → List (DataW H) → Bool := fun _ ds => decide (uptoBulkAll ds ≤ 1048576)
def OpenSpec.upto (s : _root_.Go.ChangeSpec) : _root_.Go.OpenSpec := { _root_.Go.OpenSpec.ofChange s with cond := some uptoSmall }

/-- 'laws.FnExactLoadBox', WHERE WHAT IT READS IS OF BULK AT MOST 1048576: true; the input reads as it did. -/
def fnExactLoadBoxUptoRow : OpenClaim := { program := "ytdbolmkpdddbiaa", sum := "687918ad428c2b361f975f4648d0146e654ae5a39069b1a9084fc59732388d9c", func := "loop.example/g00906/laws.FnExactLoadBox", spec := "fnExactLoadBox", apart := false, narrowed := true }
def FnExactLoadBoxUptoSaid : Prop := fnExactLoadBoxUptoRow.holds Try.pinned (OpenSpec.upto fnExactLoadBoxSpec)

/-- 'laws.FnExactUnloadRow', WHERE WHAT IT READS IS OF BULK AT MOST 1048576: true; the input reads as it did. -/
def fnExactUnloadRowUptoRow : OpenClaim := { program := "ytdbolmkpdddbiaa", sum := "687918ad428c2b361f975f4648d0146e654ae5a39069b1a9084fc59732388d9c", func := "loop.example/g00906/laws.FnExactUnloadRow", spec := "fnExactUnloadRow", apart := false, narrowed := true }
def FnExactUnloadRowUptoSaid : Prop := fnExactUnloadRowUptoRow.holds Try.pinned (OpenSpec.upto fnExactUnloadRowSpec)

/-- 'laws.FnExactClearOrder', WHERE WHAT IT READS IS OF BULK AT MOST 1048576: true; the input reads as it did. -/
def fnExactClearOrderUptoRow : OpenClaim := { program := "ytdbolmkpdddbiaa", sum := "687918ad428c2b361f975f4648d0146e654ae5a39069b1a9084fc59732388d9c", func := "loop.example/g00906/laws.FnExactClearOrder", spec := "fnExactClearOrder", apart := false, narrowed := true }
def FnExactClearOrderUptoSaid : Prop := fnExactClearOrderUptoRow.holds Try.pinned (OpenSpec.upto fnExactClearOrderSpec)

/-- 'laws.FnExactOverstowsOf', WHERE WHAT IT READS IS OF BULK AT MOST 1048576: true; the input reads as it did. -/
def fnExactOverstowsOfUptoRow : OpenClaim := { program := "ytdbolmkpdddbiaa", sum := "687918ad428c2b361f975f4648d0146e654ae5a39069b1a9084fc59732388d9c", func := "loop.example/g00906/laws.FnExactOverstowsOf", spec := "fnExactOverstowsOf", apart := false, narrowed := true }
def FnExactOverstowsOfUptoSaid : Prop := fnExactOverstowsOfUptoRow.holds Try.pinned (OpenSpec.upto fnExactOverstowsOfSpec)

end Rows
end Go.Proofs.Ytdbolmkpdddbiaa
