/- For every input the law FnBays answers true and leaves its arguments as they were; no condition. The row, out of its pure statement and the walk. Written by a program of this session. -/
import Derived.Test.YtnknojpijmfefaaGreatDoorRows
import Derived.Test.YtnknojpijmfefaaGreatDoorPx31
import Derived.Test.YtnknojpijmfefaaGreatDoorUBysAll
import Derived.Test.YtnknojpijmfefaaGreatDoorOpen
import Derived.WalkKit
import Derived.ProofKit
import Derived.OpenShut
import Derived.ShutString
import Derived.ChangeOld
import Derived.Below
import Derived.SizedLaws
import Derived.Carry
import Derived.LaidMore
import Derived.Stop.Joined
import Derived.Stop.LaidErr
import Derived.Lib.LaidTab
import Derived.MakeChecks
import Derived.Lay
import Derived.Deep.DeepHandedRow
namespace Go.Proofs.YtnknojpijmfefaaGreatDoor.Pure
open Go.RowKit Go.Proofs.YtnknojpijmfefaaGreatDoor.P Go.Proofs.YtnknojpijmfefaaGreatDoorW.PrintWords Go.Proofs.YtnknojpijmfefaaGreatDoorW.PrintLast

theorem FnBays : laws_FnBays.Pure := by
  intro l0 h
  have hl : l0.length ≤ 9223372036854775807 := h.1
  obtain ⟨K, hK⟩ := Go.Proofs.YtnknojpijmfefaaGreatDoor.UB.law_true hl (fun x hx => Go.Proofs.YtnknojpijmfefaaGreatDoor.UD.wf_u8 (h.2 x hx))
  exact ⟨K, hK K rfl⟩

end Go.Proofs.YtnknojpijmfefaaGreatDoor.Pure
namespace Go.Proofs.YtnknojpijmfefaaGreatDoor.fnBays
open Go.ChangeShapes Go.WideShapes Go.ChangeAt Go.RowKit Go.Proofs.YtnknojpijmfefaaGreatDoorW.PrintWords Go.Proofs.YtnknojpijmfefaaGreatDoor.P
open Go.ChangeMaps (open_string shut_string)
set_option linter.unusedVariables false
theorem own : ownKnob Tryz.prog.godebug = none := by kernel_rfl
theorem laidOut : laidOutB Tryz.prog = true := by kernel_rfl
/-- The listed variables, laid, meet the condition on them. -/
theorem door_met (os : Os) (args : Array Value) : laidMetH Tryz.prog Rows.fnBaysRow.laid ((World.laidAll Tryz.prog os Rows.fnBaysRow.laid).forCall (fun _ _ => 0) ⟨#[], args, []⟩).memory := by
  rw [MakeChecks.laidMetH_plain _ _ _ (by kernel_rfl)]
  exact laidMet_laidAll args (by kernel_rfl) (by kernel_rfl)
theorem star : "*" ++ "errors.errorString" = "*errors.errorString" := by decide
theorem rowErr (u : TypeId) (h : Tryz.prog.typeName? 3 u = some "*errors.errorString") : u = 126 :=
  typeName_ptr_named (nm := "errors.errorString") (by rw [star]; kernel_rfl) (by kernel_rfl) (by decide) u (by rw [star]; exact h)
theorem gSyn : Tryz.prog.globalNamed "strconv.ErrSyntax" = some 1 := by kernel_rfl
theorem gRan : Tryz.prog.globalNamed "strconv.ErrRange" = some 2 := by kernel_rfl
theorem gSynT : (Tryz.prog.globals[1]?).map (·.type) = some 77 := by kernel_rfl
theorem gRanT : (Tryz.prog.globals[2]?).map (·.type) = some 77 := by kernel_rfl
theorem gPowT : (Tryz.prog.globals[5]?).map (·.type) = some 130 := by kernel_rfl
theorem cellsE : Tryz.prog.cellsOf 128 = 1 := by kernel_rfl
theorem cellsS : Tryz.prog.cellsOf 9 = 1 := by kernel_rfl
theorem cellsU : Tryz.prog.cellsOf 42 = 1 := by kernel_rfl
theorem cellsP : Tryz.prog.cellsOf 130 = 20 := by kernel_rfl
theorem powData : (Rows.laid_internal_strconv_uint64pow10 : DataW Unit) = Lib.tabData .u64 Lib.pow10Tab := by kernel_rfl
/-- What the walk asks of the library's variables, out of the row's list and of the world's shape. -/
theorem glob {W : World} (h0 : laidMetH Tryz.prog Rows.fnBaysRow.laid W) (hsh : W.ShapedOpen Tryz.prog) : P.GGlob W := by
  rw [MakeChecks.laidMetH_plain _ _ _ (by kernel_rfl)] at h0
  obtain ⟨m, hm⟩ : ∃ m, W.cell? ⟨0, 0, none⟩ = some (.int .i64 m) := Go.Proofs.cell_of_shapedOpen_int (zero := #[.int .i64 0]) (t := 3) hsh (of_decide_eq_true (by kernel_rfl)) (by kernel_rfl) rfl (by kernel_rfl) (by kernel_rfl) Tryz.underlying3
  have h2 := laidMet.tail (laidMet.tail (show laidMet Tryz.prog [("math/bits.deBruijn32tab", Rows.laid_math_bits_deBruijn32tab), ("math/bits.deBruijn64tab", Rows.laid_math_bits_deBruijn64tab), ("internal/strconv.uint64pow10", Rows.laid_internal_strconv_uint64pow10), ("unicode/utf8.acceptRanges", Rows.laid_unicode_utf8_acceptRanges), ("strconv.ErrRange", Rows.laid_strconv_ErrRange), ("strconv.ErrSyntax", Rows.laid_strconv_ErrSyntax), ("unicode/utf8.first", Rows.laid_unicode_utf8_first)] W from h0))
  rw [powData] at h2
  have hT := Lib.tabIs_of_head P.gPow gPowT Tryz.underlying130 Tryz.underlying42 cellsU cellsP h2
  have h3 := laidMet.tail (laidMet.tail h2)
  obtain ⟨aR, sR, hvR, _⟩ := laid_sentinel h3 gRan gRanT Tryz.underlying77 rowErr Tryz.underlying126 Tryz.underlying128 rfl rfl Tryz.underlying9 cellsE cellsS
  obtain ⟨aS, sS, hvS, _⟩ := laid_sentinel (laidMet.tail h3) gSyn gSynT Tryz.underlying77 rowErr Tryz.underlying126 Tryz.underlying128 rfl rfl Tryz.underlying9 cellsE cellsS
  exact ⟨m, _, _, hm, by simpa using World.var?_cell gSyn hvS 0, Or.inr ⟨_, _, rfl⟩, by simpa using World.var?_cell gRan hvR 0, Or.inr ⟨_, _, rfl⟩, hT⟩
set_option maxRecDepth 100000 in
theorem lifted (os : Os) (started : os.Started) (H : Type) (enc : TypeId × Value → H) (F : Stop.Interp) :
    ReturnsInHanded {} Tryz.checked os 3 .any ((OpenSpec.ofChange Rows.fnBaysSpec).preRow enc Tryz.prog Tryz.f3 Rows.fnBaysRow.domain false Rows.fnBaysRow.laid) (((OpenSpec.ofChange Rows.fnBaysSpec).at F).post enc Tryz.prog Tryz.f3 false true false false) := by
  refine returnsInHanded_of_row (C := Tryz.checked) (s := OpenSpec.ofChange Rows.fnBaysSpec) own started (by kernel_rfl) Tryz.func3
    (ChangeSpec.witness_shaped (enc := enc) (C := Tryz.checked) (os := os) (X := fun w _ => laidMetH Tryz.prog Rows.fnBaysRow.laid w) false (World.laidAll Tryz.prog os Rows.fnBaysRow.laid) #[.slice none 0 0] 8 (World.laidAll_os _ _ _) (World.shaped_of_ZipB (by kernel_rfl) (by kernel_rfl)) (by kernel_rfl) (by kernel_rfl) (by kernel_rfl) (door_met os _)) ?_
  intro W base args ds gs before hval0 hW hcnd _ hsz0 hL hsh _
  have hsz : (DataW.weightsEach Tryz.prog (Tryz.f3.params.toList ++ Rows.fnBaysSpec.plain.varTypes Tryz.prog) (ds ++ gs)).all (· ≤ reachBytes) = true := hsz0
  have hval : ∀ (j : Nat) t v, Tryz.f3.params[j]? = some t → args[j]? = some v → Value.okWide Tryz.prog W .any base t v := hval0
  have hW' := hW
  obtain ⟨p, q, hA0, hV, rfl, hfz, hnd⟩ := hW
  have hA : DataW.TrodAll enc Tryz.prog W 0 (fun _ => true) true Tryz.f3.params.toList args.toList ds p := hA0
  rw [Tryz.params3] at hA hval hsz
  obtain ⟨v0, vs0, d0, ds0, p0, q0, hargs, rfl, rfl, h0, r0⟩ := trodAll_cons hA
  obtain ⟨rfl, rfl, rfl⟩ := trodAll_nil r0
  obtain rfl : args = #[v0] := by cases args; simp_all
  obtain ⟨rfl, rfl⟩ := trodVars_none hV
  obtain ⟨A0, len0, c0, rfl⟩ := okWide_slice Tryz.underlying22 (hval 0 22 v0 rfl rfl)
  have k0 := h0
  have lt0 : ∀ x ∈ p0, x.block < W.heap.size := by obtain ⟨m, hm⟩ := k0; exact DataW.trod_lt m _ _ _ hm
  obtain ⟨l0, rfl, hc0, hr0, g0⟩ := Go.Proofs.YtnknojpijmfefaaGreatDoor.Open.arg_slice (Go.Proofs.YtnknojpijmfefaaGreatDoor.Open.opens_slice Tryz.underlying22 (by kernel_rfl) (Go.Proofs.YtnknojpijmfefaaGreatDoor.Open.opens_int Tryz.underlying5)) h0
  clear hA0 hval0 hsz0 hsz
  refine (P.laws_FnBays.walk Pure.FnBays A0 c0 l0 W hr0 hc0 g0 (glob hL hsh)).mono fun e W' ⟨he, bel⟩ => ?_
  subst he
  exact ⟨_, rfl, _, _, _, [], _, [], hW', trodAll_mk1 (shut_bool Tryz.underlying4 _), (trodAll_cons_mk (Below.trod laidOut (by kernel_rfl) (of_decide_eq_true (by kernel_rfl)) k0 bel lt0) trodAll_mk0), rfl, bel.frame _, fun h => by cases h⟩
theorem over : Rows.fnBaysRow.holds Tryz.pinned (OpenSpec.ofChange Rows.fnBaysSpec) :=
  OpenClaim.holds_of_cond 3 Tryz.f3 rfl rfl rfl rfl rfl rfl rfl ⟨rfl, rfl, rfl, rfl, rfl⟩ rfl rfl rfl rfl rfl (by kernel_rfl) Tryz.func3 (by kernel_rfl)
    (of_decide_eq_true (by kernel_rfl)) (by unfold Func.isWrapper; first | (rw [if_pos (by decide +kernel)]; kernel_rfl) | (rw [if_neg (by decide +kernel)]; exact ⟨rfl, rfl⟩))
    (fun os started H enc _ F => by rw [OpenClaim.pre_eq_preRow]; exact lifted os started H enc F)
theorem proved : Rows.FnBaysSaid := over
#print axioms proved
end Go.Proofs.YtnknojpijmfefaaGreatDoor.fnBays
namespace Go.Proofs.YtnknojpijmfefaaGreatDoor
/-- The row, under a short name, for the claim. -/
theorem fnBays_holds : Rows.FnBaysSaid := fnBays.proved
end Go.Proofs.YtnknojpijmfefaaGreatDoor
