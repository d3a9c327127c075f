-- Written by a program of this session over the translation (a variant of the printer, see wip/gen); Lean checks it.
import Derived.Test.YtnknojpijmfefaaGreatDoorPx0
import Derived.Test.YtnknojpijmfefaaGreatDoorPx20
import Derived.Test.YtnknojpijmfefaaGreatDoorU
import Derived.BigQuiet
import Derived.Deep.QuietTactic
namespace Go.Proofs.YtnknojpijmfefaaGreatDoor.P
open Go.RowKit Go.Proofs.YtnknojpijmfefaaGreatDoorW.PrintWords Go.Proofs.YtnknojpijmfefaaGreatDoorW.PrintLast Go.Proofs.YtnknojpijmfefaaGreatDoorW.PrintMore
attribute [local go_sem] Go.Proofs.YtnknojpijmfefaaGreatDoor.V.isSome_setCell max2_int min2_int max_two min_two max_three min_three max_four min_four   -- for this text's walks alone
set_option linter.unusedVariables false
set_option linter.unusedSimpArgs false

/-! ### impl_linesOf: function 29 -/
/-- The lines of a text, and whether the last one ends. -/
def linesF (s : ByteArray) : List ByteArray × Bool := if s.size = 0 then ([], true) else ((wordsB s 10).take ((wordsB s 10).length - 1), decide ((rdOf ByteArray.empty (wordsB s 10) (((wordsB s 10).length - 1 : Nat) : Int)).data.toList = []))
theorem str_empty (s : ByteArray) : s.toList = s.data.toList := by
  obtain ⟨⟨l⟩⟩ := s
  simp
set_option maxHeartbeats 8000000 in
set_option maxRecDepth 100000 in
/-- THE CALL -/
theorem impl_linesOf.calls (s : ByteArray) (w : World) (hs : s.size ≤ 1048576) (hG : GGlob w) :
    Calls Tryz.prog 29 #[.string s] w fun e w' => ∃ v : Value, e = .returned (.tuple #[v, .bool (linesF s).2]) ∧ Kd.R Kd.string 9 w' w.heap.size (fun _ => True) v (linesF s).1 ∧ Below w.heap.size w w' := by
  by_cases h0 : s.size = 0
  · have e : linesF s = ([], true) := by unfold linesF; rw [if_pos h0]
    rw [e]
    have e2 : s = ⟨#[]⟩ := by
      obtain ⟨⟨l⟩⟩ := s
      simp [ByteArray.size] at h0
      rw [h0]
    subst e2
    clear e h0
    go_enter Tryz.func29, Tryz.ntmps29
    go_wp2
    go_ret2
    exact ⟨_, rfl, Kd.R_nil _ _ _ _ _, Below.refl _ _⟩
  · have e : linesF s = ((wordsB s 10).take ((wordsB s 10).length - 1), decide ((rdOf ByteArray.empty (wordsB s 10) (((wordsB s 10).length - 1 : Nat) : Int)).data.toList = [])) := by unfold linesF; rw [if_neg h0]
    have hl := wordsB_len s 10
    have hle := wordsB_le s 10
    obtain ⟨n, hn⟩ : ∃ n : Nat, (wordsB s 10).length = n + 1 := ⟨_, hl⟩
    rw [hn, Nat.add_sub_cancel] at e
    have hn6 : n ≤ 1048576 := by omega
    have HN := Aside0.mk hn
    have hne : ¬ s.data.toList = [] := fun h => h0 (by show s.data.toList.length = 0; rw [h]; rfl)
    have hne2 : ¬ s.toList = [] := by rw [str_empty]; exact hne
    have hne3 : (s.toList == []) = false := by simpa using hne2
    have hne4 : s.toList.isEmpty = false := by simpa using hne2
    have hne5 : (!s.toList.isEmpty) = true := by rw [hne4]; rfl
    have HG := Aside0.mk hG
    rw [e]
    dsimp only
    have HE := Aside0.mk e
    have hll : ((wordsB s 10).take n).length = n := by rw [List.length_take, hn]; omega
    have HLl := Aside0.mk hll
    obtain ⟨x, hxx⟩ : ∃ x, x = rdOf ByteArray.empty (wordsB s 10) (n : Int) := ⟨_, rfl⟩
    rw [← hxx]
    have HXx := Aside0.mk hxx
    clear hl hle hn e hG hne hll hxx HE
    go_enter Tryz.func29, Tryz.ntmps29
    go_upto_region 5 with (first | (go_at_call 30; (refine (strings_Split.calls s 10 _ hs HG.out).mono ?_); rintro e w1 ⟨rfl, hC, hb⟩; have HC := Aside0.mk hC; have HB := Aside0.mk hb; rw [HN.out]; clear hC hb))
    have hc := (Kd.R_reads' HC.out).2.2
    rw [HN.out] at hc
    obtain ⟨ad, ea, hx⟩ := Kd.at_string hc (n : Int) (by omega) (by omega)
    injection ea with ea
    subst ea
    rw [Int.toNat_natCast, show (⟨w.heap.size, 0, none⟩ : Addr).add n = ⟨w.heap.size, n, none⟩ by unfold Addr.add; split <;> simp_all] at hx
    have hn1 : n ≤ n + 1 := by omega
    have hn2 : n < n + 1 := by omega
    rw [← HXx.out] at hx
    have HCt := Aside0.mk (show Kd.R Kd.string 9 w1 w.heap.size (fun _ => True) (.slice (some ⟨w.heap.size, 0, none⟩) n (n + 1)) ((wordsB s 10).take n) by
      have h1 := Kd.R_take (m := n) HC.out (by rw [HN.out]; omega)
      rw [HN.out] at h1
      exact h1)
    clear hc hne2 hne3 hne4 hne5
    by_cases hxe : x.data.toList = []
    · have hx2 : x.toList = [] := by rw [str_empty]; exact hxe
      have hx3 : (x.toList == []) = true := by simpa using hx2
      have hx4 : x.toList.isEmpty = true := by simpa using hx2
      have HD := Aside0.mk (show decide (x.data.toList = []) = true from decide_eq_true hxe)
      clear hxe
      go_quiet (fail)
      go_wp2
      go_ret2
      refine ⟨.slice (some ⟨w.heap.size, 0, none⟩) n (n + 1), ?_, Kd.R_drewN HCt.out _, pw_below_drewN HB.out _⟩
      rw [HD.out]
      rfl
    · have hx2 : ¬ x.toList = [] := by rw [str_empty]; exact hxe
      have hx3 : (x.toList == []) = false := by simpa using hx2
      have hx4 : x.toList.isEmpty = false := by simpa using hx2
      have HD := Aside0.mk (show decide (x.data.toList = []) = false from decide_eq_false hxe)
      clear hxe
      go_quiet (fail)
      go_wp2
      go_ret2
      refine ⟨.slice (some ⟨w.heap.size, 0, none⟩) n (n + 1), ?_, Kd.R_drewN HCt.out _, pw_below_drewN HB.out _⟩
      rw [HD.out]
      rfl


end Go.Proofs.YtnknojpijmfefaaGreatDoor.P
