-- Written by a program of this session over the translation (a variant of the printer, see wip/gen); Lean checks it.
import Derived.Test.YtnknojpijmfefaaGreatDoorPx0
import Derived.Test.YtnknojpijmfefaaGreatDoorPx5
import Derived.Test.YtnknojpijmfefaaGreatDoorU
import Derived.Test.YtnknojpijmfefaaGreatDoorGM
namespace Go.Proofs.YtnknojpijmfefaaGreatDoor.P
open Go.RowKit Go.Proofs.YtnknojpijmfefaaGreatDoorW.PrintWords Go.Proofs.YtnknojpijmfefaaGreatDoorW.PrintLast Go.Proofs.YtnknojpijmfefaaGreatDoorW.PrintMore
attribute [local go_sem] Go.Proofs.YtnknojpijmfefaaGreatDoor.V.isSome_setCell max2_int min2_int max_two min_two max_three min_three max_four min_four   -- for this text's walks alone
set_option linter.unusedVariables false
set_option linter.unusedSimpArgs false

/-! ### impl_IsValidBay: function 9 -/
/-- A bay is valid: 1 to 4 high, 1 to 5 rows, none higher than the bay, each number from 1 to 99, none twice. -/
def okBay (h : Int) (l : List (List Int)) : Bool := Go.Proofs.YtnknojpijmfefaaGreatDoor.U.inr h 1 4 && (Go.Proofs.YtnknojpijmfefaaGreatDoor.U.inr (l.length : Int) 1 5 && (Go.Proofs.YtnknojpijmfefaaGreatDoor.U.chkRows h l []).isSome)
def impl_IsValidBay.f (a0_0 : Int) (l0_1 : List (List Int)) : Option (Bool) := some (okBay a0_0 l0_1)
theorem impl_within_eq (a b c : Int) : impl_within.f a b c = some (Go.Proofs.YtnknojpijmfefaaGreatDoor.U.inr a b c) := by
  unfold impl_within.f Go.Proofs.YtnknojpijmfefaaGreatDoor.U.inr
  by_cases h : b ≤ a <;> simp [h]
theorem impl_IsValidBay.atRow {w : World} {A : Option Addr} {n : Nat} {xs : List (List Int)} (h : Kd.C (Kd.slice 3 (Kd.int .i64)) w A n xs) (i : Nat) (h1 : i < n) : ∃ ad A0 c0, A = some ad ∧ w.cell? (ad.add i) = some (.slice A0 (xs.getD i []).length c0) ∧ (xs.getD i []).length ≤ c0 ∧ Kd.C (Kd.int .i64) w A0 (xs.getD i []).length (xs.getD i []) := by
  obtain ⟨ad, c, e, _, hK, hc0⟩ := Kd.C_get h ([] : List Int) (i : Int) (by omega) (by omega)
  have hc : ∀ j u, c[j]? = some u → w.cell? (ad.add ((i : Int).toNat * 1 + j)) = some u := hc0
  obtain ⟨A0, c0, rfl, l0, g0⟩ := hK
  have hq := hc 0 _ rfl
  rw [Nat.mul_one, Nat.add_zero, Int.toNat_natCast] at hq
  exact ⟨ad, A0, c0, e, hq, l0, g0⟩
theorem impl_IsValidBay.atInt {w : World} {A : Option Addr} {n : Nat} {xs : List Int} (h : Kd.C (Kd.int .i64) w A n xs) (i : Nat) (h1 : i < n) : ∃ ad, A = some ad ∧ w.cell? (ad.add i) = some (.int .i64 (xs.getD i 0)) := by
  obtain ⟨ad, c, e, _, hK, hc0⟩ := Kd.C_get h (0 : Int) (i : Int) (by omega) (by omega)
  have hc : ∀ j u, c[j]? = some u → w.cell? (ad.add ((i : Int).toNat * 1 + j)) = some u := hc0
  have e1 : c = [.int .i64 (xs.getD (i : Int).toNat 0)] := hK
  subst e1
  have hq := hc 0 _ rfl
  rw [Nat.mul_one, Nat.add_zero, Int.toNat_natCast] at hq
  exact ⟨ad, e, hq⟩
theorem impl_IsValidBay.zeroB (w : World) : (zeroValue 4).run Tryz.prog w = .ok (.bool false) w := by kernel_rfl
theorem impl_IsValidBay.keyed : Go.Maps.Keyed Tryz.prog 3 := Go.Maps.int_keyed Tryz.underlying3
set_option maxHeartbeats 8000000 in
set_option maxRecDepth 100000 in
theorem impl_IsValidBay.calls (a0_0 : Int) (A0_1 : Option Addr) (c0_1 : Nat) (l0_1 : List (List Int)) (r : Bool) (w : World) (hr0_1 : Kd.C (Kd.slice 3 (Kd.int .i64)) w A0_1 l0_1.length l0_1) (hc0_1 : l0_1.length ≤ c0_1) (h : impl_IsValidBay.f a0_0 l0_1 = some r) :
    Calls Tryz.prog 9 #[.agg #[.int .i64 a0_0, .slice A0_1 l0_1.length c0_1]] w fun e w' => e = .returned (.bool r) ∧ Below w.heap.size w w' := by
  have hln : l0_1.length ≤ 9223372036854775807 := hr0_1.2.1
  have HR := Aside0.mk hr0_1
  clear hr0_1
  have hu := Tryz.underlying26
  have hm := @run_makeMap Tryz.prog
  unfold impl_IsValidBay.f okBay at h
  have hr := Option.some.inj h
  clear h
  have HB0 := Aside0.mk (Below.refl w.heap.size w)
  cases hin0 : Go.Proofs.YtnknojpijmfefaaGreatDoor.U.inr a0_0 1 4
  · rw [hin0] at hr
    obtain rfl : false = r := hr
    have HI := Aside0.mk hin0
    clear hin0
    go_enter Tryz.func9, Tryz.ntmps9
    go_wp2_with (first | (go_at_call 25; (with_reducible refine (impl_within.calls a0_0 1 4 false _ (by rw [impl_within_eq, HI.out])).mono ?_); rintro e w' ⟨rfl, ⟨nd, rfl⟩⟩))
    go_ret
    exact ⟨rfl, by repeat (first | (with_reducible first | exact HB0.out | apply below_alloc | apply pw_below_drewN | apply below_drew1) | exact HB0.out)⟩
  have hh4 := Go.Proofs.YtnknojpijmfefaaGreatDoor.U.inr_iff.1 hin0
  rw [hin0, Bool.true_and] at hr
  have HI0 := Aside0.mk hin0
  clear hin0
  cases hin : Go.Proofs.YtnknojpijmfefaaGreatDoor.U.inr (l0_1.length : Int) 1 5
  · rw [hin] at hr
    obtain rfl : false = r := hr
    have HI := Aside0.mk hin
    clear hin
    go_enter Tryz.func9, Tryz.ntmps9
    go_wp2_with (first | (go_at_call 25; (with_reducible refine (impl_within.calls a0_0 1 4 true _ (by rw [impl_within_eq, HI0.out])).mono ?_); rintro e w' ⟨rfl, ⟨nd, rfl⟩⟩) | (go_at_call 25; (with_reducible refine (impl_within.calls (l0_1.length : Int) 1 5 false _ (by rw [impl_within_eq, HI.out])).mono ?_); rintro e w' ⟨rfl, ⟨nd2, rfl⟩⟩))
    go_ret
    exact ⟨rfl, by repeat (first | (with_reducible first | exact HB0.out | apply below_alloc | apply pw_below_drewN | apply below_drew1) | exact HB0.out)⟩
  · rw [hin, Bool.true_and] at hr
    have hl6 := (Go.Proofs.YtnknojpijmfefaaGreatDoor.U.inr_iff.1 hin).2
    have HI := Aside0.mk hin
    clear hin
    have H := Aside0.mk hr
    clear hr
    go_enter Tryz.func9, Tryz.ntmps9
    go_wp2_with (first | (go_at_call 25; (with_reducible refine (impl_within.calls a0_0 1 4 true _ (by rw [impl_within_eq, HI0.out])).mono ?_); rintro e w' ⟨rfl, ⟨nd, rfl⟩⟩) | (go_at_call 25; (with_reducible refine (impl_within.calls (l0_1.length : Int) 1 5 true _ (by rw [impl_within_eq, HI.out])).mono ?_); rintro e w' ⟨rfl, ⟨nd2, rfl⟩⟩))
    go_loopw [23] (fun v17 wr => ∃ (i : Nat) (s : List Int), v17 = .int .i64 (i : Int) ∧ Aside0 (i ≤ l0_1.length) ∧ Aside0 (s.length ≤ 4 * i) ∧ Aside0 ((Go.Proofs.YtnknojpijmfefaaGreatDoor.U.chkRows a0_0 (l0_1.drop i) s).isSome = r) ∧ Aside0 (wr.ownsMap Tryz.prog 3 (plainElem Tryz.prog 4) (w.heap.size + 1) s.length (Go.Proofs.YtnknojpijmfefaaGreatDoor.GM.Mp s)) ∧ Aside0 (wr.heap[w.heap.size]? = some (.cells #[.int .i64 a0_0, .slice A0_1 l0_1.length c0_1] 26 (0, 0))) ∧ Aside0 (Below w.heap.size w wr))
      (fun v17 wr => l0_1.length - (intOf v17).toNat)
    case atStart =>
      have hown := World.ownsMap_made (H := Unit) ((w.alloc (.cells #[.int .i64 a0_0, .slice A0_1 l0_1.length c0_1] 26)).drewN (nd + nd2)) Tryz.prog 3 (plainElem Tryz.prog 4)
      exact ⟨0, [], rfl, ⟨Nat.zero_le _⟩, ⟨Nat.le_refl _⟩, H, ⟨by simpa [Go.Proofs.YtnknojpijmfefaaGreatDoor.GM.Mp] using hown⟩, ⟨blk_alloc (blk_drewN (blk_new w _) _) _⟩, ⟨by repeat (first | (with_reducible first | exact HB0.out | apply below_alloc | apply pw_below_drewN | apply below_drew1) | exact HB0.out)⟩⟩
    case round =>
      clear H
      obtain ⟨i, s, rfl, HLe, HSl, H, HOwn, BK, HB⟩ := hrel
      have hcz0 : wr.cell? ⟨w.heap.size, 0, none⟩ = some (.int .i64 a0_0) := (blk_cell BK.out 0).trans rfl
      by_cases hlt : i < l0_1.length
      · have hltb : decide (i < l0_1.length) = true := decide_eq_true hlt
        obtain ⟨ad, A0, c0, eA, hcell, hcr, hCr⟩ := impl_IsValidBay.atRow HR.out i hlt
        cases eA
        replace hcell := (HB.out.cell (World.block_lt_of_cell? w _ hcell)).trans hcell
        have hdrop : l0_1.drop i = l0_1.getD i [] :: l0_1.drop (i + 1) := by rw [List.drop_eq_getElem_cons hlt, Go.Proofs.YtnknojpijmfefaaGreatDoor.U.getD_at _ _ _ hlt]
        have HD := Aside0.mk hdrop
        clear hdrop
        generalize hrow : l0_1.getD i [] = row at *
        have HRow := Aside0.mk hrow
        clear hrow
        have hC := Aside0.mk hCr
        have hrn : row.length ≤ 9223372036854775807 := hCr.2.1
        clear hCr
        by_cases hrl : (row.length : Int) ≤ a0_0
        · have hrlb2 : decide (a0_0 < (row.length : Int)) = false := decide_eq_false (by omega)
          have H2 : ((Go.Proofs.YtnknojpijmfefaaGreatDoor.U.chkRow row s).bind (Go.Proofs.YtnknojpijmfefaaGreatDoor.U.chkRows a0_0 (l0_1.drop (i + 1)))).isSome = r := by
            have h1 := H.out
            rw [HD.out, Go.Proofs.YtnknojpijmfefaaGreatDoor.U.chkRows, if_pos (by omega)] at h1
            exact h1
          have H3 := Aside0.mk H2
          clear H2 H HRow
          go_wp2
          obtain ⟨wo, rfl⟩ : ∃ wo : World, wo = wr := ⟨_, rfl⟩
          go_loopw [34] (fun v26 wr => ∃ (j : Nat) (s : List Int), v26 = .int .i64 (j : Int) ∧ Aside0 (j ≤ row.length) ∧ Aside0 (s.length ≤ 4 * i + j) ∧ Aside0 (((Go.Proofs.YtnknojpijmfefaaGreatDoor.U.chkRow (row.drop j) s).bind (Go.Proofs.YtnknojpijmfefaaGreatDoor.U.chkRows a0_0 (l0_1.drop (i + 1)))).isSome = r) ∧ Aside0 (wr.ownsMap Tryz.prog 3 (plainElem Tryz.prog 4) (w.heap.size + 1) s.length (Go.Proofs.YtnknojpijmfefaaGreatDoor.GM.Mp s)) ∧ Aside0 (wr.heap[w.heap.size]? = some (.cells #[.int .i64 a0_0, .slice (some ad) l0_1.length c0_1] 26 (0, 0))) ∧ Aside0 (Below w.heap.size w wr))
            (fun v26 wr => row.length - (intOf v26).toNat)
          case atStart => exact ⟨0, s, rfl, ⟨Nat.zero_le _⟩, HSl, H3, HOwn, BK, HB⟩
          case round =>
            clear H3 HOwn HB HSl hcell BK hcz0
            obtain ⟨j, s2, rfl, HLe2, HSl2, H4, HOwn2, BK, HB2⟩ := hrel
            by_cases hlt2 : j < row.length
            · have hlt2b : decide (j < row.length) = true := decide_eq_true hlt2
              obtain ⟨ad2, eA2, hcell2⟩ := impl_IsValidBay.atInt hC.out j hlt2
              cases eA2
              replace hcell2 := (HB2.out.cell (World.block_lt_of_cell? w _ hcell2)).trans hcell2
              have hdrop2 : row.drop j = row.getD j 0 :: row.drop (j + 1) := by rw [List.drop_eq_getElem_cons hlt2, Go.Proofs.YtnknojpijmfefaaGreatDoor.U.getD_at _ _ _ hlt2]
              have HD2 := Aside0.mk hdrop2
              clear hdrop2
              generalize hn : row.getD j 0 = n at *
              clear hn
              cases hb1 : Go.Proofs.YtnknojpijmfefaaGreatDoor.U.inr n 1 99
              · have hf : false = r := by
                  have h1 := H4.out
                  rw [HD2.out, Go.Proofs.YtnknojpijmfefaaGreatDoor.U.chkRow_bad (by rw [hb1]; rfl)] at h1
                  exact h1
                subst hf
                have HI2 := Aside0.mk hb1
                clear hb1 H4 HD2
                go_wp2_with (first | (go_at_call 25; (with_reducible refine (impl_within.calls _ 1 99 false _ (by rw [impl_within_eq, HI2.out])).mono ?_); rintro e w' ⟨rfl, ⟨nd2, rfl⟩⟩))
                go_ret
                exact ⟨rfl, by repeat (first | (with_reducible first | exact HB2.out | apply below_alloc | apply pw_below_drewN | apply below_drew1) | exact HB2.out)⟩
              · have hwf : (Lit.int .i64 n).wf = true := by
                  have h1 := Go.Proofs.YtnknojpijmfefaaGreatDoor.U.inr_iff.1 hb1
                  show (decide (IntKind.i64.min ≤ n) && decide (n ≤ IntKind.i64.max)) = true
                  rw [Bool.and_eq_true, decide_eq_true_iff, decide_eq_true_iff]
                  exact ⟨by show (-9223372036854775808 : Int) ≤ n; omega, by show n ≤ (9223372036854775807 : Int); omega⟩
                have HWf := Aside0.mk hwf
                clear hwf
                have HI2 := Aside0.mk hb1
                clear hb1
                have hs24 : s2.length ≤ 40 := by have h1 := HSl2.out; omega
                cases hcn : s2.contains n
                · have H5 : ((Go.Proofs.YtnknojpijmfefaaGreatDoor.U.chkRow (row.drop (j + 1)) (n :: s2)).bind (Go.Proofs.YtnknojpijmfefaaGreatDoor.U.chkRows a0_0 (l0_1.drop (i + 1)))).isSome = r := by
                    have h1 := H4.out
                    rw [HD2.out, Go.Proofs.YtnknojpijmfefaaGreatDoor.U.chkRow_ok (by rw [HI2.out, hcn]; rfl)] at h1
                    exact h1
                  have H6 := Aside0.mk H5
                  have HCn := Aside0.mk hcn
                  clear hcn H5 H4 HD2
                  go_wp2_with (first | (go_at_call 25; (with_reducible refine (impl_within.calls _ 1 99 true _ (by rw [impl_within_eq, HI2.out])).mono ?_); rintro e w' ⟨rfl, ⟨nd2, rfl⟩⟩) | (at_lookup; refine gate_guard (by rfl) ?_; dsimp only; refine Go.Proofs.YtnknojpijmfefaaGreatDoor.GM.wpList_lookup_own_bool _ rfl _ _ 53 rfl 3 4 impl_IsValidBay.keyed Tryz.underlying53 Tryz.underlying4 (impl_IsValidBay.zeroB _) (w.heap.size + 1) s2.length (Go.Proofs.YtnknojpijmfefaaGreatDoor.GM.Mp s2) rfl HOwn2.out _ _ rfl (Go.Maps.keyOf_int_mk Tryz.underlying3 HWf.out) false ((Go.Proofs.YtnknojpijmfefaaGreatDoor.GM.Mp_at n s2).trans (by rw [HCn.out])) ?_) | (at_mapUpdate; refine wpList_mapUpdate_own _ rfl _ _ _ 53 rfl 3 4 impl_IsValidBay.keyed Tryz.underlying53 (plainElem Tryz.prog 4) (w.heap.size + 1) s2.length (Go.Proofs.YtnknojpijmfefaaGreatDoor.GM.Mp s2) rfl HOwn2.out (by unfold maxLen; omega) _ _ _ rfl rfl (Go.Maps.keyOf_int_mk Tryz.underlying3 HWf.out) _ [] (plainElem_bool Tryz.underlying4 true) ?_; intro w1 hown1 hgrow1))
                  go_roundw
                  case rel =>
                    refine ⟨j + 1, n :: s2, by go_num, ⟨hlt2⟩, ⟨by have h1 := HSl2.out; rw [List.length_cons]; omega⟩, H6, ⟨hown1⟩, ⟨(hgrow1.block _ (by have h1 := (Array.getElem?_eq_some_iff.1 BK.out).1; simpa using h1) (by simp)).trans BK.out⟩, ⟨?_⟩⟩
                    exact Below.grown (by repeat (first | (with_reducible first | exact HB2.out | apply below_alloc | apply pw_below_drewN | apply below_drew1) | exact HB2.out)) hgrow1 HB2.out.size (fun k hk => by cases hk; omega)
                  case measure => simp [intOf]; omega
                · have hf : false = r := by
                    have h1 := H4.out
                    rw [HD2.out, Go.Proofs.YtnknojpijmfefaaGreatDoor.U.chkRow_bad (by rw [HI2.out, hcn]; rfl)] at h1
                    exact h1
                  subst hf
                  have HCn := Aside0.mk hcn
                  clear hcn H4 HD2
                  go_wp2_with (first | (go_at_call 25; (with_reducible refine (impl_within.calls _ 1 99 true _ (by rw [impl_within_eq, HI2.out])).mono ?_); rintro e w' ⟨rfl, ⟨nd2, rfl⟩⟩) | (at_lookup; refine gate_guard (by rfl) ?_; dsimp only; refine Go.Proofs.YtnknojpijmfefaaGreatDoor.GM.wpList_lookup_own_bool _ rfl _ _ 53 rfl 3 4 impl_IsValidBay.keyed Tryz.underlying53 Tryz.underlying4 (impl_IsValidBay.zeroB _) (w.heap.size + 1) s2.length (Go.Proofs.YtnknojpijmfefaaGreatDoor.GM.Mp s2) rfl HOwn2.out _ _ rfl (Go.Maps.keyOf_int_mk Tryz.underlying3 HWf.out) true ((Go.Proofs.YtnknojpijmfefaaGreatDoor.GM.Mp_at n s2).trans (by rw [HCn.out])) ?_))
                  go_ret
                  exact ⟨rfl, by repeat (first | (with_reducible first | exact HB2.out | apply below_alloc | apply pw_below_drewN | apply below_drew1) | exact HB2.out)⟩
            · have hlt2b : decide (j < row.length) = false := decide_eq_false hlt2
              have H5 : (Go.Proofs.YtnknojpijmfefaaGreatDoor.U.chkRows a0_0 (l0_1.drop (i + 1)) s2).isSome = r := by
                have h1 := H4.out
                rw [List.drop_of_length_le (by omega)] at h1
                exact h1
              have H6 := Aside0.mk H5
              clear H5 H4
              go_wp2
              go_roundw
              case rel => exact ⟨i + 1, s2, by go_num, ⟨hlt⟩, ⟨by have h1 := HSl2.out; have h2 := HLe2.out; omega⟩, H6, HOwn2, BK, HB2⟩
              case measure => simp [intOf]; omega
        · have hrlb2 : decide (a0_0 < (row.length : Int)) = true := decide_eq_true (by omega)
          have hf : false = r := by
            have h1 := H.out
            rw [HD.out, Go.Proofs.YtnknojpijmfefaaGreatDoor.U.chkRows, if_neg (by omega)] at h1
            exact h1
          subst hf
          clear H HRow HD
          go_wp2
          go_ret
          exact ⟨rfl, HB.out⟩
      · have hltb : decide (i < l0_1.length) = false := decide_eq_false hlt
        have hf : true = r := by
          have h1 := H.out
          rw [List.drop_of_length_le (by omega)] at h1
          exact h1
        subst hf
        clear H
        go_wp2
        go_ret
        exact ⟨rfl, HB.out⟩


end Go.Proofs.YtnknojpijmfefaaGreatDoor.P
