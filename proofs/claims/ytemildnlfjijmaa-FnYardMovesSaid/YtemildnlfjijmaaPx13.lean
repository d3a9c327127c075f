-- Written by a program of this session over the translation (a variant of the printer, see wip/gen); Lean checks it.
import Derived.Test.YtemildnlfjijmaaPx0
import Derived.Test.YtemildnlfjijmaaU
namespace Go.Proofs.Ytemildnlfjijmaa.P
open Go.RowKit Go.Proofs.YtemildnlfjijmaaW.PrintWords Go.Proofs.YtemildnlfjijmaaW.PrintLast Go.Proofs.YtemildnlfjijmaaW.PrintMore
attribute [local go_sem] Go.Proofs.Ytemildnlfjijmaa.V.isSome_setCell max2_int min2_int max_two min_two max_three min_three max_four min_four
set_option linter.unusedVariables false
set_option linter.unusedSimpArgs false
/-! ### impl_indexOf: function 53 -/
/-- The first place at which a predicate holds, from place i on; -1 if there is none. -/
def idxC (p : S71 → Bool) : List S71 → Nat → Int
  | [], _ => -1
  | x :: l, i => if p x then (i : Int) else idxC p l (i + 1)
def sameId (id : ByteArray) (x : S71) : Bool := x.f0.toList == id.toList
def impl_indexOf.f (l0 : List S71) (a1 : ByteArray) : Option (Int) := some (idxC (sameId a1) l0 0)
set_option maxHeartbeats 8000000 in
set_option maxRecDepth 100000 in
theorem impl_indexOf.each (id : ByteArray) (b : Nat) (x : S71) (W : World) (hb : W.cell? ⟨b, 0, none⟩ = some (.string id)) :
    Calls Try.prog 64 #[.agg #[.string x.f0, .int .i64 x.f1, .int .i64 x.f2, .int .i64 x.f3, .int .i64 x.f4], .pointer (some ⟨b, 0, none⟩)] W fun e W' => e = .returned (.bool (sameId id x)) ∧ Below W.heap.size W W' := by
 have hu := Try.underlying71
 have HB0 := Aside0.mk (Below.refl W.heap.size W)
 have hlt := World.block_lt_of_cell? W _ hb
 have hne : b ≠ W.heap.size := Nat.ne_of_lt hlt
 go_enter Try.func64, Try.ntmps64
 go_wp2
 go_ret
 exact ⟨rfl, by repeat ((with_reducible first | exact HB0.out | apply below_alloc ) )⟩
set_option maxHeartbeats 8000000 in
set_option maxRecDepth 100000 in
theorem impl_indexOf.scan (id : ByteArray) (b : Nat) (A0 : Option Addr) (c0 : Nat) (l0 : List S71) (w : World) (hr0 : Kd.C k71 w A0 l0.length l0) (hb : w.cell? ⟨b, 0, none⟩ = some (.string id)) :
    Calls Try.prog 63 #[.slice A0 l0.length c0, .func (.func 64) #[] #[.pointer (some ⟨b, 0, none⟩)]] w fun e w' => e = .returned (.int .i64 (idxC (sameId id) l0 0)) ∧ Below w.heap.size w w' := by
 have hln : l0.length ≤ 9223372036854775807 := hr0.2.1
 have HR := Aside0.mk hr0
 have HCb := Aside0.mk hb
 have HB0 := Aside0.mk (Below.refl w.heap.size w)
 clear hr0 hb
 go_enter Try.func63, Try.ntmps63
 go_wp2
 go_loopw [8] (fun v8 wr => ∃ i : Nat, v8 = .int .i64 (i : Int) ∧ Aside0 (i ≤ l0.length) ∧ Aside0 (idxC (sameId id) (l0.drop i) i = idxC (sameId id) l0 0) ∧ Aside0 (Below w.heap.size w wr)) (fun v8 wr => l0.length - (intOf v8).toNat)
 case atStart => exact ⟨0, rfl, ⟨Nat.zero_le _⟩, ⟨rfl⟩, HB0⟩
 obtain ⟨i, rfl, HLe, HI, HB⟩ := hrel
 have hcb := (HB.out.cell (World.block_lt_of_cell? w _ HCb.out)).trans HCb.out
 have HCb2 := Aside0.mk hcb
 clear hcb
 by_cases hlt : i < l0.length
 rotate_left
 ·have hltb : decide (i < l0.length) = false := decide_eq_false hlt
  have H2 : (-1 : Int) = idxC (sameId id) l0 0 := by
    have h1 := HI.out
    rw [List.drop_of_length_le (by omega)] at h1
    exact h1
  have H3 := Aside0.mk H2
  clear H2 HI
  go_wp2
  go_ret
  exact ⟨by (rw [← H3.out]; rfl), HB.out⟩
 have hltb : decide (i < l0.length) = true := decide_eq_true hlt
 obtain ⟨ad, eA, hx0, hx1, hx2, hx3, hx4⟩ := at_T71 HR.out (i : Int) (by omega) (by omega)
 cases eA
 rw [Int.toNat_natCast] at hx0 hx1 hx2 hx3 hx4
 replace hx0 := (HB.out.cell (World.block_lt_of_cell? w _ hx0)).trans hx0
 replace hx1 := (HB.out.cell (World.block_lt_of_cell? w _ hx1)).trans hx1
 replace hx2 := (HB.out.cell (World.block_lt_of_cell? w _ hx2)).trans hx2
 replace hx3 := (HB.out.cell (World.block_lt_of_cell? w _ hx3)).trans hx3
 replace hx4 := (HB.out.cell (World.block_lt_of_cell? w _ hx4)).trans hx4
 have hdrop : l0.drop i = rd_T71 l0 (i : Int) :: l0.drop (i + 1) := by
   rw [List.drop_eq_getElem_cons hlt]
   unfold rd_T71
   rw [Int.toNat_natCast, Go.Proofs.Ytemildnlfjijmaa.U.getD_at _ _ _ hlt]
 have HDr := Aside0.mk hdrop
 clear hdrop
 generalize hx : rd_T71 l0 (i : Int) = x at *
 clear hx
 cases hpx : sameId id x
 ·have HPx := Aside0.mk hpx
  clear hpx
  have H2 : idxC (sameId id) (l0.drop (i + 1)) (i + 1) = idxC (sameId id) l0 0 := by
    have h1 := HI.out
    rw [HDr.out, idxC, HPx.out] at h1
    exact h1
  have H3 := Aside0.mk H2
  clear H2 HI HDr
  go_wp2_with (first | (go_at_call 64; refine (impl_indexOf.each id b x _ HCb2.out).mono ?_; rw [HPx.out]; rintro e w' ⟨rfl, hbl⟩))
  go_roundw
  case rel => exact ⟨i + 1, by go_num, ⟨hlt⟩, H3, ⟨HB.out.trans (hbl.mono HB.out.size)⟩⟩
  case measure => simp [intOf]; omega
 have HPx := Aside0.mk hpx
 clear hpx
 have H2 : (i : Int) = idxC (sameId id) l0 0 := by
   have h1 := HI.out
   rw [HDr.out, idxC, HPx.out] at h1
   exact h1
 have H3 := Aside0.mk H2
 clear H2 HI HDr
 go_wp2_with (first | (go_at_call 64; refine (impl_indexOf.each id b x _ HCb2.out).mono ?_; rw [HPx.out]; rintro e w' ⟨rfl, hbl⟩))
 go_ret
 exact ⟨by (rw [← H3.out]; rfl), HB.out.trans (hbl.mono HB.out.size)⟩
set_option maxHeartbeats 8000000 in
set_option maxRecDepth 100000 in
theorem impl_indexOf.calls (A0 : Option Addr) (c0 : Nat) (l0 : List S71) (a1 : ByteArray) (r : Int) (w : World) (hr0 : Kd.C k71 w A0 l0.length l0) (hc0 : l0.length ≤ c0) (h : impl_indexOf.f l0 a1 = some r) :
    Calls Try.prog 53 #[.slice A0 l0.length c0, .string a1] w fun e w' => e = .returned (.int .i64 r) ∧ Below w.heap.size w w' := by
 unfold impl_indexOf.f at h
 have hr := Option.some.inj h
 clear h
 have HB0 := Aside0.mk (Below.refl w.heap.size w)
 have HR := Aside0.mk hr0
 have hs := impl_indexOf.scan a1 w.heap.size A0 c0 l0 (w.alloc (.cells #[.string a1] 9)) (Kd.C_below hr0 (below_alloc HB0.out _)) ((blk_cell (blk_new w (.cells #[.string a1] 9 (0, 0))) 0).trans rfl)
 have HS := Aside0.mk hs
 clear hs hr0
 have HRr := Aside0.mk hr
 clear hr
 go_enter Try.func53, Try.ntmps53
 go_wp2_with (first | (go_at_call 63; refine HS.out.mono ?_; rintro e w' ⟨rfl, hbl⟩))
 go_ret
 exact ⟨by (rw [← HRr.out]; rfl), (below_alloc HB0.out _).trans (hbl.mono (by simp))⟩
end Go.Proofs.Ytemildnlfjijmaa.P
