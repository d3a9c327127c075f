-- Written by a program of this session over the translation (a variant of the printer, see wip/gen); Lean checks it.
import Derived.Test.YtkahifpcimoogaaPx0
import Derived.Test.YtkahifpcimoogaaPx1
import Derived.Test.YtkahifpcimoogaaPx2
import Derived.Test.YtkahifpcimoogaaDrw
namespace Go.Proofs.Ytkahifpcimoogaa.P
open Go.RowKit Go.Proofs.YtkahifpcimoogaaW.PrintWords Go.Proofs.YtkahifpcimoogaaW.PrintLast Go.Proofs.YtkahifpcimoogaaW.PrintMore
attribute [local go_sem] Go.Proofs.Ytkahifpcimoogaa.V.isSome_setCell max2_int min2_int max_two min_two max_three min_three max_four min_four   -- for this text's walks alone
set_option linter.unusedVariables false
set_option linter.unusedSimpArgs false

/-! ### spec_l1Cur_shipWeight: function 44 -/
def spec_l1Cur_shipWeight.f (s0_0 : List Int) (s0_1 : Int) (s0_2 : Int) : Option (Int × Int × Int) := (spec_l1Cur_pick.f s0_0 s0_1 s0_2 24).bind fun b11 => if 0 ≤ b11.1 ∧ b11.1 < 33 then (spec_l1Cur_among.f s0_0 b11.2.1 b11.2.2 (([1, 1000, 100000, 10000000, 0, 10000001] : List Int).take (4 + b11.1 / 11).toNat)).bind fun b10 => some (b10.1, b10.2.1, b10.2.2) else none
set_option maxHeartbeats 8000000 in
set_option maxRecDepth 100000 in
theorem spec_l1Cur_shipWeight.calls (g : Nat) (s0_0 : List Int) (s0_1 : Int) (s0_2 : Int) (r1 : Int) (r2 : Int) (r3 : Int) (w0 w : World) (hI : IsS56 w0 w g s0_0 s0_1 s0_2) (hB : Below w0.heap.size w0 w) (h : spec_l1Cur_shipWeight.f s0_0 s0_1 s0_2 = some (r1, r2, r3)) :
    Calls Try.prog 44 #[.pointer (some ⟨g, 0, none⟩)] w fun e w' => e = .returned (.int .i64 r1) ∧ IsS56 w0 w' g s0_0 r2 r3 ∧ Below w0.heap.size w0 w' ∧ KeepBut w w' g none := by
  have hu56 := Try.underlying56
  have HI := Aside0.mk hI
  have HB := Aside0.mk hB
  have HK := Aside0.mk (KeepBut.refl w g none)
  clear hI hB
  unfold spec_l1Cur_shipWeight.f at h
  obtain ⟨⟨t2, t4, t5⟩, A3_, h_⟩ := Option.bind_eq_some_iff.1 h
  clear h
  have h := h_
  clear h_
  dsimp only at h
  have A3 := Aside0.mk A3_
  clear A3_
  split at h
  case isFalse => cases h
  case isTrue hc_ =>
  have Ct2 := Aside0.mk hc_
  clear hc_
  obtain ⟨⟨t6, t8, t9⟩, A7_, h_⟩ := Option.bind_eq_some_iff.1 h
  clear h
  have h := h_
  clear h_
  dsimp only at h
  have A7 := Aside0.mk A7_
  clear A7_
  have h2_ := Option.some.inj h
  clear h
  (try simp only [Prod.mk.injEq] at h2_)
  obtain ⟨rfl, rfl, rfl⟩ := h2_
  rcases (show t2 / 11 = 0 ∨ t2 / 11 = 1 ∨ t2 / 11 = 2 by have := Ct2.out; omega) with hq_ | hq_ | hq_
  · have pt20 : 0 ≤ t2 := Ct2.out.1
    have pt21 : Int.tdiv t2 11 = 0 := by rw [Int.tdiv_eq_ediv_of_nonneg Ct2.out.1]; exact hq_
    have a_ := A7.out
    rw [hq_] at a_
    have b_ := Aside0.mk a_
    clear A7 a_
    have A7 := b_
    clear b_
    go_enter Try.func44, Try.ntmps44
    go_wp2_with (first | ((with_reducible refine gate_dst (N := 6) rfl ?_); (with_reducible refine gate_callee (f := 32) rfl ?_); refine goesL_ (some 6) rfl rfl Try.func32 (by kernel_rfl) rfl #[.pointer (some ⟨g, 0, none⟩), .int .i64 24] rfl gmp ?_; have BN_ := Aside0.mk (show w.heap.size ≠ g from by have h_ := IsS56.lt HI.out; omega); have NEq1 := BN_; (with_reducible refine (spec_l1Cur_pick.calls g s0_0 s0_1 s0_2 24 t2 t4 t5 w0 _ (IsS56.alloc HI.out _) (below_alloc HB.out _) A3.out).mono ?_); rintro e w1_ ⟨rfl, hi, hb, hk⟩; refine ⟨_, rfl, ?_⟩; have n0_ := Aside0.mk (hk.blk (blk_new w (.cells #[.int .i64 1, .int .i64 1000, .int .i64 100000, .int .i64 10000000, .int .i64 0, .int .i64 10000001] 3 (0, 0))) NEq1.out (by simp)); have n1_ := Aside0.mk hi; have n2_ := Aside0.mk hb; have n3_ := Aside0.mk (KeepBut.trans (keep_alloc HK.out _) hk (.inl rfl)); (try clear BLq1); (try clear HI); (try clear HB); (try clear HK); have BLq1 := n0_; have HI := n1_; have HB := n2_; have HK := n3_; clear n0_ n1_ n2_ n3_; (try clear hi); (try clear hb); (try clear hk)) | ((with_reducible refine gate_dst (N := 10) rfl ?_); (with_reducible refine gate_callee (f := 31) rfl ?_); refine goesL_ (some 10) rfl rfl Try.func31 (by kernel_rfl) rfl #[.pointer (some ⟨g, 0, none⟩), .slice (some ⟨w.heap.size, 0, none⟩) ([1, 1000, 100000, 10000000] : List Int).length 6] rfl gmp ?_; have CLq1 : Kd.C (Kd.int .i64) w1_ (some ⟨w.heap.size, 0, none⟩) ([1, 1000, 100000, 10000000] : List Int).length ([1, 1000, 100000, 10000000] : List Int) := lit_C (xs := [1, 1000, 100000, 10000000, 0, 10000001]) BLq1.out 4 (by decide); have b_ : spec_l1Cur_among.f s0_0 t4 t5 ([1, 1000, 100000, 10000000] : List Int) = some (t6, t8, t9) := A7.out; (with_reducible refine (spec_l1Cur_among.calls g s0_0 t4 t5 _ _ ([1, 1000, 100000, 10000000] : List Int) t6 t8 t9 w0 _ HI.out HB.out CLq1 (show ([1, 1000, 100000, 10000000] : List Int).length ≤ 6 by decide) (fun ad he_ _ => by cases he_; exact NEq1.out) b_).mono ?_); rintro e w2_ ⟨rfl, hi, hb, hk⟩; refine ⟨_, rfl, ?_⟩; clear CLq1 b_; have n0_ := Aside0.mk hi; have n1_ := Aside0.mk hb; have n2_ := Aside0.mk (KeepBut.trans HK.out hk (.inl rfl)); (try clear HI); (try clear HB); (try clear HK); have HI := n0_; have HB := n1_; have HK := n2_; clear n0_ n1_ n2_; (try clear hi); (try clear hb); (try clear hk)))
    go_ret
    exact ⟨(by first | rfl | (simp; done)), HI.out, HB.out, HK.out⟩
  · have pt20 : 0 ≤ t2 := Ct2.out.1
    have pt21 : Int.tdiv t2 11 = 1 := by rw [Int.tdiv_eq_ediv_of_nonneg Ct2.out.1]; exact hq_
    have a_ := A7.out
    rw [hq_] at a_
    have b_ := Aside0.mk a_
    clear A7 a_
    have A7 := b_
    clear b_
    go_enter Try.func44, Try.ntmps44
    go_wp2_with (first | ((with_reducible refine gate_dst (N := 6) rfl ?_); (with_reducible refine gate_callee (f := 32) rfl ?_); refine goesL_ (some 6) rfl rfl Try.func32 (by kernel_rfl) rfl #[.pointer (some ⟨g, 0, none⟩), .int .i64 24] rfl gmp ?_; have BN_ := Aside0.mk (show w.heap.size ≠ g from by have h_ := IsS56.lt HI.out; omega); have NEq1 := BN_; (with_reducible refine (spec_l1Cur_pick.calls g s0_0 s0_1 s0_2 24 t2 t4 t5 w0 _ (IsS56.alloc HI.out _) (below_alloc HB.out _) A3.out).mono ?_); rintro e w1_ ⟨rfl, hi, hb, hk⟩; refine ⟨_, rfl, ?_⟩; have n0_ := Aside0.mk (hk.blk (blk_new w (.cells #[.int .i64 1, .int .i64 1000, .int .i64 100000, .int .i64 10000000, .int .i64 0, .int .i64 10000001] 3 (0, 0))) NEq1.out (by simp)); have n1_ := Aside0.mk hi; have n2_ := Aside0.mk hb; have n3_ := Aside0.mk (KeepBut.trans (keep_alloc HK.out _) hk (.inl rfl)); (try clear BLq1); (try clear HI); (try clear HB); (try clear HK); have BLq1 := n0_; have HI := n1_; have HB := n2_; have HK := n3_; clear n0_ n1_ n2_ n3_; (try clear hi); (try clear hb); (try clear hk)) | ((with_reducible refine gate_dst (N := 10) rfl ?_); (with_reducible refine gate_callee (f := 31) rfl ?_); refine goesL_ (some 10) rfl rfl Try.func31 (by kernel_rfl) rfl #[.pointer (some ⟨g, 0, none⟩), .slice (some ⟨w.heap.size, 0, none⟩) ([1, 1000, 100000, 10000000, 0] : List Int).length 6] rfl gmp ?_; have CLq1 : Kd.C (Kd.int .i64) w1_ (some ⟨w.heap.size, 0, none⟩) ([1, 1000, 100000, 10000000, 0] : List Int).length ([1, 1000, 100000, 10000000, 0] : List Int) := lit_C (xs := [1, 1000, 100000, 10000000, 0, 10000001]) BLq1.out 5 (by decide); have b_ : spec_l1Cur_among.f s0_0 t4 t5 ([1, 1000, 100000, 10000000, 0] : List Int) = some (t6, t8, t9) := A7.out; (with_reducible refine (spec_l1Cur_among.calls g s0_0 t4 t5 _ _ ([1, 1000, 100000, 10000000, 0] : List Int) t6 t8 t9 w0 _ HI.out HB.out CLq1 (show ([1, 1000, 100000, 10000000, 0] : List Int).length ≤ 6 by decide) (fun ad he_ _ => by cases he_; exact NEq1.out) b_).mono ?_); rintro e w2_ ⟨rfl, hi, hb, hk⟩; refine ⟨_, rfl, ?_⟩; clear CLq1 b_; have n0_ := Aside0.mk hi; have n1_ := Aside0.mk hb; have n2_ := Aside0.mk (KeepBut.trans HK.out hk (.inl rfl)); (try clear HI); (try clear HB); (try clear HK); have HI := n0_; have HB := n1_; have HK := n2_; clear n0_ n1_ n2_; (try clear hi); (try clear hb); (try clear hk)))
    go_ret
    exact ⟨(by first | rfl | (simp; done)), HI.out, HB.out, HK.out⟩
  · have pt20 : 0 ≤ t2 := Ct2.out.1
    have pt21 : Int.tdiv t2 11 = 2 := by rw [Int.tdiv_eq_ediv_of_nonneg Ct2.out.1]; exact hq_
    have a_ := A7.out
    rw [hq_] at a_
    have b_ := Aside0.mk a_
    clear A7 a_
    have A7 := b_
    clear b_
    go_enter Try.func44, Try.ntmps44
    go_wp2_with (first | ((with_reducible refine gate_dst (N := 6) rfl ?_); (with_reducible refine gate_callee (f := 32) rfl ?_); refine goesL_ (some 6) rfl rfl Try.func32 (by kernel_rfl) rfl #[.pointer (some ⟨g, 0, none⟩), .int .i64 24] rfl gmp ?_; have BN_ := Aside0.mk (show w.heap.size ≠ g from by have h_ := IsS56.lt HI.out; omega); have NEq1 := BN_; (with_reducible refine (spec_l1Cur_pick.calls g s0_0 s0_1 s0_2 24 t2 t4 t5 w0 _ (IsS56.alloc HI.out _) (below_alloc HB.out _) A3.out).mono ?_); rintro e w1_ ⟨rfl, hi, hb, hk⟩; refine ⟨_, rfl, ?_⟩; have n0_ := Aside0.mk (hk.blk (blk_new w (.cells #[.int .i64 1, .int .i64 1000, .int .i64 100000, .int .i64 10000000, .int .i64 0, .int .i64 10000001] 3 (0, 0))) NEq1.out (by simp)); have n1_ := Aside0.mk hi; have n2_ := Aside0.mk hb; have n3_ := Aside0.mk (KeepBut.trans (keep_alloc HK.out _) hk (.inl rfl)); (try clear BLq1); (try clear HI); (try clear HB); (try clear HK); have BLq1 := n0_; have HI := n1_; have HB := n2_; have HK := n3_; clear n0_ n1_ n2_ n3_; (try clear hi); (try clear hb); (try clear hk)) | ((with_reducible refine gate_dst (N := 10) rfl ?_); (with_reducible refine gate_callee (f := 31) rfl ?_); refine goesL_ (some 10) rfl rfl Try.func31 (by kernel_rfl) rfl #[.pointer (some ⟨g, 0, none⟩), .slice (some ⟨w.heap.size, 0, none⟩) ([1, 1000, 100000, 10000000, 0, 10000001] : List Int).length 6] rfl gmp ?_; have CLq1 : Kd.C (Kd.int .i64) w1_ (some ⟨w.heap.size, 0, none⟩) ([1, 1000, 100000, 10000000, 0, 10000001] : List Int).length ([1, 1000, 100000, 10000000, 0, 10000001] : List Int) := lit_C (xs := [1, 1000, 100000, 10000000, 0, 10000001]) BLq1.out 6 (by decide); have b_ : spec_l1Cur_among.f s0_0 t4 t5 ([1, 1000, 100000, 10000000, 0, 10000001] : List Int) = some (t6, t8, t9) := A7.out; (with_reducible refine (spec_l1Cur_among.calls g s0_0 t4 t5 _ _ ([1, 1000, 100000, 10000000, 0, 10000001] : List Int) t6 t8 t9 w0 _ HI.out HB.out CLq1 (show ([1, 1000, 100000, 10000000, 0, 10000001] : List Int).length ≤ 6 by decide) (fun ad he_ _ => by cases he_; exact NEq1.out) b_).mono ?_); rintro e w2_ ⟨rfl, hi, hb, hk⟩; refine ⟨_, rfl, ?_⟩; clear CLq1 b_; have n0_ := Aside0.mk hi; have n1_ := Aside0.mk hb; have n2_ := Aside0.mk (KeepBut.trans HK.out hk (.inl rfl)); (try clear HI); (try clear HB); (try clear HK); have HI := n0_; have HB := n1_; have HK := n2_; clear n0_ n1_ n2_; (try clear hi); (try clear hb); (try clear hk)))
    go_ret
    exact ⟨(by first | rfl | (simp; done)), HI.out, HB.out, HK.out⟩

end Go.Proofs.Ytkahifpcimoogaa.P
