-- Written by a program of this session over the translation (a variant of the printer, see wip/gen); Lean checks it.
import Derived.Test.YtkahifpcimoogaaPx0
import Derived.Test.YtkahifpcimoogaaPx1
import Derived.Test.YtkahifpcimoogaaPx2
import Derived.Test.YtkahifpcimoogaaPx3
import Derived.Test.YtkahifpcimoogaaDrw
namespace Go.Proofs.Ytkahifpcimoogaa.P
open Go.RowKit Go.Proofs.YtkahifpcimoogaaW.PrintWords Go.Proofs.YtkahifpcimoogaaW.PrintLast Go.Proofs.YtkahifpcimoogaaW.PrintMore
attribute [local go_sem] Go.Proofs.Ytkahifpcimoogaa.V.isSome_setCell max2_int min2_int max_two min_two max_three min_three max_four min_four   -- for this text's walks alone
set_option linter.unusedVariables false
set_option linter.unusedSimpArgs false

/-! ### spec_DrawIsUpright: function 15 -/
def spec_DrawIsUpright.f (k : Nat) (l0 : List Int) : Option ((List (S38)) × Int) := (spec_l1Cur_loads.f k l0 0 0).bind fun b16 => (spec_l1Cur_pick.f l0 b16.2.1 b16.2.2 24).bind fun b15 => if 0 ≤ b15.1 ∧ b15.1 < 33 then (spec_l1Cur_among.f l0 b15.2.1 b15.2.2 (([0, 1, 10, 50, 200, (-1), 201] : List Int).take (5 + b15.1 / 11).toNat)).bind fun b14 => some (b16.1, b14.1) else none
theorem spec_DrawIsUpright.mono : ∀ a0 k, LeO (spec_DrawIsUpright.f k a0) (spec_DrawIsUpright.f (k + 1) a0) := by
  intro a0 k
  unfold spec_DrawIsUpright.f
  repeat' first
    | (with_reducible apply spec_l1Cur_loads.mono)
    | (with_reducible exact LeO.refl _)
    | (with_reducible exact LeO.none _)
    | (with_reducible refine LeO.ite ?_ ?_)
    | (with_reducible refine LeO.bind ?_ (fun _ => ?_))
    | exact LeO.refl _
    | exact LeO.none _
    | refine LeO.ite ?_ ?_
    | refine LeO.bind ?_ (fun _ => ?_)
set_option maxHeartbeats 8000000 in
set_option maxRecDepth 100000 in
theorem spec_DrawIsUpright.calls (k : Nat) (A0 : Option Addr) (c0 : Nat) (l0 : List Int) (r1 : List (S38)) (r2 : Int) ( w : World) (hr0 : Kd.C (Kd.int .u8) w A0 l0.length l0) (hc0 : l0.length ≤ c0) (h : spec_DrawIsUpright.f k l0 = some (r1, r2)) :
    Calls Try.prog 15 #[.slice A0 l0.length c0] w fun e w' => ∃ v0_ : Value, e = .returned (.tuple #[v0_, .int .i64 r2]) ∧ Kd.R k38 38 w' w.heap.size (fun _ => True) v0_ r1 ∧ Below w.heap.size w w' := by
  have hu56 := Try.underlying56
  have HR0 := Aside0.mk hr0
  have HC0 := Aside0.mk hc0
  have HB := Aside0.mk (Below.refl w.heap.size w)
  clear hr0 hc0
  unfold spec_DrawIsUpright.f at h
  obtain ⟨⟨t1, t3, t4⟩, A2_, h_⟩ := Option.bind_eq_some_iff.1 h
  clear h
  have h := h_
  clear h_
  dsimp only at h
  have A2 := Aside0.mk A2_
  clear A2_
  obtain ⟨⟨t6, t8, t9⟩, A7_, h_⟩ := Option.bind_eq_some_iff.1 h
  clear h
  have h := h_
  clear h_
  dsimp only at h
  have A7 := Aside0.mk A7_
  clear A7_
  split at h
  case isFalse => cases h
  case isTrue hc_ =>
  have Ct6 := Aside0.mk hc_
  clear hc_
  obtain ⟨⟨t10, t12, t13⟩, A11_, h_⟩ := Option.bind_eq_some_iff.1 h
  clear h
  have h := h_
  clear h_
  dsimp only at h
  have A11 := Aside0.mk A11_
  clear A11_
  have h2_ := Option.some.inj h
  clear h
  (try simp only [Prod.mk.injEq] at h2_)
  obtain ⟨rfl, rfl⟩ := h2_
  rcases (show t6 / 11 = 0 ∨ t6 / 11 = 1 ∨ t6 / 11 = 2 by have := Ct6.out; omega) with hq_ | hq_ | hq_
  · have pt60 : 0 ≤ t6 := Ct6.out.1
    have pt61 : Int.tdiv t6 11 = 0 := by rw [Int.tdiv_eq_ediv_of_nonneg Ct6.out.1]; exact hq_
    have a_ := A11.out
    rw [hq_] at a_
    have b_ := Aside0.mk a_
    clear A11 a_
    have A11 := b_
    clear b_
    go_enter Try.func15, Try.ntmps15
    go_wp2_with (first | ((with_reducible refine gate_dst (N := 8) rfl ?_); refine box_event ?hg (N := 8) ?hd (cs := #[.slice A0 l0.length c0, .int .i64 0, .int .u64 0]) (t := 56) ?hr ?_; (case hd => rfl); (case hg => rfl); (case hr => first | (go_simp; done) | (go_simp; rfl)); intro gc hg w1_ hbox hb; have HI := Aside0.mk (show IsS56 w w1_ gc l0 0 0 from ⟨A0, c0, hbox, by rw [hg]; exact Nat.le_refl _, HR0.out⟩); have n_ := Aside0.mk (below_step HB.out hb); clear HB; have HB := n_; clear n_ hg hbox hb) | ((with_reducible refine gate_dst (N := 10) rfl ?_); (with_reducible refine gate_callee (f := 30) rfl ?_); refine goesL_ (some 10) rfl rfl Try.func30 (by kernel_rfl) rfl #[.pointer (some ⟨gc, 0, none⟩)] rfl gmp ?_; (with_reducible refine (spec_l1Cur_loads.calls k gc l0 0 0 t1 t3 t4 w _ HI.out HB.out A2.out).mono ?_); rintro e w2_ ⟨Vzt1, rfl, hozt1, hi, hb, hk⟩; refine ⟨_, rfl, ?_⟩; have n0_ := Aside0.mk (Kd.R_lower hozt1 (below_size HB.out)); have n1_ := Aside0.mk hi; have n2_ := Aside0.mk hb; (try clear HOzt1); (try clear HI); (try clear HB); have HOzt1 := n0_; have HI := n1_; have HB := n2_; clear n0_ n1_ n2_; (try clear hi); (try clear hb); (try clear hk); clear hozt1; obtain ⟨Azt1, czt1, ezt1_⟩ := Kd.R_slice HOzt1.out; subst ezt1_) | ((with_reducible refine gate_dst (N := 15) rfl ?_); (with_reducible refine gate_callee (f := 32) rfl ?_); refine goesL_ (some 15) rfl rfl Try.func32 (by kernel_rfl) rfl #[.pointer (some ⟨gc, 0, none⟩), .int .i64 24] rfl gmp ?_; have BN_ := Aside0.mk (show w2_.heap.size ≠ gc from by have h_ := IsS56.lt HI.out; omega); have NEq5 := BN_; (with_reducible refine (spec_l1Cur_pick.calls gc l0 t3 t4 24 t6 t8 t9 w _ (IsS56.alloc HI.out _) (below_alloc HB.out _) A7.out).mono ?_); rintro e w3_ ⟨rfl, hi, hb, hk⟩; refine ⟨_, rfl, ?_⟩; have n0_ := Aside0.mk (Kd.R_mono (Kd.R_keep (IsS56.apart (IsS56.alloc HI.out _) (Kd.R_alloc HOzt1.out _) (by decide)) hk (fun _ h => h.2)) (fun _ h => h.1)); have n1_ := Aside0.mk (hk.blk (blk_new w2_ (.cells #[.int .i64 0, .int .i64 1, .int .i64 10, .int .i64 50, .int .i64 200, .int .i64 (-1), .int .i64 201] 3 (0, 0))) NEq5.out (by simp)); have n2_ := Aside0.mk hi; have n3_ := Aside0.mk hb; (try clear HOzt1); (try clear BLq5); (try clear HI); (try clear HB); have HOzt1 := n0_; have BLq5 := n1_; have HI := n2_; have HB := n3_; clear n0_ n1_ n2_ n3_; (try clear hi); (try clear hb); (try clear hk)) | ((with_reducible refine gate_dst (N := 19) rfl ?_); (with_reducible refine gate_callee (f := 31) rfl ?_); refine goesL_ (some 19) rfl rfl Try.func31 (by kernel_rfl) rfl #[.pointer (some ⟨gc, 0, none⟩), .slice (some ⟨w2_.heap.size, 0, none⟩) ([0, 1, 10, 50, 200] : List Int).length 7] rfl gmp ?_; have CLq5 : Kd.C (Kd.int .i64) w3_ (some ⟨w2_.heap.size, 0, none⟩) ([0, 1, 10, 50, 200] : List Int).length ([0, 1, 10, 50, 200] : List Int) := lit_C (xs := [0, 1, 10, 50, 200, (-1), 201]) BLq5.out 5 (by decide); have b_ : spec_l1Cur_among.f l0 t8 t9 ([0, 1, 10, 50, 200] : List Int) = some (t10, t12, t13) := A11.out; (with_reducible refine (spec_l1Cur_among.calls gc l0 t8 t9 _ _ ([0, 1, 10, 50, 200] : List Int) t10 t12 t13 w _ HI.out HB.out CLq5 (show ([0, 1, 10, 50, 200] : List Int).length ≤ 7 by decide) (fun ad he_ _ => by cases he_; exact NEq5.out) b_).mono ?_); rintro e w4_ ⟨rfl, hi, hb, hk⟩; refine ⟨_, rfl, ?_⟩; clear CLq5 b_; have n0_ := Aside0.mk (Kd.R_mono (Kd.R_keep (IsS56.apart HI.out HOzt1.out (by decide)) hk (fun _ h => h.2)) (fun _ h => h.1)); have n1_ := Aside0.mk hi; have n2_ := Aside0.mk hb; (try clear HOzt1); (try clear HI); (try clear HB); have HOzt1 := n0_; have HI := n1_; have HB := n2_; clear n0_ n1_ n2_; (try clear hi); (try clear hb); (try clear hk)))
    go_ret2
    exact ⟨_, (by first | rfl | (simp; done)), Kd.R_mono HOzt1.out (fun _ _ => trivial), HB.out⟩
  · have pt60 : 0 ≤ t6 := Ct6.out.1
    have pt61 : Int.tdiv t6 11 = 1 := by rw [Int.tdiv_eq_ediv_of_nonneg Ct6.out.1]; exact hq_
    have a_ := A11.out
    rw [hq_] at a_
    have b_ := Aside0.mk a_
    clear A11 a_
    have A11 := b_
    clear b_
    go_enter Try.func15, Try.ntmps15
    go_wp2_with (first | ((with_reducible refine gate_dst (N := 8) rfl ?_); refine box_event ?hg (N := 8) ?hd (cs := #[.slice A0 l0.length c0, .int .i64 0, .int .u64 0]) (t := 56) ?hr ?_; (case hd => rfl); (case hg => rfl); (case hr => first | (go_simp; done) | (go_simp; rfl)); intro gc hg w1_ hbox hb; have HI := Aside0.mk (show IsS56 w w1_ gc l0 0 0 from ⟨A0, c0, hbox, by rw [hg]; exact Nat.le_refl _, HR0.out⟩); have n_ := Aside0.mk (below_step HB.out hb); clear HB; have HB := n_; clear n_ hg hbox hb) | ((with_reducible refine gate_dst (N := 10) rfl ?_); (with_reducible refine gate_callee (f := 30) rfl ?_); refine goesL_ (some 10) rfl rfl Try.func30 (by kernel_rfl) rfl #[.pointer (some ⟨gc, 0, none⟩)] rfl gmp ?_; (with_reducible refine (spec_l1Cur_loads.calls k gc l0 0 0 t1 t3 t4 w _ HI.out HB.out A2.out).mono ?_); rintro e w2_ ⟨Vzt1, rfl, hozt1, hi, hb, hk⟩; refine ⟨_, rfl, ?_⟩; have n0_ := Aside0.mk (Kd.R_lower hozt1 (below_size HB.out)); have n1_ := Aside0.mk hi; have n2_ := Aside0.mk hb; (try clear HOzt1); (try clear HI); (try clear HB); have HOzt1 := n0_; have HI := n1_; have HB := n2_; clear n0_ n1_ n2_; (try clear hi); (try clear hb); (try clear hk); clear hozt1; obtain ⟨Azt1, czt1, ezt1_⟩ := Kd.R_slice HOzt1.out; subst ezt1_) | ((with_reducible refine gate_dst (N := 15) rfl ?_); (with_reducible refine gate_callee (f := 32) rfl ?_); refine goesL_ (some 15) rfl rfl Try.func32 (by kernel_rfl) rfl #[.pointer (some ⟨gc, 0, none⟩), .int .i64 24] rfl gmp ?_; have BN_ := Aside0.mk (show w2_.heap.size ≠ gc from by have h_ := IsS56.lt HI.out; omega); have NEq5 := BN_; (with_reducible refine (spec_l1Cur_pick.calls gc l0 t3 t4 24 t6 t8 t9 w _ (IsS56.alloc HI.out _) (below_alloc HB.out _) A7.out).mono ?_); rintro e w3_ ⟨rfl, hi, hb, hk⟩; refine ⟨_, rfl, ?_⟩; have n0_ := Aside0.mk (Kd.R_mono (Kd.R_keep (IsS56.apart (IsS56.alloc HI.out _) (Kd.R_alloc HOzt1.out _) (by decide)) hk (fun _ h => h.2)) (fun _ h => h.1)); have n1_ := Aside0.mk (hk.blk (blk_new w2_ (.cells #[.int .i64 0, .int .i64 1, .int .i64 10, .int .i64 50, .int .i64 200, .int .i64 (-1), .int .i64 201] 3 (0, 0))) NEq5.out (by simp)); have n2_ := Aside0.mk hi; have n3_ := Aside0.mk hb; (try clear HOzt1); (try clear BLq5); (try clear HI); (try clear HB); have HOzt1 := n0_; have BLq5 := n1_; have HI := n2_; have HB := n3_; clear n0_ n1_ n2_ n3_; (try clear hi); (try clear hb); (try clear hk)) | ((with_reducible refine gate_dst (N := 19) rfl ?_); (with_reducible refine gate_callee (f := 31) rfl ?_); refine goesL_ (some 19) rfl rfl Try.func31 (by kernel_rfl) rfl #[.pointer (some ⟨gc, 0, none⟩), .slice (some ⟨w2_.heap.size, 0, none⟩) ([0, 1, 10, 50, 200, (-1)] : List Int).length 7] rfl gmp ?_; have CLq5 : Kd.C (Kd.int .i64) w3_ (some ⟨w2_.heap.size, 0, none⟩) ([0, 1, 10, 50, 200, (-1)] : List Int).length ([0, 1, 10, 50, 200, (-1)] : List Int) := lit_C (xs := [0, 1, 10, 50, 200, (-1), 201]) BLq5.out 6 (by decide); have b_ : spec_l1Cur_among.f l0 t8 t9 ([0, 1, 10, 50, 200, (-1)] : List Int) = some (t10, t12, t13) := A11.out; (with_reducible refine (spec_l1Cur_among.calls gc l0 t8 t9 _ _ ([0, 1, 10, 50, 200, (-1)] : List Int) t10 t12 t13 w _ HI.out HB.out CLq5 (show ([0, 1, 10, 50, 200, (-1)] : List Int).length ≤ 7 by decide) (fun ad he_ _ => by cases he_; exact NEq5.out) b_).mono ?_); rintro e w4_ ⟨rfl, hi, hb, hk⟩; refine ⟨_, rfl, ?_⟩; clear CLq5 b_; have n0_ := Aside0.mk (Kd.R_mono (Kd.R_keep (IsS56.apart HI.out HOzt1.out (by decide)) hk (fun _ h => h.2)) (fun _ h => h.1)); have n1_ := Aside0.mk hi; have n2_ := Aside0.mk hb; (try clear HOzt1); (try clear HI); (try clear HB); have HOzt1 := n0_; have HI := n1_; have HB := n2_; clear n0_ n1_ n2_; (try clear hi); (try clear hb); (try clear hk)))
    go_ret2
    exact ⟨_, (by first | rfl | (simp; done)), Kd.R_mono HOzt1.out (fun _ _ => trivial), HB.out⟩
  · have pt60 : 0 ≤ t6 := Ct6.out.1
    have pt61 : Int.tdiv t6 11 = 2 := by rw [Int.tdiv_eq_ediv_of_nonneg Ct6.out.1]; exact hq_
    have a_ := A11.out
    rw [hq_] at a_
    have b_ := Aside0.mk a_
    clear A11 a_
    have A11 := b_
    clear b_
    go_enter Try.func15, Try.ntmps15
    go_wp2_with (first | ((with_reducible refine gate_dst (N := 8) rfl ?_); refine box_event ?hg (N := 8) ?hd (cs := #[.slice A0 l0.length c0, .int .i64 0, .int .u64 0]) (t := 56) ?hr ?_; (case hd => rfl); (case hg => rfl); (case hr => first | (go_simp; done) | (go_simp; rfl)); intro gc hg w1_ hbox hb; have HI := Aside0.mk (show IsS56 w w1_ gc l0 0 0 from ⟨A0, c0, hbox, by rw [hg]; exact Nat.le_refl _, HR0.out⟩); have n_ := Aside0.mk (below_step HB.out hb); clear HB; have HB := n_; clear n_ hg hbox hb) | ((with_reducible refine gate_dst (N := 10) rfl ?_); (with_reducible refine gate_callee (f := 30) rfl ?_); refine goesL_ (some 10) rfl rfl Try.func30 (by kernel_rfl) rfl #[.pointer (some ⟨gc, 0, none⟩)] rfl gmp ?_; (with_reducible refine (spec_l1Cur_loads.calls k gc l0 0 0 t1 t3 t4 w _ HI.out HB.out A2.out).mono ?_); rintro e w2_ ⟨Vzt1, rfl, hozt1, hi, hb, hk⟩; refine ⟨_, rfl, ?_⟩; have n0_ := Aside0.mk (Kd.R_lower hozt1 (below_size HB.out)); have n1_ := Aside0.mk hi; have n2_ := Aside0.mk hb; (try clear HOzt1); (try clear HI); (try clear HB); have HOzt1 := n0_; have HI := n1_; have HB := n2_; clear n0_ n1_ n2_; (try clear hi); (try clear hb); (try clear hk); clear hozt1; obtain ⟨Azt1, czt1, ezt1_⟩ := Kd.R_slice HOzt1.out; subst ezt1_) | ((with_reducible refine gate_dst (N := 15) rfl ?_); (with_reducible refine gate_callee (f := 32) rfl ?_); refine goesL_ (some 15) rfl rfl Try.func32 (by kernel_rfl) rfl #[.pointer (some ⟨gc, 0, none⟩), .int .i64 24] rfl gmp ?_; have BN_ := Aside0.mk (show w2_.heap.size ≠ gc from by have h_ := IsS56.lt HI.out; omega); have NEq5 := BN_; (with_reducible refine (spec_l1Cur_pick.calls gc l0 t3 t4 24 t6 t8 t9 w _ (IsS56.alloc HI.out _) (below_alloc HB.out _) A7.out).mono ?_); rintro e w3_ ⟨rfl, hi, hb, hk⟩; refine ⟨_, rfl, ?_⟩; have n0_ := Aside0.mk (Kd.R_mono (Kd.R_keep (IsS56.apart (IsS56.alloc HI.out _) (Kd.R_alloc HOzt1.out _) (by decide)) hk (fun _ h => h.2)) (fun _ h => h.1)); have n1_ := Aside0.mk (hk.blk (blk_new w2_ (.cells #[.int .i64 0, .int .i64 1, .int .i64 10, .int .i64 50, .int .i64 200, .int .i64 (-1), .int .i64 201] 3 (0, 0))) NEq5.out (by simp)); have n2_ := Aside0.mk hi; have n3_ := Aside0.mk hb; (try clear HOzt1); (try clear BLq5); (try clear HI); (try clear HB); have HOzt1 := n0_; have BLq5 := n1_; have HI := n2_; have HB := n3_; clear n0_ n1_ n2_ n3_; (try clear hi); (try clear hb); (try clear hk)) | ((with_reducible refine gate_dst (N := 19) rfl ?_); (with_reducible refine gate_callee (f := 31) rfl ?_); refine goesL_ (some 19) rfl rfl Try.func31 (by kernel_rfl) rfl #[.pointer (some ⟨gc, 0, none⟩), .slice (some ⟨w2_.heap.size, 0, none⟩) ([0, 1, 10, 50, 200, (-1), 201] : List Int).length 7] rfl gmp ?_; have CLq5 : Kd.C (Kd.int .i64) w3_ (some ⟨w2_.heap.size, 0, none⟩) ([0, 1, 10, 50, 200, (-1), 201] : List Int).length ([0, 1, 10, 50, 200, (-1), 201] : List Int) := lit_C (xs := [0, 1, 10, 50, 200, (-1), 201]) BLq5.out 7 (by decide); have b_ : spec_l1Cur_among.f l0 t8 t9 ([0, 1, 10, 50, 200, (-1), 201] : List Int) = some (t10, t12, t13) := A11.out; (with_reducible refine (spec_l1Cur_among.calls gc l0 t8 t9 _ _ ([0, 1, 10, 50, 200, (-1), 201] : List Int) t10 t12 t13 w _ HI.out HB.out CLq5 (show ([0, 1, 10, 50, 200, (-1), 201] : List Int).length ≤ 7 by decide) (fun ad he_ _ => by cases he_; exact NEq5.out) b_).mono ?_); rintro e w4_ ⟨rfl, hi, hb, hk⟩; refine ⟨_, rfl, ?_⟩; clear CLq5 b_; have n0_ := Aside0.mk (Kd.R_mono (Kd.R_keep (IsS56.apart HI.out HOzt1.out (by decide)) hk (fun _ h => h.2)) (fun _ h => h.1)); have n1_ := Aside0.mk hi; have n2_ := Aside0.mk hb; (try clear HOzt1); (try clear HI); (try clear HB); have HOzt1 := n0_; have HI := n1_; have HB := n2_; clear n0_ n1_ n2_; (try clear hi); (try clear hb); (try clear hk)))
    go_ret2
    exact ⟨_, (by first | rfl | (simp; done)), Kd.R_mono HOzt1.out (fun _ _ => trivial), HB.out⟩

end Go.Proofs.Ytkahifpcimoogaa.P
