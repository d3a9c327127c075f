-- Written by a program of this session over the translation (a variant of the printer, see wip/gen); Lean checks it.
import Derived.Test.YtgeakpogmjbjkaaPx0
import Derived.Test.YtgeakpogmjbjkaaPx7
namespace Go.Proofs.Ytgeakpogmjbjkaa.P
open Go.RowKit Go.Proofs.YtgeakpogmjbjkaaW.PrintWords Go.Proofs.YtgeakpogmjbjkaaW.PrintLast Go.Proofs.YtgeakpogmjbjkaaW.PrintMore
attribute [local go_sem] Go.Proofs.Ytgeakpogmjbjkaa.V.isSome_setCell max2_int min2_int max_two min_two max_three min_three max_four min_four   -- for this text's walks alone
set_option linter.unusedVariables false
set_option linter.unusedSimpArgs false

/-! ### spec_l7Put: function 45 -/
def spec_l7Put.f (k : Nat) (l0_0 : List (List Int)) (a1 : Int) (a2 : Int) : Option ((List (List Int))) := (spec_l5Own.f k l0_0).bind fun t221 => (if 0 ≤ a1 then (if a1 < (t221.length : Int) then (if (rd_L1 t221 a1).length < 17592186044416 then (some (t221.set (a1 : Int).toNat ((rd_L1 t221 a1) ++ [a2]))) else (none)) else (none)) else (none))
theorem spec_l7Put.mono : ∀ a0 a1 a2 k, LeO (spec_l7Put.f k a0 a1 a2) (spec_l7Put.f (k + 1) a0 a1 a2) := by
 intro a0 a1 a2 k
 unfold spec_l7Put.f
 repeat' first
   | (with_reducible exact spec_l5Own.mono _ _)
   | (with_reducible exact LeO.refl _)
   | (with_reducible exact LeO.none _)
   | (with_reducible refine LeO.ite ?_ ?_)
   | (with_reducible refine LeO.bind ?_ (fun _ => ?_))
   | exact spec_l5Own.mono _ _
   | exact LeO.none _
   | refine LeO.ite ?_ ?_
   | refine LeO.bind ?_ (fun _ => ?_)
def spec_l7Put.T2 : Bool × List (List Nat × List Nat) := (true, [([], []), ([0], [0]), ([], []), ([], []), ([3], [3]), ([], []), ([4, 5], [4, 5]), ([6], [6]), ([], []), ([8], [8]), ([7, 9], [7, 9]), ([1, 2, 0, 1, 2, 3, 4, 5, 6, 7, 8, 9, 10], [1, 2]), ([11, 10, 10, 0, 1, 2, 3, 4, 5, 6, 7, 8, 9, 10], [10, 11])])
def spec_l7Put.B2 : List Nat := [0, 1, 0, 0, 8, 0, 56, 120, 0, 256, 1016, 2047, 4095]
theorem spec_l7Put.tab2 : rtab .any (opsOf Try.f45 2) = spec_l7Put.T2 := by kernel_rfl
theorem spec_l7Put.bits2 : waitsOk spec_l7Put.T2.2 spec_l7Put.B2 = true := by kernel_rfl
set_option maxHeartbeats 8000000 in
set_option maxRecDepth 100000 in
theorem spec_l7Put.calls (k : Nat) (A0_0 : Option Addr) (c0_0 : Nat) (l0_0 : List (List Int)) (a1 : Int) (a2 : Int) (r : List (List Int)) (w : World) (hr0_0 : Kd.C (Kd.slice 3 (Kd.int .i64)) w A0_0 l0_0.length l0_0) (hc0_0 : l0_0.length ≤ c0_0) (h : spec_l7Put.f k l0_0 a1 a2 = some r) :
  Calls Try.prog 45 #[.agg #[.slice A0_0 l0_0.length c0_0], .int .i64 a1, .int .i64 a2] w fun e w' => ∃ v0_ : Value, e = .returned (.agg #[v0_]) ∧ Kd.S (Kd.slice 3 (Kd.int .i64)) 28 w' w.heap.size (fun _ => True) v0_ r ∧ Below w.heap.size w w' := by
 have hu31 := Try.underlying31
 have HR0_0 := Aside0.mk hr0_0
 have HC0_0 := Aside0.mk hc0_0
 clear hr0_0 hc0_0
 have HB := Aside0.mk (Below.refl w.heap.size w)
 have H : ((spec_l5Own.f k l0_0).bind fun t221 => (if 0 ≤ a1 then (if a1 < (t221.length : Int) then (if (rd_L1 t221 a1).length < 17592186044416 then (some (t221.set (a1 : Int).toNat ((rd_L1 t221 a1) ++ [a2]))) else (none)) else (none)) else (none))) = some r := h
 clear h
 replace H := Option.bind_eq_some_iff.mp H
 obtain ⟨t221, A40, H⟩ := H
 replace H : (if 0 ≤ a1 then (if a1 < (t221.length : Int) then (if (rd_L1 t221 a1).length < 17592186044416 then (some (t221.set (a1 : Int).toNat ((rd_L1 t221 a1) ++ [a2]))) else (none)) else (none)) else (none)) = some r := H
 have A4 := Aside0.mk A40
 clear A40
 by_cases c5 : 0 ≤ a1
 ·rw [if_pos c5] at H
  have c5b0 : decide (0 ≤ a1) = true := decide_eq_true c5
  clear c5
  by_cases c6 : a1 < (t221.length : Int)
  ·rw [if_pos c6] at H
   have c6b0 : decide (a1 < (t221.length : Int)) = true := decide_eq_true c6
   clear c6
   by_cases c7 : (rd_L1 t221 a1).length < 17592186044416
   ·rw [if_pos c7] at H
    have LMc7 := Aside0.mk c7
    clear c7
    obtain ⟨y226, hy226⟩ : ∃ y_ : List Int, y_ = ((rd_L1 t221 a1) ++ [a2]) := ⟨_, rfl⟩
    replace H : (some (t221.set (a1 : Int).toNat y226)) = some r := by first | (rw [hy226]; with_reducible exact H) | (have H2_ := (Option.bind_some _ _).symm.trans H; rw [hy226]; with_reducible exact H2_) | (have H2_ := (Option.bind_some _ _).symm.trans H; with_reducible exact H2_) | with_reducible exact H | (rw [hy226]; exact H) | exact H
    have Ny226 := Aside0.mk hy226
    clear hy226
    obtain ⟨y229, hy229⟩ : ∃ y_ : List (List Int), y_ = (t221.set (a1 : Int).toNat y226) := ⟨_, rfl⟩
    replace H : (some y229) = some r := by first | (rw [hy229]; with_reducible exact H) | (have H2_ := (Option.bind_some _ _).symm.trans H; rw [hy229]; with_reducible exact H2_) | (have H2_ := (Option.bind_some _ _).symm.trans H; with_reducible exact H2_) | with_reducible exact H | (rw [hy229]; exact H) | exact H
    have Ny229 := Aside0.mk hy229
    clear hy229
    obtain rfl := Option.some.inj H
    go_enter Try.func45, Try.ntmps45
    try go_wp2_with (first | ((with_reducible refine gate_dst (N := 3) rfl ?_); refine box_event ?hg (N := 3) ?hd (cs := #[.slice A0_0 l0_0.length c0_0]) (t := 31) ?hr ?_; (case hd => rfl); (case hg => rfl); (case hr => first | (go_simp; done) | (go_simp; rfl)); intro gb219 hg w9 hbox hb; have n0_ := Aside0.mk (below_step (bel HB) hb); have n1_ := Aside0.mk (hbox); have n2_ := Aside0.mk ((by rw [hg]; exact (below_size (bel HB)) : w.heap.size ≤ gb219)); have n3_ := Aside0.mk ((by rw [hg]; exact (below_size (bel HB)) : w.heap.size ≤ gb219)); clear HB; have HB := n0_; have BK219 := n1_; have GW219 := n2_; have GE219 := n3_; clear n0_ n1_ n2_ n3_; clear hb hbox hg) | ((with_reducible refine gate_dst (N := 6) rfl ?_); refine box_event ?hg (N := 6) ?hd (cs := #[.slice none 0 0]) (t := 31) ?hr ?_; (case hd => rfl); (case hg => rfl); (case hr => first | (go_simp; done) | (go_simp; rfl)); intro gb220 hg w10 hbox hb; have n0_ := Aside0.mk (blk_below (g := gb219) (o := .cells #[.slice A0_0 l0_0.length c0_0] 31 (0, 0)) (bkl BK219) hb); have n1_ := Aside0.mk (below_step (bel1 HB GE219) hb); have n2_ := Aside0.mk (hbox); have n3_ := Aside0.mk ((by rw [hg]; exact (below_size (bel1 HB GE219)) : w.heap.size ≤ gb220)); have n4_ := Aside0.mk ((by rw [hg]; exact (below_size (bel1 HB GE219)) : w.heap.size ≤ gb220)); have n5_ := Aside0.mk ((by rw [hg]; exact Nat.ne_of_lt (blk_lt (g := gb219) (o := .cells #[.slice A0_0 l0_0.length c0_0] 31 (0, 0)) (bkl BK219)) : gb219 ≠ gb220)); have n6_ := Aside0.mk ((by rw [hg]; exact Nat.ne_of_gt (blk_lt (g := gb219) (o := .cells #[.slice A0_0 l0_0.length c0_0] 31 (0, 0)) (bkl BK219)) : gb220 ≠ gb219)); clear BK219; clear HB; have BK219 := n0_; have HB := n1_; have BK220 := n2_; have GW220 := n3_; have GE220 := n4_; have NB219_220 := n5_; have NB220_219 := n6_; clear n0_ n1_ n2_ n3_ n4_ n5_ n6_; clear hb hbox hg; have hnb11 := NB219_220.out; have hnc11 := NB220_219.out; have hcz12_0 : w10.cell? ⟨gb219, 0, none⟩ = some (.slice A0_0 l0_0.length c0_0) := (blk_cell BK219.out 0).trans rfl; have hfz12_0 := blk_frozen BK219.out 0) | ((with_reducible refine gate_callee (f := 59) rfl ?_); refine goesL_ (some 9) rfl rfl Try.func59 (by kernel_rfl) rfl #[.agg #[.slice A0_0 l0_0.length c0_0]] rfl gmp ?_; (with_reducible refine (spec_l5Own.calls k _ _ l0_0 t221 _ ?side1 ?side2 A4.out).mono ?_); (case side1 => exact cdl (Kd.C_below HR0_0.out HB.out)); (case side2 => exact HC0_0.out); rintro e w13 ⟨v222, rfl, ho0, hb⟩; refine ⟨_, rfl, ?_⟩; have n0_ := Aside0.mk (Kd.S_lower ho0 (below_size (bel2 HB GE219 GE220))); have n1_ := Aside0.mk (blk_below (g := gb219) (o := .cells #[.slice A0_0 l0_0.length c0_0] 31 (0, 0)) (bkl BK219) hb); have n2_ := Aside0.mk (blk_below (g := gb220) (o := .cells #[.slice none 0 0] 31 (0, 0)) (bkl BK220) hb); have n3_ := Aside0.mk (below_step (bel2 HB GE219 GE220) hb); clear BK219; clear BK220; clear HB; have HO223 := n0_; have BK219 := n1_; have BK220 := n2_; have HB := n3_; clear n0_ n1_ n2_ n3_; (try clear hb); (try clear hb2); (try clear hk); (try clear hi); (try clear ho0)) | ((with_reducible refine gate_dst (N := 7) rfl ?_); refine box_event ?hg (N := 7) ?hd (cs := #[.slice none 0 0]) (t := 31) ?hr ?_; (case hd => rfl); (case hg => rfl); (case hr => first | (go_simp; done) | (go_simp; rfl)); intro gb224 hg w14 hbox hb; have n0_ := Aside0.mk (Kd.S_below (sdl HO223) hb); have n1_ := Aside0.mk (blk_below (g := gb219) (o := .cells #[.slice A0_0 l0_0.length c0_0] 31 (0, 0)) (bkl BK219) hb); have n2_ := Aside0.mk (blk_below (g := gb220) (o := .cells #[.slice none 0 0] 31 (0, 0)) (bkl BK220) hb); have n3_ := Aside0.mk (below_step (bel2 HB GE219 GE220) hb); have n4_ := Aside0.mk (hbox); have n5_ := Aside0.mk ((by rw [hg]; exact (below_size (bel2 HB GE219 GE220)) : w.heap.size ≤ gb224)); have n6_ := Aside0.mk ((by rw [hg]; exact (below_size (bel2 HB GE219 GE220)) : w.heap.size ≤ gb224)); have n7_ := Aside0.mk ((by rw [hg]; exact Nat.ne_of_lt (blk_lt (g := gb219) (o := .cells #[.slice A0_0 l0_0.length c0_0] 31 (0, 0)) (bkl BK219)) : gb219 ≠ gb224)); have n8_ := Aside0.mk ((by rw [hg]; exact Nat.ne_of_gt (blk_lt (g := gb219) (o := .cells #[.slice A0_0 l0_0.length c0_0] 31 (0, 0)) (bkl BK219)) : gb224 ≠ gb219)); have n9_ := Aside0.mk ((by rw [hg]; exact Nat.ne_of_lt (blk_lt (g := gb220) (o := .cells #[.slice none 0 0] 31 (0, 0)) (bkl BK220)) : gb220 ≠ gb224)); have n10_ := Aside0.mk ((by rw [hg]; exact Nat.ne_of_gt (blk_lt (g := gb220) (o := .cells #[.slice none 0 0] 31 (0, 0)) (bkl BK220)) : gb224 ≠ gb220)); clear HO223; clear BK219; clear BK220; clear HB; have HO223 := n0_; have BK219 := n1_; have BK220 := n2_; have HB := n3_; have BK224 := n4_; have GW224 := n5_; have GE224 := n6_; have NB219_224 := n7_; have NB224_219 := n8_; have NB220_224 := n9_; have NB224_220 := n10_; clear n0_ n1_ n2_ n3_ n4_ n5_ n6_ n7_ n8_ n9_ n10_; clear hb hbox hg; obtain ⟨Ao15, co15, eo15⟩ := Kd.S_slice HO223.out; subst eo15; have hnb16 := NB224_219.out; have hnc16 := NB219_224.out; have hnb17 := NB224_220.out; have hnc17 := NB220_224.out; have hcz18_0 : w14.cell? ⟨gb224, 0, none⟩ = some (.slice none 0 0) := (blk_cell BK224.out 0).trans rfl; have hfz18_0 := blk_frozen BK224.out 0))
    have n0_ : Aside0 (Kd.S (Kd.slice 3 (Kd.int .i64)) 28 (w14.setCell ⟨gb224, 0, none⟩ (.slice Ao15 t221.length co15)) w.heap.size (fun _ => True) (.slice Ao15 t221.length co15) t221) := ⟨by (with_reducible repeat (first | apply Kd.S_alloc | apply Kd.S_drewN | apply Kd.S_drew)); exact Kd.S_mono (Kd.S_far (p := ⟨gb224, 0, none⟩) (Kd.S_types HO223.out BK224.out (by decide)) (fun _ hk => hk.2) (.slice Ao15 t221.length co15)) (fun _ hk => trivial)⟩
    have n1_ : Aside0 ((w14.setCell ⟨gb224, 0, none⟩ (.slice Ao15 t221.length co15)).heap[gb219]? = some (.cells #[.slice A0_0 l0_0.length c0_0] 31 (0, 0))) := ⟨by (with_reducible repeat (first | refine blk_drewN ?_ _ | refine blk_drew ?_ | refine blk_alloc ?_ _)); refine blk_far ?_ NB219_224.out _; (with_reducible repeat (first | refine blk_drewN ?_ _ | refine blk_drew ?_ | refine blk_alloc ?_ _)); exact BK219.out⟩
    have n2_ : Aside0 ((w14.setCell ⟨gb224, 0, none⟩ (.slice Ao15 t221.length co15)).heap[gb220]? = some (.cells #[.slice none 0 0] 31 (0, 0))) := ⟨by (with_reducible repeat (first | refine blk_drewN ?_ _ | refine blk_drew ?_ | refine blk_alloc ?_ _)); refine blk_far ?_ NB220_224.out _; (with_reducible repeat (first | refine blk_drewN ?_ _ | refine blk_drew ?_ | refine blk_alloc ?_ _)); exact BK220.out⟩
    have n3_ : Aside0 ((w14.setCell ⟨gb224, 0, none⟩ (.slice Ao15 t221.length co15)).heap[gb224]? = some (.cells #[.slice Ao15 t221.length co15] 31 (0, 0))) := ⟨by (with_reducible repeat (first | refine blk_drewN ?_ _ | refine blk_drew ?_ | refine blk_alloc ?_ _)); refine blk_put (cs := #[.slice none 0 0]) ?_ 0 _ rfl; (with_reducible repeat (first | refine blk_drewN ?_ _ | refine blk_drew ?_ | refine blk_alloc ?_ _)); exact BK224.out⟩
    have n4_ : Aside0 (Below w.heap.size w (w14.setCell ⟨gb224, 0, none⟩ (.slice Ao15 t221.length co15))) := ⟨bel3 HB GE219 GE220 GE224⟩
    (try clear HO223)
    (try clear BK219)
    (try clear BK220)
    (try clear BK224)
    (try clear HB)
    generalize (w14.setCell ⟨gb224, 0, none⟩ (.slice Ao15 t221.length co15)) = w19 at n0_ n1_ n2_ n3_ n4_ ⊢
    have HO223 := n0_
    have BK219 := n1_
    have BK220 := n2_
    have BK224 := n3_
    have HB := n4_
    clear n0_ n1_ n2_ n3_ n4_
    have n0_ := Aside0.mk (Kd.S_drew HO223.out)
    have n1_ := Aside0.mk (blk_drew BK219.out)
    have n2_ := Aside0.mk (blk_drew BK220.out)
    have n3_ := Aside0.mk (blk_drew BK224.out)
    have n4_ := Aside0.mk (below_drew1 HB.out)
    clear HO223
    clear BK219
    clear BK220
    clear BK224
    clear HB
    have HO223 := n0_
    have BK219 := n1_
    have BK220 := n2_
    have BK224 := n3_
    have HB := n4_
    clear n0_ n1_ n2_ n3_ n4_
    have p225 : 0 ≤ (a1 : Int) := oda
    have q225 : a1 < (t221.length : Int) := oda
    obtain ⟨ad225, A225_0, c225_0, e225, hx225_0, hl225_0, hi225_0⟩ := at_L1 (Kd.S_reads' HO223.out).2.2 a1 p225 q225
    cases e225
    obtain ⟨ce225, hce225, hMe225, hcc225⟩ := Kd.S_get HO223.out [] a1 p225 (by first | exact q225 | exact oda | (have e_ := (Kd.S_reads' HO223.out).1; omega))
    obtain ⟨ve225_0, rfl, ge225_0⟩ := hMe225
    have hv225_0 := hcc225 0 _ rfl
    rw [Nat.add_zero, show ((Kd.slice 3 (Kd.int .i64))).sz = 1 from rfl, Nat.mul_one] at hv225_0
    replace hv225_0 := Option.some.inj (hv225_0.symm.trans hx225_0)
    rw [hv225_0] at ge225_0
    have HL225_0 := Aside0.mk (show Kd.R (Kd.int .i64) 3 _ _ _ _ (rd_L1 t221 a1) from ge225_0)
    clear hv225_0 ge225_0
    have HX225_0 := Aside0.mk hx225_0
    clear hcc225 hce225
    have HR225_0 := Aside0.mk hi225_0
    have HC225_0 := Aside0.mk hl225_0
    clear hi225_0 hl225_0
    replace p225 := eq_true p225
    replace q225 := eq_true q225
    obtain ⟨go21, co21, eo21, gb21, gl21, cl21, HG21⟩ := Kd.S_form HO223.out (by have h_ : (a1 : Int) < ((t221.length : Int) : Int) := oda; have h2_ : 0 ≤ (a1 : Int) := (oda); omega)
    (first | cases eo21 | (injection eo21 with ea_ en_ ec_; (first | subst ea_ | (injection ea_ with ea_; subst ea_)); subst ec_; clear en_))
    have GB21 := Aside0.mk gb21
    have GG21 := Aside0.mk HG21
    clear gb21 gl21 HG21
    (first | simp only [add_plain] at hx225_0 | skip)
    obtain ⟨oki21, ce21, hcl21, hM21, hcc21, _, _, hH21⟩ := Kd.S_elem HO223.out [] (a1 : Int) (oda) (by have h_ : (a1 : Int) < ((t221.length : Int) : Int) := oda; first | exact h_ | (have e_ := (Kd.S_reads' HO223.out).1; omega) | simpa using h_)
    obtain ⟨ve21_0, rfl, ge21_0⟩ := hM21
    have hv21 := hcc21 0 _ rfl
    have hX21 := HX225_0.out
    (try simp only [add_plain] at hX21)
    (try simp only [Nat.add_zero] at hv21)
    (try rw [show ((Kd.slice 3 (Kd.int .i64))).sz = 1 from rfl, Nat.mul_one] at hv21)
    replace hv21 := Option.some.inj (hv21.symm.trans hX21)
    subst hv21
    clear hX21 hcc21 hcl21
    have UU21 := Aside0.mk (show Kd.R (Kd.int .i64) 3 _ w.heap.size oki21 (.slice A225_0 (rd_L1 t221 a1).length c225_0) (rd_L1 t221 a1) from ge21_0)
    have HH21 := Aside0.mk hH21
    have HN21 := Aside0.mk (Kd.S_reads' HO223.out).1
    clear hH21 ge21_0
    refine start_ (n := 13) (S := fun w' => w'.cell? ⟨gb224, 0, none⟩ = some (.slice (some ⟨go21, 0, none⟩) t221.length co15) ∧ w'.cell? ⟨go21, (a1).toNat, none⟩ = some (.slice A225_0 (rd_L1 t221 a1).length c225_0)) (ds := [12]) #[false, false, false, false, false, false, false, false, false, false, false, false, false] (by kernel_rfl) rfl rfl ⟨(blk_cell BK224.out 0).trans rfl, hx225_0⟩ (fun hHeld => ?_); refine with_tabW spec_l7Put.tab2 spec_l7Put.bits2 (fun HT_ HW_ => ?_)
    generalize w19.drew = w20 at HO223 BK219 BK220 BK224 HB GG21 HH21 HL225_0 HR225_0 HX225_0 UU21 hx225_0 hHeld ⊢
    refine pure_ (i := 0) (N := some 10) (v := ?_) (a' := ?_) #[true, false, false, false, false, false, false, false, false, false, false, false, false] rfl rfl (any_of HT_.out (by kernel_rfl)) (fun _ _ _ h => h) (Or.inl ⟨by rfl, ?_⟩) ?_ ?_
    rotate_left
    ·intro w'
     go_simp
     with_reducible rfl
    rotate_left
    ·simp only [Act.put, List.setIfInBounds_toArray, List.set_cons_zero, List.set_cons_succ, i64_w, i32_w]
     rfl
    refine pure_ (i := 2) (N := some 12) (v := ?_) (a' := ?_) #[true, false, true, false, false, false, false, false, false, false, false, false, false] rfl rfl (any_of HT_.out (by kernel_rfl)) (fun _ _ _ h => h) (Or.inl ⟨by rfl, ?_⟩) ?_ ?_
    rotate_left
    ·intro w'
     go_simp
     with_reducible rfl
    rotate_left
    ·simp only [Act.put, List.setIfInBounds_toArray, List.set_cons_zero, List.set_cons_succ, i64_w, i32_w]
     rfl
    refine pure_ (i := 3) (N := some 13) (v := ?_) (a' := ?_) #[true, false, true, true, false, false, false, false, false, false, false, false, false] rfl rfl (any_of HT_.out (by kernel_rfl)) (fun _ _ _ h => h) (Or.inl ⟨by rfl, ?_⟩) ?_ ?_
    rotate_left
    ·intro w'
     go_simp
     with_reducible rfl
    rotate_left
    ·simp only [Act.put, List.setIfInBounds_toArray, List.set_cons_zero, List.set_cons_succ, i64_w, i32_w]
     rfl
    refine pure_ (i := 5) (N := some 15) (v := ?_) (a' := ?_) #[true, false, true, true, false, true, false, false, false, false, false, false, false] rfl rfl (any_of HT_.out (by kernel_rfl)) (fun _ _ _ h => h) (Or.inl ⟨by rfl, ?_⟩) ?_ ?_
    rotate_left
    ·intro w'
     go_simp
     with_reducible rfl
    rotate_left
    ·simp only [Act.put, List.setIfInBounds_toArray, List.set_cons_zero, List.set_cons_succ, i64_w, i32_w]
     rfl
    refine pure_ (i := 8) (N := some 18) (v := ?_) (a' := ?_) #[true, false, true, true, false, true, false, false, true, false, false, false, false] rfl rfl (any_of HT_.out (by kernel_rfl)) (fun _ _ _ h => h) (Or.inl ⟨by rfl, ?_⟩) ?_ ?_
    rotate_left
    ·intro w'
     go_simp
     with_reducible rfl
    rotate_left
    ·simp only [Act.put, List.setIfInBounds_toArray, List.set_cons_zero, List.set_cons_succ, i64_w, i32_w]
     rfl
    refine take_ (i := 1) (N := some 11) (v := ?_) (a' := ?_) #[true, true, true, true, false, true, false, false, true, false, false, false, false] rfl rfl (take_ofW HT_.out HW_.out (by kernel_rfl)) (fun _ _ _ h => h) (Or.inl ⟨by rfl, ?_⟩) hHeld ?_ ?_
    rotate_left
    ·rintro w' ⟨s0, s1⟩
     go_simp
     with_reducible rfl
    rotate_left
    ·simp only [Act.put, List.setIfInBounds_toArray, List.set_cons_zero, List.set_cons_succ, i64_w, i32_w]
     rfl
    refine take_ (i := 4) (N := some 14) (v := ?_) (a' := ?_) #[true, true, true, true, true, true, false, false, true, false, false, false, false] rfl rfl (take_ofW HT_.out HW_.out (by kernel_rfl)) (fun _ _ _ h => h) (Or.inl ⟨by rfl, ?_⟩) hHeld ?_ ?_
    rotate_left
    ·rintro w' ⟨s0, s1⟩
     go_simp
     with_reducible rfl
    rotate_left
    ·simp only [Act.put, List.setIfInBounds_toArray, List.set_cons_zero, List.set_cons_succ, i64_w, i32_w]
     rfl
    refine pure_ (i := 6) (N := some 16) (v := ?_) (a' := ?_) #[true, true, true, true, true, true, true, false, true, false, false, false, false] rfl rfl (any_of HT_.out (by kernel_rfl)) (fun _ _ _ h => h) (Or.inl ⟨by rfl, ?_⟩) ?_ ?_
    rotate_left
    ·intro w'
     go_simp
     with_reducible rfl
    rotate_left
    ·simp only [Act.put, List.setIfInBounds_toArray, List.set_cons_zero, List.set_cons_succ, i64_w, i32_w]
     rfl
    refine take_ (i := 7) (N := some 17) (v := ?_) (a' := ?_) #[true, true, true, true, true, true, true, true, true, false, false, false, false] rfl rfl (take_ofW HT_.out HW_.out (by kernel_rfl)) (fun _ _ _ h => h) (Or.inl ⟨by rfl, ?_⟩) hHeld ?_ ?_
    rotate_left
    ·rintro w' ⟨s0, s1⟩
     go_simp
     with_reducible rfl
    rotate_left
    ·simp only [Act.put, List.setIfInBounds_toArray, List.set_cons_zero, List.set_cons_succ, i64_w, i32_w]
     rfl
    refine one_ (i := 9) (N := some 19) #[true, true, true, true, true, true, true, true, true, true, false, false, false] rfl rfl (one_of HT_.out (by kernel_rfl)) (by decide) (fun K hK => ?_)
    refine value_ (w1 := ?_) (v := ?_) (by rfl) rfl ?_ ?_
    rotate_left 2
    ·go_simp
     constructor
     ·rfl
     ·rfl
    refine hK.out _ _ ⟨(blk_cell (blk_alloc BK224.out _) 0).trans rfl, (World.cell?_alloc_lt _ _ _ (World.block_lt_of_cell? _ _ (hHeld.2))).trans (hHeld.2)⟩ (fun hHeld => ?_)
    clear hK K
    refine norm_ (a' := ?_) ?_ ?_
    rotate_left
    ·show Act.put _ (some 19) _ = _
     simp only [Act.put, List.setIfInBounds_toArray, List.set_cons_zero, List.set_cons_succ, i64_w, i32_w]
     rfl
    refine one_ (i := 10) (N := some 20) #[true, true, true, true, true, true, true, true, true, true, true, false, false] rfl rfl (one_of HT_.out (by kernel_rfl)) (by decide) (fun K hK => ?_)
    refine Kd.R_append_step (Kd.int .i64) (w0 := w) w.heap.size (by rfl) (.tmp 17) (.tmp 19) 28 3 (.int .i64 0) 8 rfl Try.underlying28 info3 rfl (by decide) (by omega) (.slice A225_0 (rd_L1 t221 a1).length c225_0) (rd_L1 t221 a1) a2 [.int .i64 a2] (fun k_ => oki21 k_ ∨ ((fun _ => True)) k_ ∧ w20.heap.size ≤ k_) (fun _ => False) rfl rfl ?aP (fun _ hk => hk.elim) ?aF ?aO ?aB ?aS ?aL ?_
    (case aP => exact rfl)
    (case aB => exact (bel3 HB GE219 GE220 GE224))
    (case aF => exact (fun k_ hk => .inr ⟨trivial, hk⟩))
    (case aO => exact (by (with_reducible repeat (first | apply Kd.R_alloc | apply Kd.R_drewN | apply Kd.R_drew)); exact Kd.R_mono UU21.out (fun _ hk => .inl hk)))
    (case aS => exact (below_size (bel3 HB GE219 GE220 GE224)))
    (case aL => have := LMc7.out; omega)
    intro v227 w22 ho hb hg hat
    (first | have HS1_ := cell_grown hg (hHeld.2) (by first | (rw [add_block]; exact (fun e_ => ((HL225_0.out.1 _ e_.symm).2) rfl)) | (show some (Addr.add _ _).block ≠ _; rw [add_block]; exact (fun e_ => ((HL225_0.out.1 _ e_.symm).2) rfl)) | exact (fun e_ => ((HL225_0.out.1 _ e_.symm).2) rfl)) | have HS1_ := cell_grown hg (cell_unalloc (hHeld.2) (by first | (rw [add_block]; exact Kd.S_lt HO223.out _ rfl) | (show (Addr.add _ _).block < _; rw [add_block]; exact Kd.S_lt HO223.out _ rfl) | exact Kd.S_lt HO223.out _ rfl)) (by first | (rw [add_block]; exact (fun e_ => ((HL225_0.out.1 _ e_.symm).2) rfl)) | (show some (Addr.add _ _).block ≠ _; rw [add_block]; exact (fun e_ => ((HL225_0.out.1 _ e_.symm).2) rfl)) | exact (fun e_ => ((HL225_0.out.1 _ e_.symm).2) rfl)))
    rw [← Ny226.out] at ho
    have n0_ := Aside0.mk (blk_grown (g := gb219) (o := .cells #[.slice A0_0 l0_0.length c0_0] 31 (0, 0)) (bkl BK219) hg (Kd.R_ne HL225_0.out BK219.out (by decide)))
    have n1_ := Aside0.mk (blk_grown (g := gb220) (o := .cells #[.slice none 0 0] 31 (0, 0)) (bkl BK220) hg (Kd.R_ne HL225_0.out BK220.out (by decide)))
    have n2_ := Aside0.mk (blk_grown (g := gb224) (o := .cells #[.slice (some ⟨go21, 0, none⟩) t221.length co15] 31 (0, 0)) (bkl BK224) hg (Kd.R_ne HL225_0.out BK224.out (by decide)))
    have n3_ := Aside0.mk (hb)
    have n4_ := Aside0.mk (Kd.H_grown (Kd.H_widen (by repeat (first | exact HH21.out | refine Kd.H_alloc ?_ _ | refine Kd.H_drewN ?_ _ | refine Kd.H_drew ?_))) hg (fun k_ e_ => .inl (UU21.out.1 k_ e_)))
    have n5_ := Aside0.mk (ho)
    clear BK219
    clear BK220
    clear BK224
    clear HB
    clear HH21
    clear HO223
    clear UU21
    clear HL225_0
    have BK219 := n0_
    have BK220 := n1_
    have BK224 := n2_
    have HB := n3_
    have HH21 := n4_
    have HO228 := n5_
    clear n0_ n1_ n2_ n3_ n4_ n5_
    clear ho hb hg hat
    have p8 : 0 ≤ (a1 : Int) := oda
    have q8 : (a1 : Int) < ((t221.length : Int) : Int) := oda
    replace p8 := eq_true p8
    replace q8 := eq_true q8
    obtain ⟨Ao25, co25, eo25⟩ := Kd.R_slice HO228.out
    (first | subst eo25 | (injection eo25 with f1_ f2_ f3_; have f4_ := f1_.symm; have f5_ := f3_.symm; clear f1_ f2_ f3_; subst f4_; subst f5_))
    obtain ⟨_, _, hraw23, _, _, hcc23, _⟩ := Kd.H_raw HH21.out (oda) (by have h_ : (a1 : Int) < ((t221.length : Int) : Int) := oda; first | exact h_ | (have e_ := (HN21.out); omega) | simpa using h_)
    obtain ⟨_, hfr23⟩ := Kd.H_at HH21.out (oda) (by have h_ : (a1 : Int) < ((t221.length : Int) : Int) := oda; first | exact h_ | (have e_ := (HN21.out); omega) | simpa using h_)
    have hx23_0 := hcc23 0 _ rfl
    have hf23_0 := hfr23 0
    (try simp only [Nat.add_zero] at hx23_0 hf23_0)
    (try rw [show ((Kd.slice 3 (Kd.int .i64))).sz = 1 from rfl, Nat.mul_one] at hx23_0)
    (try rw [show ((Kd.slice 3 (Kd.int .i64))).sz = 1 from rfl, Nat.mul_one] at hf23_0)
    have HP23 := Kd.S_seg0 HH21.out (oda) (by have h_ : (a1 : Int) < ((t221.length : Int) : Int) := oda; first | exact h_ | (have e_ := (HN21.out); omega) | simpa using h_) (seg := [.slice Ao25 y226.length co25]) (j := 0) (show 1 ≤ 1 from by decide) (x' := y226) (Kd.M_row HO228.out) (fun _ hk => hk)
    (try simp only [show ((Kd.slice 3 (Kd.int .i64))).sz = 1 from rfl, Nat.mul_one, Nat.add_zero] at HP23)
    clear hcc23 hfr23
    have HNB219_go21 := Aside0.mk (show gb219 ≠ go21 from by have h_ := Kd.R_ne hraw23 BK219.out (by decide); intro e_; exact h_ (by rw [e_]; rfl))
    have HNB220_go21 := Aside0.mk (show gb220 ≠ go21 from by have h_ := Kd.R_ne hraw23 BK220.out (by decide); intro e_; exact h_ (by rw [e_]; rfl))
    have HNB224_go21 := Aside0.mk (show gb224 ≠ go21 from by have h_ := Kd.R_ne hraw23 BK224.out (by decide); intro e_; exact h_ (by rw [e_]; rfl))
    have HS23 := HP23.1
    rw [← Ny229.out] at HS23
    have HQ23 := Aside0.mk HS23
    obtain ⟨_, hgg23⟩ := Kd.R_typed hraw23 go21 rfl
    have GG23_ := Aside0.mk hgg23
    clear HP23 HS23 hgg23
    refine hK.out _ _ ⟨(blk_cell BK224.out 0).trans rfl, HS1_⟩ (fun hHeld => ?_)
    clear hK K
    refine norm_ (a' := ?_) ?_ ?_
    rotate_left
    ·show Act.put _ (some 20) _ = _
     simp only [Act.put, List.setIfInBounds_toArray, List.set_cons_zero, List.set_cons_succ, i64_w, i32_w]
     rfl
    refine pure_ (i := 11) (N := some 21) (v := ?_) (a' := ?_) #[true, true, true, true, true, true, true, true, true, true, true, true, false] rfl rfl (any_of HT_.out (by kernel_rfl)) (fun _ _ _ h => h) (Or.inl ⟨by rfl, ?_⟩) ?_ ?_
    rotate_left
    ·intro w'
     go_simp
     with_reducible rfl
    rotate_left
    ·simp only [Act.put, List.setIfInBounds_toArray, List.set_cons_zero, List.set_cons_succ, i64_w, i32_w]
     rfl
    refine last_ (i := 12) (N := none) #[true, true, true, true, true, true, true, true, true, true, true, true, true] rfl rfl (one_of HT_.out (by kernel_rfl)) (by decide) (fun K hK => ?_)
    refine skip_ (w1 := ?_) (by rfl) rfl ?_ ?_
    rotate_left
    ·go_simp
     rfl
    refine hK.out _ _ ?_
    clear hK K
    refine done_ (done_of HT_.out (by kernel_rfl)) ?_
    have n0_ : Aside0 (Kd.S (Kd.slice 3 (Kd.int .i64)) 28 (w22.setCell ⟨go21, (a1 : Int).toNat, none⟩ (.slice Ao25 y226.length co25)) w.heap.size (fun _ => True) (.slice (some ⟨go21, 0, none⟩) t221.length co15) y229) := ⟨sdl HQ23⟩
    have n1_ : Aside0 ((w22.setCell ⟨go21, (a1 : Int).toNat, none⟩ (.slice Ao25 y226.length co25)).heap[gb219]? = some (.cells #[.slice A0_0 l0_0.length c0_0] 31 (0, 0))) := ⟨by (with_reducible repeat (first | refine blk_drewN ?_ _ | refine blk_drew ?_ | refine blk_alloc ?_ _)); refine blk_far ?_ HNB219_go21.out _; (with_reducible repeat (first | refine blk_drewN ?_ _ | refine blk_drew ?_ | refine blk_alloc ?_ _)); exact BK219.out⟩
    have n2_ : Aside0 ((w22.setCell ⟨go21, (a1 : Int).toNat, none⟩ (.slice Ao25 y226.length co25)).heap[gb220]? = some (.cells #[.slice none 0 0] 31 (0, 0))) := ⟨by (with_reducible repeat (first | refine blk_drewN ?_ _ | refine blk_drew ?_ | refine blk_alloc ?_ _)); refine blk_far ?_ HNB220_go21.out _; (with_reducible repeat (first | refine blk_drewN ?_ _ | refine blk_drew ?_ | refine blk_alloc ?_ _)); exact BK220.out⟩
    have n3_ : Aside0 ((w22.setCell ⟨go21, (a1 : Int).toNat, none⟩ (.slice Ao25 y226.length co25)).heap[gb224]? = some (.cells #[.slice (some ⟨go21, 0, none⟩) t221.length co15] 31 (0, 0))) := ⟨by (with_reducible repeat (first | refine blk_drewN ?_ _ | refine blk_drew ?_ | refine blk_alloc ?_ _)); refine blk_far ?_ HNB224_go21.out _; (with_reducible repeat (first | refine blk_drewN ?_ _ | refine blk_drew ?_ | refine blk_alloc ?_ _)); exact BK224.out⟩
    have n4_ : Aside0 (Below w.heap.size w (w22.setCell ⟨go21, (a1 : Int).toNat, none⟩ (.slice Ao25 y226.length co25))) := ⟨by repeat (first | (with_reducible first | exact HB.out | apply below_alloc | apply pw_below_drewN | apply below_drew1 | refine below_set ?_ GB21.out | refine below_set ?_ GE219.out | refine below_set ?_ GE220.out | refine below_set ?_ GE224.out) | exact HB.out)⟩
    (try clear HO223)
    (try clear BK219)
    (try clear BK220)
    (try clear BK224)
    (try clear HB)
    generalize (w22.setCell ⟨go21, (a1 : Int).toNat, none⟩ (.slice Ao25 y226.length co25)) = w26 at n0_ n1_ n2_ n3_ n4_ ⊢
    have HO223 := n0_
    have BK219 := n1_
    have BK220 := n2_
    have BK224 := n3_
    have HB := n4_
    clear n0_ n1_ n2_ n3_ n4_
    have hcz27_0 : w26.cell? ⟨gb224, 0, none⟩ = some (.slice (some ⟨go21, 0, none⟩) t221.length co15) := (blk_cell BK224.out 0).trans rfl
    have hfz27_0 := blk_frozen BK224.out 0
    have hcz28_0 : w26.cell? ⟨gb220, 0, none⟩ = some (.slice none 0 0) := (blk_cell BK220.out 0).trans rfl
    have hfz28_0 := blk_frozen BK220.out 0
    try go_wp2
    refine bodyPost_ret (results_cell_row rfl _ _ gb220 31 #[.slice (some ⟨go21, 0, none⟩) t221.length co15] (0, 0) _ rfl (by (with_reducible repeat (first | refine blk_drewN ?_ _ | refine blk_drew ?_ | refine blk_alloc ?_ _)); refine blk_put (cs := #[.slice none 0 0]) ?_ 0 _ rfl; (with_reducible repeat (first | refine blk_drewN ?_ _ | refine blk_drew ?_ | refine blk_alloc ?_ _)); exact BK220.out) Try.underlying31 rfl (by kernel_rfl)) rfl ?_
    exact ⟨_, by first | rfl | (simp [errW_none, errW_some] <;> rfl) | (simp [*, errW_none, errW_some] <;> rfl), by (with_reducible repeat (first | apply Kd.S_alloc | apply Kd.S_drewN | apply Kd.S_drew)); exact Kd.S_mono (Kd.S_far (p := ⟨gb220, 0, none⟩) (Kd.S_types HO223.out BK220.out (by decide)) (fun _ hk => hk.2) (.slice (some ⟨go21, 0, none⟩) t221.length co15)) (fun _ hk => trivial), bel3 HB GE219 GE220 GE224⟩
   ·rw [if_neg c7] at H
    exact absurd H (by simp)
  ·rw [if_neg c6] at H
   exact absurd H (by simp)
 ·rw [if_neg c5] at H
  exact absurd H (by simp)

/-! ### spec_l7At: function 46 -/
def spec_l7At.l0 : Nat → List (S61) → Int → Int → Int → List (S59) → Int → List (List Int) → ByteArray → Int → Int → Int → Int → Option ((List (S59)))
 | 0, _, _, _, _, _, _, _, _, _, _, _, _ => none
 | k + 1, x1, x2, x3, x4, x11, x13, x231000, x238000, x238001, x238002, x238003, x238004 => if x13 ≤ 4 then (if x13 = 1 then (if x4 > 0 then (if 0 ≤ x3 then (if x3 < (x231000.length : Int) then (if 0 ≤ (wrap64 (x4 - 1)) then (if (wrap64 (x4 - 1)) < ((rd_L1 x231000 x3).length : Int) then (if 0 ≤ (wrap64 ((rd (rd_L1 x231000 x3) (wrap64 (x4 - 1))) - 1)) then (if (wrap64 ((rd (rd_L1 x231000 x3) (wrap64 (x4 - 1))) - 1)) < (x1.length : Int) then (if x238002 > ((rd_T61 x1 (wrap64 ((rd (rd_L1 x231000 x3) (wrap64 (x4 - 1))) - 1))).f2) then (if x11.length < 5864062014805 then (spec_l7At.l0 k x1 x2 x3 x4 (x11 ++ [(⟨x13, x3, x4⟩ : S59)]) (wrap64 (x13 + 1)) x231000 x238000 x238001 x238002 x238003 x238004) else (none)) else (spec_l7At.l0 k x1 x2 x3 x4 x11 (wrap64 (x13 + 1)) x231000 x238000 x238001 x238002 x238003 x238004)) else (none)) else (none)) else (none)) else (none)) else (none)) else (none)) else (spec_l7At.l0 k x1 x2 x3 x4 x11 (wrap64 (x13 + 1)) x231000 x238000 x238001 x238002 x238003 x238004)) else (if x13 = 2 then (if x4 > 0 then (if 0 ≤ x3 then (if x3 < (x231000.length : Int) then (if 0 ≤ (wrap64 (x4 - 1)) then (if (wrap64 (x4 - 1)) < ((rd_L1 x231000 x3).length : Int) then (if 0 ≤ (wrap64 ((rd (rd_L1 x231000 x3) (wrap64 (x4 - 1))) - 1)) then (if (wrap64 ((rd (rd_L1 x231000 x3) (wrap64 (x4 - 1))) - 1)) < (x1.length : Int) then (if x238001 = ((rd_T61 x1 (wrap64 ((rd (rd_L1 x231000 x3) (wrap64 (x4 - 1))) - 1))).f1) then (spec_l7At.l0 k x1 x2 x3 x4 x11 (wrap64 (x13 + 1)) x231000 x238000 x238001 x238002 x238003 x238004) else (if x11.length < 5864062014805 then (spec_l7At.l0 k x1 x2 x3 x4 (x11 ++ [(⟨x13, x3, x4⟩ : S59)]) (wrap64 (x13 + 1)) x231000 x238000 x238001 x238002 x238003 x238004) else (none))) else (none)) else (none)) else (none)) else (none)) else (none)) else (none)) else (spec_l7At.l0 k x1 x2 x3 x4 x11 (wrap64 (x13 + 1)) x231000 x238000 x238001 x238002 x238003 x238004)) else (if x13 = 3 then (if x4 > 0 then (if x238003 = 3 then (if x11.length < 5864062014805 then (spec_l7At.l0 k x1 x2 x3 x4 (x11 ++ [(⟨x13, x3, x4⟩ : S59)]) (wrap64 (x13 + 1)) x231000 x238000 x238001 x238002 x238003 x238004) else (none)) else (spec_l7At.l0 k x1 x2 x3 x4 x11 (wrap64 (x13 + 1)) x231000 x238000 x238001 x238002 x238003 x238004)) else (spec_l7At.l0 k x1 x2 x3 x4 x11 (wrap64 (x13 + 1)) x231000 x238000 x238001 x238002 x238003 x238004)) else (if x238003 = 2 then (if x3 ≥ x2 then (if x11.length < 5864062014805 then (spec_l7At.l0 k x1 x2 x3 x4 (x11 ++ [(⟨x13, x3, x4⟩ : S59)]) (wrap64 (x13 + 1)) x231000 x238000 x238001 x238002 x238003 x238004) else (none)) else (spec_l7At.l0 k x1 x2 x3 x4 x11 (wrap64 (x13 + 1)) x231000 x238000 x238001 x238002 x238003 x238004)) else (spec_l7At.l0 k x1 x2 x3 x4 x11 (wrap64 (x13 + 1)) x231000 x238000 x238001 x238002 x238003 x238004))))) else (some x11)
def spec_l7At.f (k : Nat) (l0_0 : List (List Int)) (l1 : List (S61)) (a2 : Int) (a3 : Int) (a4 : Int) : Option ((List (S59))) := if 0 ≤ a3 then (if a3 < (l0_0.length : Int) then (if 0 ≤ a4 then (if a4 < ((rd_L1 l0_0 a3).length : Int) then (if 0 ≤ (wrap64 ((rd (rd_L1 l0_0 a3) a4) - 1)) then (if (wrap64 ((rd (rd_L1 l0_0 a3) a4) - 1)) < (l1.length : Int) then (spec_l7At.l0 k l1 a2 a3 a4 (([] : List (S59))) 1 l0_0 ((rd_T61 l1 (wrap64 ((rd (rd_L1 l0_0 a3) a4) - 1))).f0) ((rd_T61 l1 (wrap64 ((rd (rd_L1 l0_0 a3) a4) - 1))).f1) ((rd_T61 l1 (wrap64 ((rd (rd_L1 l0_0 a3) a4) - 1))).f2) ((rd_T61 l1 (wrap64 ((rd (rd_L1 l0_0 a3) a4) - 1))).f3) ((rd_T61 l1 (wrap64 ((rd (rd_L1 l0_0 a3) a4) - 1))).f4)) else (none)) else (none)) else (none)) else (none)) else (none)) else (none)
theorem spec_l7At.mono_l : ∀ k, (∀ y0 y1 y2 y3 y4 y5 y6 y7 y8 y9 y10 y11, LeO (spec_l7At.l0 k y0 y1 y2 y3 y4 y5 y6 y7 y8 y9 y10 y11) (spec_l7At.l0 (k + 1) y0 y1 y2 y3 y4 y5 y6 y7 y8 y9 y10 y11))
 | 0 => fun _ _ _ _ _ _ _ _ _ _ _ _ r h => by simp [spec_l7At.l0] at h
 | k + 1 => by
  have ih0 := spec_l7At.mono_l k
  ·intro y0 y1 y2 y3 y4 y5 y6 y7 y8 y9 y10 y11
   unfold spec_l7At.l0
   repeat' first
   | (with_reducible exact ih0 _ _ _ _ _ _ _ _ _ _ _ _)
   | (with_reducible exact LeO.refl _)
   | (with_reducible exact LeO.none _)
   | (with_reducible refine LeO.ite ?_ ?_)
   | (with_reducible refine LeO.bind ?_ (fun _ => ?_))
   | exact ih0 _ _ _ _ _ _ _ _ _ _ _ _
   | exact LeO.none _
   | refine LeO.ite ?_ ?_
   | refine LeO.bind ?_ (fun _ => ?_)
theorem spec_l7At.mono : ∀ a0 a1 a2 a3 a4 k, LeO (spec_l7At.f k a0 a1 a2 a3 a4) (spec_l7At.f (k + 1) a0 a1 a2 a3 a4) := by
 intro a0 a1 a2 a3 a4 k
 have ih0 := spec_l7At.mono_l k
 unfold spec_l7At.f
 repeat' first
   | (with_reducible exact ih0 _ _ _ _ _ _ _ _ _ _ _ _)
   | (with_reducible exact LeO.refl _)
   | (with_reducible exact LeO.none _)
   | (with_reducible refine LeO.ite ?_ ?_)
   | (with_reducible refine LeO.bind ?_ (fun _ => ?_))
   | exact ih0 _ _ _ _ _ _ _ _ _ _ _ _
   | exact LeO.none _
   | refine LeO.ite ?_ ?_
   | refine LeO.bind ?_ (fun _ => ?_)
set_option maxHeartbeats 8000000 in
set_option maxRecDepth 100000 in
theorem spec_l7At.calls (k : Nat) (A0_0 : Option Addr) (c0_0 : Nat) (l0_0 : List (List Int)) (A1 : Option Addr) (c1 : Nat) (l1 : List (S61)) (a2 : Int) (a3 : Int) (a4 : Int) (r : List (S59)) (w : World) (hr0_0 : Kd.C (Kd.slice 3 (Kd.int .i64)) w A0_0 l0_0.length l0_0) (hc0_0 : l0_0.length ≤ c0_0) (hr1 : Kd.C k61 w A1 l1.length l1) (hc1 : l1.length ≤ c1) (h : spec_l7At.f k l0_0 l1 a2 a3 a4 = some r) :
  Calls Try.prog 46 #[.agg #[.slice A0_0 l0_0.length c0_0], .slice A1 l1.length c1, .int .i64 a2, .int .i64 a3, .int .i64 a4] w fun e w' => ∃ v0_ : Value, e = .returned (v0_) ∧ Kd.R k59 59 w' w.heap.size (fun _ => True) v0_ r ∧ Below w.heap.size w w' := by
 have hu31 := Try.underlying31
 have hu61 := Try.underlying61
 have hu59 := Try.underlying59
 have HR0_0 := Aside0.mk hr0_0
 have HC0_0 := Aside0.mk hc0_0
 clear hr0_0 hc0_0
 have HR1 := Aside0.mk hr1
 have HC1 := Aside0.mk hc1
 clear hr1 hc1
 have HB := Aside0.mk (Below.refl w.heap.size w)
 have H : (if 0 ≤ a3 then (if a3 < (l0_0.length : Int) then (if 0 ≤ a4 then (if a4 < ((rd_L1 l0_0 a3).length : Int) then (if 0 ≤ (wrap64 ((rd (rd_L1 l0_0 a3) a4) - 1)) then (if (wrap64 ((rd (rd_L1 l0_0 a3) a4) - 1)) < (l1.length : Int) then (spec_l7At.l0 k l1 a2 a3 a4 (([] : List (S59))) 1 l0_0 ((rd_T61 l1 (wrap64 ((rd (rd_L1 l0_0 a3) a4) - 1))).f0) ((rd_T61 l1 (wrap64 ((rd (rd_L1 l0_0 a3) a4) - 1))).f1) ((rd_T61 l1 (wrap64 ((rd (rd_L1 l0_0 a3) a4) - 1))).f2) ((rd_T61 l1 (wrap64 ((rd (rd_L1 l0_0 a3) a4) - 1))).f3) ((rd_T61 l1 (wrap64 ((rd (rd_L1 l0_0 a3) a4) - 1))).f4)) else (none)) else (none)) else (none)) else (none)) else (none)) else (none)) = some r := h
 clear h
 obtain ⟨y231, hy231⟩ : ∃ y_ : List (S59), y_ = (([] : List (S59))) := ⟨_, rfl⟩
 replace H : (if 0 ≤ a3 then (if a3 < (l0_0.length : Int) then (if 0 ≤ a4 then (if a4 < ((rd_L1 l0_0 a3).length : Int) then (if 0 ≤ (wrap64 ((rd (rd_L1 l0_0 a3) a4) - 1)) then (if (wrap64 ((rd (rd_L1 l0_0 a3) a4) - 1)) < (l1.length : Int) then (spec_l7At.l0 k l1 a2 a3 a4 y231 1 l0_0 ((rd_T61 l1 (wrap64 ((rd (rd_L1 l0_0 a3) a4) - 1))).f0) ((rd_T61 l1 (wrap64 ((rd (rd_L1 l0_0 a3) a4) - 1))).f1) ((rd_T61 l1 (wrap64 ((rd (rd_L1 l0_0 a3) a4) - 1))).f2) ((rd_T61 l1 (wrap64 ((rd (rd_L1 l0_0 a3) a4) - 1))).f3) ((rd_T61 l1 (wrap64 ((rd (rd_L1 l0_0 a3) a4) - 1))).f4)) else (none)) else (none)) else (none)) else (none)) else (none)) else (none)) = some r := by first | (rw [hy231]; with_reducible exact H) | (have H2_ := (Option.bind_some _ _).symm.trans H; rw [hy231]; with_reducible exact H2_) | (have H2_ := (Option.bind_some _ _).symm.trans H; with_reducible exact H2_) | with_reducible exact H | (rw [hy231]; exact H) | exact H
 have Ny231 := Aside0.mk hy231
 clear hy231
 by_cases c6 : 0 ≤ a3
 ·rw [if_pos c6] at H
  have c6b0 : decide (0 ≤ a3) = true := decide_eq_true c6
  clear c6
  by_cases c7 : a3 < (l0_0.length : Int)
  ·rw [if_pos c7] at H
   have c7b0 : decide (a3 < (l0_0.length : Int)) = true := decide_eq_true c7
   clear c7
   by_cases c8 : 0 ≤ a4
   ·rw [if_pos c8] at H
    have c8b0 : decide (0 ≤ a4) = true := decide_eq_true c8
    clear c8
    by_cases c9 : a4 < ((rd_L1 l0_0 a3).length : Int)
    ·rw [if_pos c9] at H
     have c9b0 : decide (a4 < ((rd_L1 l0_0 a3).length : Int)) = true := decide_eq_true c9
     clear c9
     obtain ⟨ji10, hji10⟩ : ∃ j_ : Int, (wrap64 ((rd (rd_L1 l0_0 a3) a4) - 1)) = j_ := ⟨_, rfl⟩
     replace H : (if 0 ≤ (ji10) then (if (ji10) < (l1.length : Int) then (spec_l7At.l0 k l1 a2 a3 a4 y231 1 l0_0 ((rd_T61 l1 (ji10)).f0) ((rd_T61 l1 (ji10)).f1) ((rd_T61 l1 (ji10)).f2) ((rd_T61 l1 (ji10)).f3) ((rd_T61 l1 (ji10)).f4)) else (none)) else (none)) = some r := by first | (rw [hji10] at H; exact H) | (simp only [hji10] at H ⊢; exact H)
     have hji10w : (IntKind.i64.wrap ((rd (rd_L1 l0_0 a3) a4) - 1)) = ji10 := (i64_w _).trans hji10
     by_cases c11 : 0 ≤ (ji10)
     ·rw [if_pos c11] at H
      have c11b0 : decide (0 ≤ (ji10)) = true := decide_eq_true c11
      clear c11
      by_cases c12 : (ji10) < (l1.length : Int)
      ·rw [if_pos c12] at H
       have c12b0 : decide ((ji10) < (l1.length : Int)) = true := decide_eq_true c12
       clear c12
       have H' := Aside0.mk H
       clear H
       go_enter Try.func46, Try.ntmps46
       go_wp2_with (first | ((with_reducible refine gate_dst (N := 5) rfl ?_); refine box_event ?hg (N := 5) ?hd (cs := #[.slice A0_0 l0_0.length c0_0]) (t := 31) ?hr ?_; (case hd => rfl); (case hg => rfl); (case hr => first | (go_simp; done) | (go_simp; rfl)); intro gb230 hg w13 hbox hb; have n0_ := Aside0.mk (below_step (bel HB) hb); have n1_ := Aside0.mk (hbox); have n2_ := Aside0.mk ((by rw [hg]; exact (below_size (bel HB)) : w.heap.size ≤ gb230)); have n3_ := Aside0.mk ((by rw [hg]; exact (below_size (bel HB)) : w.heap.size ≤ gb230)); clear HB; have HB := n0_; have BK230 := n1_; have GW230 := n2_; have GE230 := n3_; clear n0_ n1_ n2_ n3_; clear hb hbox hg) | ((with_reducible refine gate_dst (N := 15) rfl ?_); refine Kd.R_lit k59 _ 59 ?hg (N := 15) ?hd (xs := ([] : List (S59))) (inner := []) (ok := fun _ => True) (okp := fun _ => True) ?hr ?hp (fun _ hk => hk) trivial (Below.refl _ _) (Nat.le_refl _) (by simp) ?_; (case hd => rfl); (case hg => rfl); (case hr => first | (go_simp; done) | (go_simp; rfl)); (case hp => exact (Reps.none _ _)); intro v232 w14 ho15 hb hg_ hnew_; clear hg_ hnew_; (first | rw [← Ny231.out] at ho15 | (simp only [Int.reduceToNat] at ho15; rw [← Ny231.out] at ho15)); have n0_ := Aside0.mk (Kd.R_lower ho15 (below_size (bel1 HB GE230))); have n1_ := Aside0.mk (blk_below (g := gb230) (o := .cells #[.slice A0_0 l0_0.length c0_0] 31 (0, 0)) (bkl BK230) hb); have n2_ := Aside0.mk (below_step (bel1 HB GE230) hb); clear BK230; clear HB; have HO233 := n0_; have BK230 := n1_; have HB := n2_; clear n0_ n1_ n2_; clear hb ho15; have hcz16_0 : w14.cell? ⟨gb230, 0, none⟩ = some (.slice A0_0 l0_0.length c0_0) := (blk_cell BK230.out 0).trans rfl; have hfz16_0 := blk_frozen BK230.out 0; have p234 : 0 ≤ (a3 : Int) := oda; have q234 : a3 < (l0_0.length : Int) := oda; obtain ⟨ad234, A234_0, c234_0, e234, hx234_0, hl234_0, hi234_0⟩ := at_L1 HR0_0.out a3 p234 q234; cases e234; replace hx234_0 := cel HB hx234_0; have HR234_0 := Aside0.mk hi234_0; have HC234_0 := Aside0.mk hl234_0; clear hi234_0 hl234_0; replace p234 := eq_true p234; replace q234 := eq_true q234; have p235 : 0 ≤ (a4 : Int) := oda; have q235 : a4 < ((rd_L1 l0_0 a3).length : Int) := oda; obtain ⟨ad235, e235, hx235_0⟩ := Kd.at_int HR234_0.out a4 p235 q235; cases e235; replace hx235_0 := cel HB hx235_0; replace p235 := eq_true p235; replace q235 := eq_true q235; have p236 : 0 ≤ ((ji10) : Int) := oda; have q236 : (ji10) < (l1.length : Int) := oda; obtain ⟨ad236, e236, hx236_0, hx236_1, hx236_2, hx236_3, hx236_4⟩ := at_T61 HR1.out (ji10) p236 q236; cases e236; replace hx236_0 := cel HB hx236_0; replace hx236_1 := cel HB hx236_1; replace hx236_2 := cel HB hx236_2; replace hx236_3 := cel HB hx236_3; replace hx236_4 := cel HB hx236_4; replace p236 := eq_true p236; replace q236 := eq_true q236) | ((with_reducible refine gate_dst (N := 12) rfl ?_); refine box_event ?hg (N := 12) ?hd (cs := #[.string (⟨#[]⟩ : ByteArray), .int .i64 0, .int .i64 0, .int .i64 0, .int .i64 0]) (t := 61) ?hr ?_; (case hd => rfl); (case hg => rfl); (case hr => first | (go_simp; done) | (go_simp; rfl)); intro gb237 hg w17 hbox hb; have n0_ := Aside0.mk (Kd.R_below (rdl HO233) hb); have n1_ := Aside0.mk (blk_below (g := gb230) (o := .cells #[.slice (some ad234) l0_0.length c0_0] 31 (0, 0)) (bkl BK230) hb); have n2_ := Aside0.mk (below_step (bel1 HB GE230) hb); have n3_ := Aside0.mk (hbox); have n4_ := Aside0.mk ((by rw [hg]; exact (below_size (bel1 HB GE230)) : w.heap.size ≤ gb237)); have n5_ := Aside0.mk ((by rw [hg]; exact (below_size (bel1 HB GE230)) : w.heap.size ≤ gb237)); have n6_ := Aside0.mk ((by rw [hg]; exact Nat.ne_of_lt (blk_lt (g := gb230) (o := .cells #[.slice (some ad234) l0_0.length c0_0] 31 (0, 0)) (bkl BK230)) : gb230 ≠ gb237)); have n7_ := Aside0.mk ((by rw [hg]; exact Nat.ne_of_gt (blk_lt (g := gb230) (o := .cells #[.slice (some ad234) l0_0.length c0_0] 31 (0, 0)) (bkl BK230)) : gb237 ≠ gb230)); clear HO233; clear BK230; clear HB; have HO233 := n0_; have BK230 := n1_; have HB := n2_; have BK237 := n3_; have GW237 := n4_; have GE237 := n5_; have NB230_237 := n6_; have NB237_230 := n7_; clear n0_ n1_ n2_ n3_ n4_ n5_ n6_ n7_; clear hb hbox hg; have hnb18 := NB237_230.out; have hnc18 := NB230_237.out; have hcz19_0 : w17.cell? ⟨gb237, 0, none⟩ = some (.string (⟨#[]⟩ : ByteArray)) := (blk_cell BK237.out 0).trans rfl; have hcz19_1 : w17.cell? ⟨gb237, 1, none⟩ = some (.int .i64 0) := (blk_cell BK237.out 1).trans rfl; have hcz19_2 : w17.cell? ⟨gb237, 2, none⟩ = some (.int .i64 0) := (blk_cell BK237.out 2).trans rfl; have hcz19_3 : w17.cell? ⟨gb237, 3, none⟩ = some (.int .i64 0) := (blk_cell BK237.out 3).trans rfl; have hcz19_4 : w17.cell? ⟨gb237, 4, none⟩ = some (.int .i64 0) := (blk_cell BK237.out 4).trans rfl; have hfz19_0 := blk_frozen BK237.out 0; have hfz19_1 := blk_frozen BK237.out 1; have hfz19_2 := blk_frozen BK237.out 2; have hfz19_3 := blk_frozen BK237.out 3; have hfz19_4 := blk_frozen BK237.out 4))
       repeat (go_quiet (first | ((with_reducible refine gate_dst (N := 5) rfl ?_); refine box_event ?hg (N := 5) ?hd (cs := #[.slice A0_0 l0_0.length c0_0]) (t := 31) ?hr ?_; (case hd => rfl); (case hg => rfl); (case hr => first | (go_simp; done) | (go_simp; rfl)); intro gb230 hg w13 hbox hb; have n0_ := Aside0.mk (below_step (bel HB) hb); have n1_ := Aside0.mk (hbox); have n2_ := Aside0.mk ((by rw [hg]; exact (below_size (bel HB)) : w.heap.size ≤ gb230)); have n3_ := Aside0.mk ((by rw [hg]; exact (below_size (bel HB)) : w.heap.size ≤ gb230)); clear HB; have HB := n0_; have BK230 := n1_; have GW230 := n2_; have GE230 := n3_; clear n0_ n1_ n2_ n3_; clear hb hbox hg) | ((with_reducible refine gate_dst (N := 15) rfl ?_); refine Kd.R_lit k59 _ 59 ?hg (N := 15) ?hd (xs := ([] : List (S59))) (inner := []) (ok := fun _ => True) (okp := fun _ => True) ?hr ?hp (fun _ hk => hk) trivial (Below.refl _ _) (Nat.le_refl _) (by simp) ?_; (case hd => rfl); (case hg => rfl); (case hr => first | (go_simp; done) | (go_simp; rfl)); (case hp => exact (Reps.none _ _)); intro v232 w14 ho15 hb hg_ hnew_; clear hg_ hnew_; (first | rw [← Ny231.out] at ho15 | (simp only [Int.reduceToNat] at ho15; rw [← Ny231.out] at ho15)); have n0_ := Aside0.mk (Kd.R_lower ho15 (below_size (bel1 HB GE230))); have n1_ := Aside0.mk (blk_below (g := gb230) (o := .cells #[.slice A0_0 l0_0.length c0_0] 31 (0, 0)) (bkl BK230) hb); have n2_ := Aside0.mk (below_step (bel1 HB GE230) hb); clear BK230; clear HB; have HO233 := n0_; have BK230 := n1_; have HB := n2_; clear n0_ n1_ n2_; clear hb ho15; have hcz16_0 : w14.cell? ⟨gb230, 0, none⟩ = some (.slice A0_0 l0_0.length c0_0) := (blk_cell BK230.out 0).trans rfl; have hfz16_0 := blk_frozen BK230.out 0; have p234 : 0 ≤ (a3 : Int) := oda; have q234 : a3 < (l0_0.length : Int) := oda; obtain ⟨ad234, A234_0, c234_0, e234, hx234_0, hl234_0, hi234_0⟩ := at_L1 HR0_0.out a3 p234 q234; cases e234; replace hx234_0 := cel HB hx234_0; have HR234_0 := Aside0.mk hi234_0; have HC234_0 := Aside0.mk hl234_0; clear hi234_0 hl234_0; replace p234 := eq_true p234; replace q234 := eq_true q234; have p235 : 0 ≤ (a4 : Int) := oda; have q235 : a4 < ((rd_L1 l0_0 a3).length : Int) := oda; obtain ⟨ad235, e235, hx235_0⟩ := Kd.at_int HR234_0.out a4 p235 q235; cases e235; replace hx235_0 := cel HB hx235_0; replace p235 := eq_true p235; replace q235 := eq_true q235; have p236 : 0 ≤ ((ji10) : Int) := oda; have q236 : (ji10) < (l1.length : Int) := oda; obtain ⟨ad236, e236, hx236_0, hx236_1, hx236_2, hx236_3, hx236_4⟩ := at_T61 HR1.out (ji10) p236 q236; cases e236; replace hx236_0 := cel HB hx236_0; replace hx236_1 := cel HB hx236_1; replace hx236_2 := cel HB hx236_2; replace hx236_3 := cel HB hx236_3; replace hx236_4 := cel HB hx236_4; replace p236 := eq_true p236; replace q236 := eq_true q236) | ((with_reducible refine gate_dst (N := 12) rfl ?_); refine box_event ?hg (N := 12) ?hd (cs := #[.string (⟨#[]⟩ : ByteArray), .int .i64 0, .int .i64 0, .int .i64 0, .int .i64 0]) (t := 61) ?hr ?_; (case hd => rfl); (case hg => rfl); (case hr => first | (go_simp; done) | (go_simp; rfl)); intro gb237 hg w17 hbox hb; have n0_ := Aside0.mk (Kd.R_below (rdl HO233) hb); have n1_ := Aside0.mk (blk_below (g := gb230) (o := .cells #[.slice (some ad234) l0_0.length c0_0] 31 (0, 0)) (bkl BK230) hb); have n2_ := Aside0.mk (below_step (bel1 HB GE230) hb); have n3_ := Aside0.mk (hbox); have n4_ := Aside0.mk ((by rw [hg]; exact (below_size (bel1 HB GE230)) : w.heap.size ≤ gb237)); have n5_ := Aside0.mk ((by rw [hg]; exact (below_size (bel1 HB GE230)) : w.heap.size ≤ gb237)); have n6_ := Aside0.mk ((by rw [hg]; exact Nat.ne_of_lt (blk_lt (g := gb230) (o := .cells #[.slice (some ad234) l0_0.length c0_0] 31 (0, 0)) (bkl BK230)) : gb230 ≠ gb237)); have n7_ := Aside0.mk ((by rw [hg]; exact Nat.ne_of_gt (blk_lt (g := gb230) (o := .cells #[.slice (some ad234) l0_0.length c0_0] 31 (0, 0)) (bkl BK230)) : gb237 ≠ gb230)); clear HO233; clear BK230; clear HB; have HO233 := n0_; have BK230 := n1_; have HB := n2_; have BK237 := n3_; have GW237 := n4_; have GE237 := n5_; have NB230_237 := n6_; have NB237_230 := n7_; clear n0_ n1_ n2_ n3_ n4_ n5_ n6_ n7_; clear hb hbox hg; have hnb18 := NB237_230.out; have hnc18 := NB230_237.out; have hcz19_0 : w17.cell? ⟨gb237, 0, none⟩ = some (.string (⟨#[]⟩ : ByteArray)) := (blk_cell BK237.out 0).trans rfl; have hcz19_1 : w17.cell? ⟨gb237, 1, none⟩ = some (.int .i64 0) := (blk_cell BK237.out 1).trans rfl; have hcz19_2 : w17.cell? ⟨gb237, 2, none⟩ = some (.int .i64 0) := (blk_cell BK237.out 2).trans rfl; have hcz19_3 : w17.cell? ⟨gb237, 3, none⟩ = some (.int .i64 0) := (blk_cell BK237.out 3).trans rfl; have hcz19_4 : w17.cell? ⟨gb237, 4, none⟩ = some (.int .i64 0) := (blk_cell BK237.out 4).trans rfl; have hfz19_0 := blk_frozen BK237.out 0; have hfz19_1 := blk_frozen BK237.out 1; have hfz19_2 := blk_frozen BK237.out 2; have hfz19_3 := blk_frozen BK237.out 3; have hfz19_4 := blk_frozen BK237.out 4)); try go_wp2_with (first | ((with_reducible refine gate_dst (N := 5) rfl ?_); refine box_event ?hg (N := 5) ?hd (cs := #[.slice A0_0 l0_0.length c0_0]) (t := 31) ?hr ?_; (case hd => rfl); (case hg => rfl); (case hr => first | (go_simp; done) | (go_simp; rfl)); intro gb230 hg w13 hbox hb; have n0_ := Aside0.mk (below_step (bel HB) hb); have n1_ := Aside0.mk (hbox); have n2_ := Aside0.mk ((by rw [hg]; exact (below_size (bel HB)) : w.heap.size ≤ gb230)); have n3_ := Aside0.mk ((by rw [hg]; exact (below_size (bel HB)) : w.heap.size ≤ gb230)); clear HB; have HB := n0_; have BK230 := n1_; have GW230 := n2_; have GE230 := n3_; clear n0_ n1_ n2_ n3_; clear hb hbox hg) | ((with_reducible refine gate_dst (N := 15) rfl ?_); refine Kd.R_lit k59 _ 59 ?hg (N := 15) ?hd (xs := ([] : List (S59))) (inner := []) (ok := fun _ => True) (okp := fun _ => True) ?hr ?hp (fun _ hk => hk) trivial (Below.refl _ _) (Nat.le_refl _) (by simp) ?_; (case hd => rfl); (case hg => rfl); (case hr => first | (go_simp; done) | (go_simp; rfl)); (case hp => exact (Reps.none _ _)); intro v232 w14 ho15 hb hg_ hnew_; clear hg_ hnew_; (first | rw [← Ny231.out] at ho15 | (simp only [Int.reduceToNat] at ho15; rw [← Ny231.out] at ho15)); have n0_ := Aside0.mk (Kd.R_lower ho15 (below_size (bel1 HB GE230))); have n1_ := Aside0.mk (blk_below (g := gb230) (o := .cells #[.slice A0_0 l0_0.length c0_0] 31 (0, 0)) (bkl BK230) hb); have n2_ := Aside0.mk (below_step (bel1 HB GE230) hb); clear BK230; clear HB; have HO233 := n0_; have BK230 := n1_; have HB := n2_; clear n0_ n1_ n2_; clear hb ho15; have hcz16_0 : w14.cell? ⟨gb230, 0, none⟩ = some (.slice A0_0 l0_0.length c0_0) := (blk_cell BK230.out 0).trans rfl; have hfz16_0 := blk_frozen BK230.out 0; have p234 : 0 ≤ (a3 : Int) := oda; have q234 : a3 < (l0_0.length : Int) := oda; obtain ⟨ad234, A234_0, c234_0, e234, hx234_0, hl234_0, hi234_0⟩ := at_L1 HR0_0.out a3 p234 q234; cases e234; replace hx234_0 := cel HB hx234_0; have HR234_0 := Aside0.mk hi234_0; have HC234_0 := Aside0.mk hl234_0; clear hi234_0 hl234_0; replace p234 := eq_true p234; replace q234 := eq_true q234; have p235 : 0 ≤ (a4 : Int) := oda; have q235 : a4 < ((rd_L1 l0_0 a3).length : Int) := oda; obtain ⟨ad235, e235, hx235_0⟩ := Kd.at_int HR234_0.out a4 p235 q235; cases e235; replace hx235_0 := cel HB hx235_0; replace p235 := eq_true p235; replace q235 := eq_true q235; have p236 : 0 ≤ ((ji10) : Int) := oda; have q236 : (ji10) < (l1.length : Int) := oda; obtain ⟨ad236, e236, hx236_0, hx236_1, hx236_2, hx236_3, hx236_4⟩ := at_T61 HR1.out (ji10) p236 q236; cases e236; replace hx236_0 := cel HB hx236_0; replace hx236_1 := cel HB hx236_1; replace hx236_2 := cel HB hx236_2; replace hx236_3 := cel HB hx236_3; replace hx236_4 := cel HB hx236_4; replace p236 := eq_true p236; replace q236 := eq_true q236) | ((with_reducible refine gate_dst (N := 12) rfl ?_); refine box_event ?hg (N := 12) ?hd (cs := #[.string (⟨#[]⟩ : ByteArray), .int .i64 0, .int .i64 0, .int .i64 0, .int .i64 0]) (t := 61) ?hr ?_; (case hd => rfl); (case hg => rfl); (case hr => first | (go_simp; done) | (go_simp; rfl)); intro gb237 hg w17 hbox hb; have n0_ := Aside0.mk (Kd.R_below (rdl HO233) hb); have n1_ := Aside0.mk (blk_below (g := gb230) (o := .cells #[.slice (some ad234) l0_0.length c0_0] 31 (0, 0)) (bkl BK230) hb); have n2_ := Aside0.mk (below_step (bel1 HB GE230) hb); have n3_ := Aside0.mk (hbox); have n4_ := Aside0.mk ((by rw [hg]; exact (below_size (bel1 HB GE230)) : w.heap.size ≤ gb237)); have n5_ := Aside0.mk ((by rw [hg]; exact (below_size (bel1 HB GE230)) : w.heap.size ≤ gb237)); have n6_ := Aside0.mk ((by rw [hg]; exact Nat.ne_of_lt (blk_lt (g := gb230) (o := .cells #[.slice (some ad234) l0_0.length c0_0] 31 (0, 0)) (bkl BK230)) : gb230 ≠ gb237)); have n7_ := Aside0.mk ((by rw [hg]; exact Nat.ne_of_gt (blk_lt (g := gb230) (o := .cells #[.slice (some ad234) l0_0.length c0_0] 31 (0, 0)) (bkl BK230)) : gb237 ≠ gb230)); clear HO233; clear BK230; clear HB; have HO233 := n0_; have BK230 := n1_; have HB := n2_; have BK237 := n3_; have GW237 := n4_; have GE237 := n5_; have NB230_237 := n6_; have NB237_230 := n7_; clear n0_ n1_ n2_ n3_ n4_ n5_ n6_ n7_; clear hb hbox hg; have hnb18 := NB237_230.out; have hnc18 := NB230_237.out; have hcz19_0 : w17.cell? ⟨gb237, 0, none⟩ = some (.string (⟨#[]⟩ : ByteArray)) := (blk_cell BK237.out 0).trans rfl; have hcz19_1 : w17.cell? ⟨gb237, 1, none⟩ = some (.int .i64 0) := (blk_cell BK237.out 1).trans rfl; have hcz19_2 : w17.cell? ⟨gb237, 2, none⟩ = some (.int .i64 0) := (blk_cell BK237.out 2).trans rfl; have hcz19_3 : w17.cell? ⟨gb237, 3, none⟩ = some (.int .i64 0) := (blk_cell BK237.out 3).trans rfl; have hcz19_4 : w17.cell? ⟨gb237, 4, none⟩ = some (.int .i64 0) := (blk_cell BK237.out 4).trans rfl; have hfz19_0 := blk_frozen BK237.out 0; have hfz19_1 := blk_frozen BK237.out 1; have hfz19_2 := blk_frozen BK237.out 2; have hfz19_3 := blk_frozen BK237.out 3; have hfz19_4 := blk_frozen BK237.out 4)))
       go_loopg [11, 13] k (fun kq v11 v13 w' => ∃ (x11_1 : List (S59)) (x13_1 : Int), v13 = .int .i64 x13_1 ∧ Aside0 (spec_l7At.l0 kq l1 a2 a3 a4 x11_1 x13_1 l0_0 ((rd_T61 l1 (ji10)).f0) ((rd_T61 l1 (ji10)).f1) ((rd_T61 l1 (ji10)).f2) ((rd_T61 l1 (ji10)).f3) ((rd_T61 l1 (ji10)).f4) = some r) ∧ Aside0 (kq ≤ k) ∧ Aside0 (Kd.R k59 59 w' w.heap.size (fun _ => True) v11 x11_1) ∧ Aside0 (w'.heap[gb230]? = some (.cells #[(.slice (some ad234) l0_0.length c0_0)] 31 (0, 0))) ∧ Aside0 (w'.heap[gb237]? = some (.cells #[.string ((rd_T61 l1 (ji10)).f0), .int .i64 ((rd_T61 l1 (ji10)).f1), .int .i64 ((rd_T61 l1 (ji10)).f2), .int .i64 ((rd_T61 l1 (ji10)).f3), .int .i64 ((rd_T61 l1 (ji10)).f4)] 61 (0, 0))) ∧ Aside0 (Below w.heap.size w w'))
       case atStart => exact ⟨(y231), (1), (by first | rfl | (simp; done) | (simp [*]; done)), H', ⟨Nat.le_refl _⟩, ⟨by (with_reducible repeat (first | apply Kd.R_alloc | apply Kd.R_drewN | apply Kd.R_drew)); exact Kd.R_mono (Kd.R_far (p := ⟨gb237, 4, none⟩) (Kd.R_far (p := ⟨gb237, 3, none⟩) (Kd.R_far (p := ⟨gb237, 2, none⟩) (Kd.R_far (p := ⟨gb237, 1, none⟩) (Kd.R_far (p := ⟨gb237, 0, none⟩) (Kd.R_types HO233.out BK237.out (by decide)) (fun _ hk => hk.2) (.string ((rd_T61 l1 (ji10)).f0))) (fun _ hk => hk.2) (.int .i64 ((rd_T61 l1 (ji10)).f1))) (fun _ hk => hk.2) (.int .i64 ((rd_T61 l1 (ji10)).f2))) (fun _ hk => hk.2) (.int .i64 ((rd_T61 l1 (ji10)).f3))) (fun _ hk => hk.2) (.int .i64 ((rd_T61 l1 (ji10)).f4))) (fun _ hk => trivial)⟩, ⟨by (with_reducible repeat (first | refine blk_drewN ?_ _ | refine blk_drew ?_ | refine blk_alloc ?_ _)); refine blk_far ?_ NB230_237.out _; (with_reducible repeat (first | refine blk_drewN ?_ _ | refine blk_drew ?_ | refine blk_alloc ?_ _)); refine blk_far ?_ NB230_237.out _; (with_reducible repeat (first | refine blk_drewN ?_ _ | refine blk_drew ?_ | refine blk_alloc ?_ _)); refine blk_far ?_ NB230_237.out _; (with_reducible repeat (first | refine blk_drewN ?_ _ | refine blk_drew ?_ | refine blk_alloc ?_ _)); refine blk_far ?_ NB230_237.out _; (with_reducible repeat (first | refine blk_drewN ?_ _ | refine blk_drew ?_ | refine blk_alloc ?_ _)); refine blk_far ?_ NB230_237.out _; (with_reducible repeat (first | refine blk_drewN ?_ _ | refine blk_drew ?_ | refine blk_alloc ?_ _)); exact BK230.out⟩, ⟨by (with_reducible repeat (first | refine blk_drewN ?_ _ | refine blk_drew ?_ | refine blk_alloc ?_ _)); refine blk_put (cs := #[.string ((rd_T61 l1 (ji10)).f0), .int .i64 ((rd_T61 l1 (ji10)).f1), .int .i64 ((rd_T61 l1 (ji10)).f2), .int .i64 ((rd_T61 l1 (ji10)).f3), .int .i64 0]) ?_ 4 _ rfl; (with_reducible repeat (first | refine blk_drewN ?_ _ | refine blk_drew ?_ | refine blk_alloc ?_ _)); refine blk_put (cs := #[.string ((rd_T61 l1 (ji10)).f0), .int .i64 ((rd_T61 l1 (ji10)).f1), .int .i64 ((rd_T61 l1 (ji10)).f2), .int .i64 0, .int .i64 0]) ?_ 3 _ rfl; (with_reducible repeat (first | refine blk_drewN ?_ _ | refine blk_drew ?_ | refine blk_alloc ?_ _)); refine blk_put (cs := #[.string ((rd_T61 l1 (ji10)).f0), .int .i64 ((rd_T61 l1 (ji10)).f1), .int .i64 0, .int .i64 0, .int .i64 0]) ?_ 2 _ rfl; (with_reducible repeat (first | refine blk_drewN ?_ _ | refine blk_drew ?_ | refine blk_alloc ?_ _)); refine blk_put (cs := #[.string ((rd_T61 l1 (ji10)).f0), .int .i64 0, .int .i64 0, .int .i64 0, .int .i64 0]) ?_ 1 _ rfl; (with_reducible repeat (first | refine blk_drewN ?_ _ | refine blk_drew ?_ | refine blk_alloc ?_ _)); refine blk_put (cs := #[.string (⟨#[]⟩ : ByteArray), .int .i64 0, .int .i64 0, .int .i64 0, .int .i64 0]) ?_ 0 _ rfl; (with_reducible repeat (first | refine blk_drewN ?_ _ | refine blk_drew ?_ | refine blk_alloc ?_ _)); exact BK237.out⟩, ⟨bel2 HB GE230 GE237⟩⟩
       case round =>
        clear H'
        try clear c1
        try clear c2
        try clear p2
        try clear q2
        try clear hx2
        try clear c4
        try clear c6
        try clear c6b0
        try clear p6
        try clear c7
        try clear c7b0
        try clear c8
        try clear c8b0
        try clear c9
        try clear c9b0
        try clear c11
        try clear c11b0
        try clear c12
        try clear c12b0
        try clear c18
        try clear hcz16_0
        try clear hcz19_0
        try clear hcz19_1
        try clear hcz19_2
        try clear hcz19_3
        try clear hcz19_4
        try clear hfz16_0
        try clear hfz19_0
        try clear hfz19_1
        try clear hfz19_2
        try clear hfz19_3
        try clear hfz19_4
        try clear hx234_0
        try clear hx235_0
        try clear hx236_0
        try clear hx236_1
        try clear hx236_2
        try clear hx236_3
        try clear hx236_4
        try clear p234
        try clear p235
        try clear p236
        try clear q234
        try clear q235
        try clear q236
        obtain ⟨x11_1, x13_1, rfl, HA, HK1, HO_11, BK230, BK237, HB⟩ := hrel
        cases gk with
        | zero => exact absurd HA.out (by simp [spec_l7At.l0])
        | succ k1 =>
         have H := HA.out
         clear HA
         simp only [spec_l7At.l0] at H
         by_cases c20 : x13_1 ≤ 4
         ·rw [if_pos c20] at H
          have c20b0 : decide (x13_1 ≤ 4) = true := decide_eq_true c20
          clear c20
          by_cases c21 : x13_1 = 1
          ·rw [if_pos c21] at H
           have c21b0 : (x13_1 == 1) = true := beq_iff_eq.mpr c21
           have c21b1 : (x13_1 != 1) = false := bne_eq_false_iff_eq.mpr c21
           clear c21
           by_cases c22 : a4 > 0
           ·rw [if_pos c22] at H
            have c22b0 : decide (0 < a4) = true := decide_eq_true c22
            clear c22
            by_cases c23 : 0 ≤ a3
            ·rw [if_pos c23] at H
             have c23b0 : decide (0 ≤ a3) = true := decide_eq_true c23
             clear c23
             by_cases c24 : a3 < (l0_0.length : Int)
             ·rw [if_pos c24] at H
              have c24b0 : decide (a3 < (l0_0.length : Int)) = true := decide_eq_true c24
              clear c24
              obtain ⟨ji25, hji25⟩ : ∃ j_ : Int, (wrap64 (a4 - 1)) = j_ := ⟨_, rfl⟩
              replace H : (if 0 ≤ (ji25) then (if (ji25) < ((rd_L1 l0_0 a3).length : Int) then (if 0 ≤ (wrap64 ((rd (rd_L1 l0_0 a3) (ji25)) - 1)) then (if (wrap64 ((rd (rd_L1 l0_0 a3) (ji25)) - 1)) < (l1.length : Int) then (if ((rd_T61 l1 (ji10)).f2) > ((rd_T61 l1 (wrap64 ((rd (rd_L1 l0_0 a3) (ji25)) - 1))).f2) then (if x11_1.length < 5864062014805 then (spec_l7At.l0 k1 l1 a2 a3 a4 (x11_1 ++ [(⟨x13_1, a3, a4⟩ : S59)]) (wrap64 (x13_1 + 1)) l0_0 ((rd_T61 l1 (ji10)).f0) ((rd_T61 l1 (ji10)).f1) ((rd_T61 l1 (ji10)).f2) ((rd_T61 l1 (ji10)).f3) ((rd_T61 l1 (ji10)).f4)) else (none)) else (spec_l7At.l0 k1 l1 a2 a3 a4 x11_1 (wrap64 (x13_1 + 1)) l0_0 ((rd_T61 l1 (ji10)).f0) ((rd_T61 l1 (ji10)).f1) ((rd_T61 l1 (ji10)).f2) ((rd_T61 l1 (ji10)).f3) ((rd_T61 l1 (ji10)).f4))) else (none)) else (none)) else (none)) else (none)) = some r := by first | (rw [hji25] at H; exact H) | (simp only [hji25] at H ⊢; exact H)
              have hji25w : (IntKind.i64.wrap (a4 - 1)) = ji25 := (i64_w _).trans hji25
              by_cases c26 : 0 ≤ (ji25)
              ·rw [if_pos c26] at H
               have c26b0 : decide (0 ≤ (ji25)) = true := decide_eq_true c26
               clear c26
               by_cases c27 : (ji25) < ((rd_L1 l0_0 a3).length : Int)
               ·rw [if_pos c27] at H
                have c27b0 : decide ((ji25) < ((rd_L1 l0_0 a3).length : Int)) = true := decide_eq_true c27
                clear c27
                obtain ⟨ji28, hji28⟩ : ∃ j_ : Int, (wrap64 ((rd (rd_L1 l0_0 a3) (ji25)) - 1)) = j_ := ⟨_, rfl⟩
                replace H : (if 0 ≤ (ji28) then (if (ji28) < (l1.length : Int) then (if ((rd_T61 l1 (ji10)).f2) > ((rd_T61 l1 (ji28)).f2) then (if x11_1.length < 5864062014805 then (spec_l7At.l0 k1 l1 a2 a3 a4 (x11_1 ++ [(⟨x13_1, a3, a4⟩ : S59)]) (wrap64 (x13_1 + 1)) l0_0 ((rd_T61 l1 (ji10)).f0) ((rd_T61 l1 (ji10)).f1) ((rd_T61 l1 (ji10)).f2) ((rd_T61 l1 (ji10)).f3) ((rd_T61 l1 (ji10)).f4)) else (none)) else (spec_l7At.l0 k1 l1 a2 a3 a4 x11_1 (wrap64 (x13_1 + 1)) l0_0 ((rd_T61 l1 (ji10)).f0) ((rd_T61 l1 (ji10)).f1) ((rd_T61 l1 (ji10)).f2) ((rd_T61 l1 (ji10)).f3) ((rd_T61 l1 (ji10)).f4))) else (none)) else (none)) = some r := by first | (rw [hji28] at H; exact H) | (simp only [hji28] at H ⊢; exact H)
                have hji28w : (IntKind.i64.wrap ((rd (rd_L1 l0_0 a3) (ji25)) - 1)) = ji28 := (i64_w _).trans hji28
                by_cases c29 : 0 ≤ (ji28)
                ·rw [if_pos c29] at H
                 have c29b0 : decide (0 ≤ (ji28)) = true := decide_eq_true c29
                 clear c29
                 by_cases c30 : (ji28) < (l1.length : Int)
                 ·rw [if_pos c30] at H
                  have c30b0 : decide ((ji28) < (l1.length : Int)) = true := decide_eq_true c30
                  clear c30
                  by_cases c31 : ((rd_T61 l1 (ji10)).f2) > ((rd_T61 l1 (ji28)).f2)
                  ·rw [if_pos c31] at H
                   have c31b0 : decide (((rd_T61 l1 (ji28)).f2) < ((rd_T61 l1 (ji10)).f2)) = true := decide_eq_true c31
                   clear c31
                   by_cases c32 : x11_1.length < 5864062014805
                   ·rw [if_pos c32] at H
                    have LMc32 := Aside0.mk c32
                    clear c32
                    obtain ⟨y241, hy241⟩ : ∃ y_ : List (S59), y_ = (x11_1 ++ [(⟨x13_1, a3, a4⟩ : S59)]) := ⟨_, rfl⟩
                    replace H : (spec_l7At.l0 k1 l1 a2 a3 a4 y241 (wrap64 (x13_1 + 1)) l0_0 ((rd_T61 l1 (ji10)).f0) ((rd_T61 l1 (ji10)).f1) ((rd_T61 l1 (ji10)).f2) ((rd_T61 l1 (ji10)).f3) ((rd_T61 l1 (ji10)).f4)) = some r := by first | (rw [hy241]; with_reducible exact H) | (have H2_ := (Option.bind_some _ _).symm.trans H; rw [hy241]; with_reducible exact H2_) | (have H2_ := (Option.bind_some _ _).symm.trans H; with_reducible exact H2_) | with_reducible exact H | (rw [hy241]; exact H) | exact H
                    have Ny241 := Aside0.mk hy241
                    clear hy241
                    have H' := Aside0.mk H
                    clear H
                    have hnb33 := NB237_230.out
                    have hnc33 := NB230_237.out
                    have hcz34_0 : wr.cell? ⟨gb237, 0, none⟩ = some (.string ((rd_T61 l1 (ji10)).f0)) := (blk_cell BK237.out 0).trans rfl
                    have hcz34_1 : wr.cell? ⟨gb237, 1, none⟩ = some (.int .i64 ((rd_T61 l1 (ji10)).f1)) := (blk_cell BK237.out 1).trans rfl
                    have hcz34_2 : wr.cell? ⟨gb237, 2, none⟩ = some (.int .i64 ((rd_T61 l1 (ji10)).f2)) := (blk_cell BK237.out 2).trans rfl
                    have hcz34_3 : wr.cell? ⟨gb237, 3, none⟩ = some (.int .i64 ((rd_T61 l1 (ji10)).f3)) := (blk_cell BK237.out 3).trans rfl
                    have hcz34_4 : wr.cell? ⟨gb237, 4, none⟩ = some (.int .i64 ((rd_T61 l1 (ji10)).f4)) := (blk_cell BK237.out 4).trans rfl
                    have hfz34_0 := blk_frozen BK237.out 0
                    have hfz34_1 := blk_frozen BK237.out 1
                    have hfz34_2 := blk_frozen BK237.out 2
                    have hfz34_3 := blk_frozen BK237.out 3
                    have hfz34_4 := blk_frozen BK237.out 4
                    have hcz35_0 : wr.cell? ⟨gb230, 0, none⟩ = some (.slice (some ad234) l0_0.length c0_0) := (blk_cell BK230.out 0).trans rfl
                    have hfz35_0 := blk_frozen BK230.out 0
                    have p238 : 0 ≤ (a3 : Int) := oda
                    have q238 : a3 < (l0_0.length : Int) := oda
                    obtain ⟨ad238, A238_0, c238_0, e238, hx238_0, hl238_0, hi238_0⟩ := at_L1 HR0_0.out a3 p238 q238
                    obtain rfl : ad234 = ad238 := (by injection e238)
                    replace hx238_0 := cel HB hx238_0
                    have HR238_0 := Aside0.mk hi238_0
                    have HC238_0 := Aside0.mk hl238_0
                    clear hi238_0 hl238_0
                    replace p238 := eq_true p238
                    replace q238 := eq_true q238
                    have p239 : 0 ≤ ((ji25) : Int) := oda
                    have q239 : (ji25) < ((rd_L1 l0_0 a3).length : Int) := oda
                    obtain ⟨ad239, e239, hx239_0⟩ := Kd.at_int HR238_0.out (ji25) p239 q239
                    cases e239
                    replace hx239_0 := cel HB hx239_0
                    replace p239 := eq_true p239
                    replace q239 := eq_true q239
                    have p240 : 0 ≤ ((ji28) : Int) := oda
                    have q240 : (ji28) < (l1.length : Int) := oda
                    obtain ⟨ad240, e240, hx240_0, hx240_1, hx240_2, hx240_3, hx240_4⟩ := at_T61 HR1.out (ji28) p240 q240
                    obtain rfl : ad236 = ad240 := (by injection e240)
                    replace hx240_0 := cel HB hx240_0
                    replace hx240_1 := cel HB hx240_1
                    replace hx240_2 := cel HB hx240_2
                    replace hx240_3 := cel HB hx240_3
                    replace hx240_4 := cel HB hx240_4
                    replace p240 := eq_true p240
                    replace q240 := eq_true q240
                    go_wp2_with (first | ((with_reducible refine gate_builtin (b := .append) (xs := #[.tmp 97, .tmp 102]) rfl ?_); at_builtin; refine Kd.R_append k59 (w0 := w) w.heap.size rfl (.tmp 97) (.tmp 102) 42 59 (.agg #[(.int .i64 0), (.int .i64 0), (.int .i64 0)]) 24 rfl Try.underlying42 info59 rfl (by decide) (by omega) u11 x11_1 (⟨x13_1, a3, a4⟩ : S59) [.int .i64 x13_1, .int .i64 a3, .int .i64 a4] (fun _ => True) (fun _ => False) rfl rfl ?aP (fun _ hk => hk.elim) ?aF ?aO ?aB ?aS ?aL ?_; (case aP => exact k59_mkM _ _ _ (⟨x13_1, a3, a4⟩ : S59)); (case aB => exact (bel2 HB GE230 GE237)); (case aF => exact (fun _ _ => trivial)); (case aO => exact (rdl HO_11)); (case aS => exact (below_size (bel2 HB GE230 GE237))); (case aL => have := LMc32.out; omega); intro v242 w36 ho hb hg hat; rw [← Ny241.out] at ho; have n0_ := Aside0.mk (blk_grown (g := gb230) (o := .cells #[.slice (some ad234) l0_0.length c0_0] 31 (0, 0)) (bkl BK230) hg (Kd.R_ne HO_11.out BK230.out (by decide))); have n1_ := Aside0.mk (blk_grown (g := gb237) (o := .cells #[.string ((rd_T61 l1 (ji10)).f0), .int .i64 ((rd_T61 l1 (ji10)).f1), .int .i64 ((rd_T61 l1 (ji10)).f2), .int .i64 ((rd_T61 l1 (ji10)).f3), .int .i64 ((rd_T61 l1 (ji10)).f4)] 61 (0, 0)) (bkl BK237) hg (Kd.R_ne HO_11.out BK237.out (by decide))); have n2_ := Aside0.mk (hb); have n3_ := Aside0.mk (ho); clear BK230; clear BK237; clear HB; clear HO_11; have BK230 := n0_; have BK237 := n1_; have HB := n2_; have HO243 := n3_; clear n0_ n1_ n2_ n3_; clear ho hb hg hat))
                    repeat (go_quiet (first | ((with_reducible refine gate_builtin (b := .append) (xs := #[.tmp 97, .tmp 102]) rfl ?_); at_builtin; refine Kd.R_append k59 (w0 := w) w.heap.size rfl (.tmp 97) (.tmp 102) 42 59 (.agg #[(.int .i64 0), (.int .i64 0), (.int .i64 0)]) 24 rfl Try.underlying42 info59 rfl (by decide) (by omega) u11 x11_1 (⟨x13_1, a3, a4⟩ : S59) [.int .i64 x13_1, .int .i64 a3, .int .i64 a4] (fun _ => True) (fun _ => False) rfl rfl ?aP (fun _ hk => hk.elim) ?aF ?aO ?aB ?aS ?aL ?_; (case aP => exact k59_mkM _ _ _ (⟨x13_1, a3, a4⟩ : S59)); (case aB => exact (bel2 HB GE230 GE237)); (case aF => exact (fun _ _ => trivial)); (case aO => exact (rdl HO_11)); (case aS => exact (below_size (bel2 HB GE230 GE237))); (case aL => have := LMc32.out; omega); intro v242 w36 ho hb hg hat; rw [← Ny241.out] at ho; have n0_ := Aside0.mk (blk_grown (g := gb230) (o := .cells #[.slice (some ad234) l0_0.length c0_0] 31 (0, 0)) (bkl BK230) hg (Kd.R_ne HO_11.out BK230.out (by decide))); have n1_ := Aside0.mk (blk_grown (g := gb237) (o := .cells #[.string ((rd_T61 l1 (ji10)).f0), .int .i64 ((rd_T61 l1 (ji10)).f1), .int .i64 ((rd_T61 l1 (ji10)).f2), .int .i64 ((rd_T61 l1 (ji10)).f3), .int .i64 ((rd_T61 l1 (ji10)).f4)] 61 (0, 0)) (bkl BK237) hg (Kd.R_ne HO_11.out BK237.out (by decide))); have n2_ := Aside0.mk (hb); have n3_ := Aside0.mk (ho); clear BK230; clear BK237; clear HB; clear HO_11; have BK230 := n0_; have BK237 := n1_; have HB := n2_; have HO243 := n3_; clear n0_ n1_ n2_ n3_; clear ho hb hg hat)); try go_wp2_with (first | ((with_reducible refine gate_builtin (b := .append) (xs := #[.tmp 97, .tmp 102]) rfl ?_); at_builtin; refine Kd.R_append k59 (w0 := w) w.heap.size rfl (.tmp 97) (.tmp 102) 42 59 (.agg #[(.int .i64 0), (.int .i64 0), (.int .i64 0)]) 24 rfl Try.underlying42 info59 rfl (by decide) (by omega) u11 x11_1 (⟨x13_1, a3, a4⟩ : S59) [.int .i64 x13_1, .int .i64 a3, .int .i64 a4] (fun _ => True) (fun _ => False) rfl rfl ?aP (fun _ hk => hk.elim) ?aF ?aO ?aB ?aS ?aL ?_; (case aP => exact k59_mkM _ _ _ (⟨x13_1, a3, a4⟩ : S59)); (case aB => exact (bel2 HB GE230 GE237)); (case aF => exact (fun _ _ => trivial)); (case aO => exact (rdl HO_11)); (case aS => exact (below_size (bel2 HB GE230 GE237))); (case aL => have := LMc32.out; omega); intro v242 w36 ho hb hg hat; rw [← Ny241.out] at ho; have n0_ := Aside0.mk (blk_grown (g := gb230) (o := .cells #[.slice (some ad234) l0_0.length c0_0] 31 (0, 0)) (bkl BK230) hg (Kd.R_ne HO_11.out BK230.out (by decide))); have n1_ := Aside0.mk (blk_grown (g := gb237) (o := .cells #[.string ((rd_T61 l1 (ji10)).f0), .int .i64 ((rd_T61 l1 (ji10)).f1), .int .i64 ((rd_T61 l1 (ji10)).f2), .int .i64 ((rd_T61 l1 (ji10)).f3), .int .i64 ((rd_T61 l1 (ji10)).f4)] 61 (0, 0)) (bkl BK237) hg (Kd.R_ne HO_11.out BK237.out (by decide))); have n2_ := Aside0.mk (hb); have n3_ := Aside0.mk (ho); clear BK230; clear BK237; clear HB; clear HO_11; have BK230 := n0_; have BK237 := n1_; have HB := n2_; have HO243 := n3_; clear n0_ n1_ n2_ n3_; clear ho hb hg hat)))
                    go_roundg k1
                    case measure => have := HK1.out; omega
                    case rel => exact ⟨(y241), (wrap64 (x13_1 + 1)), (by first | rfl | (simp; done) | (simp [*]; done)), H', ⟨by have := HK1.out; omega⟩, ⟨rdl HO243⟩, ⟨bkl BK230⟩, ⟨bkl BK237⟩, ⟨bel2 HB GE230 GE237⟩⟩
                   ·rw [if_neg c32] at H
                    exact absurd H (by simp)
                  ·rw [if_neg c31] at H
                   have c31b0 : decide (((rd_T61 l1 (ji28)).f2) < ((rd_T61 l1 (ji10)).f2)) = false := decide_eq_false c31
                   clear c31
                   have H' := Aside0.mk H
                   clear H
                   have hnb37 := NB237_230.out
                   have hnc37 := NB230_237.out
                   have hcz38_0 : wr.cell? ⟨gb237, 0, none⟩ = some (.string ((rd_T61 l1 (ji10)).f0)) := (blk_cell BK237.out 0).trans rfl
                   have hcz38_1 : wr.cell? ⟨gb237, 1, none⟩ = some (.int .i64 ((rd_T61 l1 (ji10)).f1)) := (blk_cell BK237.out 1).trans rfl
                   have hcz38_2 : wr.cell? ⟨gb237, 2, none⟩ = some (.int .i64 ((rd_T61 l1 (ji10)).f2)) := (blk_cell BK237.out 2).trans rfl
                   have hcz38_3 : wr.cell? ⟨gb237, 3, none⟩ = some (.int .i64 ((rd_T61 l1 (ji10)).f3)) := (blk_cell BK237.out 3).trans rfl
                   have hcz38_4 : wr.cell? ⟨gb237, 4, none⟩ = some (.int .i64 ((rd_T61 l1 (ji10)).f4)) := (blk_cell BK237.out 4).trans rfl
                   have hfz38_0 := blk_frozen BK237.out 0
                   have hfz38_1 := blk_frozen BK237.out 1
                   have hfz38_2 := blk_frozen BK237.out 2
                   have hfz38_3 := blk_frozen BK237.out 3
                   have hfz38_4 := blk_frozen BK237.out 4
                   have hcz39_0 : wr.cell? ⟨gb230, 0, none⟩ = some (.slice (some ad234) l0_0.length c0_0) := (blk_cell BK230.out 0).trans rfl
                   have hfz39_0 := blk_frozen BK230.out 0
                   have p238 : 0 ≤ (a3 : Int) := oda
                   have q238 : a3 < (l0_0.length : Int) := oda
                   obtain ⟨ad238, A238_0, c238_0, e238, hx238_0, hl238_0, hi238_0⟩ := at_L1 HR0_0.out a3 p238 q238
                   obtain rfl : ad234 = ad238 := (by injection e238)
                   replace hx238_0 := cel HB hx238_0
                   have HR238_0 := Aside0.mk hi238_0
                   have HC238_0 := Aside0.mk hl238_0
                   clear hi238_0 hl238_0
                   replace p238 := eq_true p238
                   replace q238 := eq_true q238
                   have p239 : 0 ≤ ((ji25) : Int) := oda
                   have q239 : (ji25) < ((rd_L1 l0_0 a3).length : Int) := oda
                   obtain ⟨ad239, e239, hx239_0⟩ := Kd.at_int HR238_0.out (ji25) p239 q239
                   cases e239
                   replace hx239_0 := cel HB hx239_0
                   replace p239 := eq_true p239
                   replace q239 := eq_true q239
                   have p240 : 0 ≤ ((ji28) : Int) := oda
                   have q240 : (ji28) < (l1.length : Int) := oda
                   obtain ⟨ad240, e240, hx240_0, hx240_1, hx240_2, hx240_3, hx240_4⟩ := at_T61 HR1.out (ji28) p240 q240
                   obtain rfl : ad236 = ad240 := (by injection e240)
                   replace hx240_0 := cel HB hx240_0
                   replace hx240_1 := cel HB hx240_1
                   replace hx240_2 := cel HB hx240_2
                   replace hx240_3 := cel HB hx240_3
                   replace hx240_4 := cel HB hx240_4
                   replace p240 := eq_true p240
                   replace q240 := eq_true q240
                   go_wp2
                   repeat (go_quiet (fail); try go_wp2)
                   go_roundg k1
                   case measure => have := HK1.out; omega
                   case rel => exact ⟨(x11_1), (wrap64 (x13_1 + 1)), (by first | rfl | (simp; done) | (simp [*]; done)), H', ⟨by have := HK1.out; omega⟩, ⟨rdl HO_11⟩, ⟨bkl BK230⟩, ⟨bkl BK237⟩, ⟨bel2 HB GE230 GE237⟩⟩
                 ·rw [if_neg c30] at H
                  exact absurd H (by simp)
                ·rw [if_neg c29] at H
                 exact absurd H (by simp)
               ·rw [if_neg c27] at H
                exact absurd H (by simp)
              ·rw [if_neg c26] at H
               exact absurd H (by simp)
             ·rw [if_neg c24] at H
              exact absurd H (by simp)
            ·rw [if_neg c23] at H
             exact absurd H (by simp)
           ·rw [if_neg c22] at H
            have c22b0 : decide (0 < a4) = false := decide_eq_false c22
            clear c22
            have H' := Aside0.mk H
            clear H
            go_wp2
            repeat (go_quiet (fail); try go_wp2)
            go_roundg k1
            case measure => have := HK1.out; omega
            case rel => exact ⟨(x11_1), (wrap64 (x13_1 + 1)), (by first | rfl | (simp; done) | (simp [*]; done)), H', ⟨by have := HK1.out; omega⟩, ⟨rdl HO_11⟩, ⟨bkl BK230⟩, ⟨bkl BK237⟩, ⟨bel2 HB GE230 GE237⟩⟩
          ·rw [if_neg c21] at H
           have c21b0 : (x13_1 == 1) = false := beq_eq_false_iff_ne.mpr c21
           have c21b1 : (x13_1 != 1) = true := bne_iff_ne.mpr c21
           by_cases c40 : x13_1 = 2
           ·rw [if_pos c40] at H
            have c40b0 : (x13_1 == 2) = true := beq_iff_eq.mpr c40
            have c40b1 : (x13_1 != 2) = false := bne_eq_false_iff_eq.mpr c40
            clear c40
            by_cases c41 : a4 > 0
            ·rw [if_pos c41] at H
             have c41b0 : decide (0 < a4) = true := decide_eq_true c41
             clear c41
             by_cases c42 : 0 ≤ a3
             ·rw [if_pos c42] at H
              have c42b0 : decide (0 ≤ a3) = true := decide_eq_true c42
              clear c42
              by_cases c43 : a3 < (l0_0.length : Int)
              ·rw [if_pos c43] at H
               have c43b0 : decide (a3 < (l0_0.length : Int)) = true := decide_eq_true c43
               clear c43
               obtain ⟨ji44, hji44⟩ : ∃ j_ : Int, (wrap64 (a4 - 1)) = j_ := ⟨_, rfl⟩
               replace H : (if 0 ≤ (ji44) then (if (ji44) < ((rd_L1 l0_0 a3).length : Int) then (if 0 ≤ (wrap64 ((rd (rd_L1 l0_0 a3) (ji44)) - 1)) then (if (wrap64 ((rd (rd_L1 l0_0 a3) (ji44)) - 1)) < (l1.length : Int) then (if ((rd_T61 l1 (ji10)).f1) = ((rd_T61 l1 (wrap64 ((rd (rd_L1 l0_0 a3) (ji44)) - 1))).f1) then (spec_l7At.l0 k1 l1 a2 a3 a4 x11_1 (wrap64 (x13_1 + 1)) l0_0 ((rd_T61 l1 (ji10)).f0) ((rd_T61 l1 (ji10)).f1) ((rd_T61 l1 (ji10)).f2) ((rd_T61 l1 (ji10)).f3) ((rd_T61 l1 (ji10)).f4)) else (if x11_1.length < 5864062014805 then (spec_l7At.l0 k1 l1 a2 a3 a4 (x11_1 ++ [(⟨x13_1, a3, a4⟩ : S59)]) (wrap64 (x13_1 + 1)) l0_0 ((rd_T61 l1 (ji10)).f0) ((rd_T61 l1 (ji10)).f1) ((rd_T61 l1 (ji10)).f2) ((rd_T61 l1 (ji10)).f3) ((rd_T61 l1 (ji10)).f4)) else (none))) else (none)) else (none)) else (none)) else (none)) = some r := by first | (rw [hji44] at H; exact H) | (simp only [hji44] at H ⊢; exact H)
               have hji44w : (IntKind.i64.wrap (a4 - 1)) = ji44 := (i64_w _).trans hji44
               by_cases c45 : 0 ≤ (ji44)
               ·rw [if_pos c45] at H
                have c45b0 : decide (0 ≤ (ji44)) = true := decide_eq_true c45
                clear c45
                by_cases c46 : (ji44) < ((rd_L1 l0_0 a3).length : Int)
                ·rw [if_pos c46] at H
                 have c46b0 : decide ((ji44) < ((rd_L1 l0_0 a3).length : Int)) = true := decide_eq_true c46
                 clear c46
                 obtain ⟨ji47, hji47⟩ : ∃ j_ : Int, (wrap64 ((rd (rd_L1 l0_0 a3) (ji44)) - 1)) = j_ := ⟨_, rfl⟩
                 replace H : (if 0 ≤ (ji47) then (if (ji47) < (l1.length : Int) then (if ((rd_T61 l1 (ji10)).f1) = ((rd_T61 l1 (ji47)).f1) then (spec_l7At.l0 k1 l1 a2 a3 a4 x11_1 (wrap64 (x13_1 + 1)) l0_0 ((rd_T61 l1 (ji10)).f0) ((rd_T61 l1 (ji10)).f1) ((rd_T61 l1 (ji10)).f2) ((rd_T61 l1 (ji10)).f3) ((rd_T61 l1 (ji10)).f4)) else (if x11_1.length < 5864062014805 then (spec_l7At.l0 k1 l1 a2 a3 a4 (x11_1 ++ [(⟨x13_1, a3, a4⟩ : S59)]) (wrap64 (x13_1 + 1)) l0_0 ((rd_T61 l1 (ji10)).f0) ((rd_T61 l1 (ji10)).f1) ((rd_T61 l1 (ji10)).f2) ((rd_T61 l1 (ji10)).f3) ((rd_T61 l1 (ji10)).f4)) else (none))) else (none)) else (none)) = some r := by first | (rw [hji47] at H; exact H) | (simp only [hji47] at H ⊢; exact H)
                 have hji47w : (IntKind.i64.wrap ((rd (rd_L1 l0_0 a3) (ji44)) - 1)) = ji47 := (i64_w _).trans hji47
                 by_cases c48 : 0 ≤ (ji47)
                 ·rw [if_pos c48] at H
                  have c48b0 : decide (0 ≤ (ji47)) = true := decide_eq_true c48
                  clear c48
                  by_cases c49 : (ji47) < (l1.length : Int)
                  ·rw [if_pos c49] at H
                   have c49b0 : decide ((ji47) < (l1.length : Int)) = true := decide_eq_true c49
                   clear c49
                   by_cases c50 : ((rd_T61 l1 (ji10)).f1) = ((rd_T61 l1 (ji47)).f1)
                   ·rw [if_pos c50] at H
                    have c50b0 : (((rd_T61 l1 (ji10)).f1) == ((rd_T61 l1 (ji47)).f1)) = true := beq_iff_eq.mpr c50
                    have c50b1 : (((rd_T61 l1 (ji10)).f1) != ((rd_T61 l1 (ji47)).f1)) = false := bne_eq_false_iff_eq.mpr c50
                    clear c50
                    have H' := Aside0.mk H
                    clear H
                    have hnb51 := NB237_230.out
                    have hnc51 := NB230_237.out
                    have hcz52_0 : wr.cell? ⟨gb237, 0, none⟩ = some (.string ((rd_T61 l1 (ji10)).f0)) := (blk_cell BK237.out 0).trans rfl
                    have hcz52_1 : wr.cell? ⟨gb237, 1, none⟩ = some (.int .i64 ((rd_T61 l1 (ji10)).f1)) := (blk_cell BK237.out 1).trans rfl
                    have hcz52_2 : wr.cell? ⟨gb237, 2, none⟩ = some (.int .i64 ((rd_T61 l1 (ji10)).f2)) := (blk_cell BK237.out 2).trans rfl
                    have hcz52_3 : wr.cell? ⟨gb237, 3, none⟩ = some (.int .i64 ((rd_T61 l1 (ji10)).f3)) := (blk_cell BK237.out 3).trans rfl
                    have hcz52_4 : wr.cell? ⟨gb237, 4, none⟩ = some (.int .i64 ((rd_T61 l1 (ji10)).f4)) := (blk_cell BK237.out 4).trans rfl
                    have hfz52_0 := blk_frozen BK237.out 0
                    have hfz52_1 := blk_frozen BK237.out 1
                    have hfz52_2 := blk_frozen BK237.out 2
                    have hfz52_3 := blk_frozen BK237.out 3
                    have hfz52_4 := blk_frozen BK237.out 4
                    have hcz53_0 : wr.cell? ⟨gb230, 0, none⟩ = some (.slice (some ad234) l0_0.length c0_0) := (blk_cell BK230.out 0).trans rfl
                    have hfz53_0 := blk_frozen BK230.out 0
                    have p244 : 0 ≤ (a3 : Int) := oda
                    have q244 : a3 < (l0_0.length : Int) := oda
                    obtain ⟨ad244, A244_0, c244_0, e244, hx244_0, hl244_0, hi244_0⟩ := at_L1 HR0_0.out a3 p244 q244
                    obtain rfl : ad234 = ad244 := (by injection e244)
                    replace hx244_0 := cel HB hx244_0
                    have HR244_0 := Aside0.mk hi244_0
                    have HC244_0 := Aside0.mk hl244_0
                    clear hi244_0 hl244_0
                    replace p244 := eq_true p244
                    replace q244 := eq_true q244
                    have p245 : 0 ≤ ((ji44) : Int) := oda
                    have q245 : (ji44) < ((rd_L1 l0_0 a3).length : Int) := oda
                    obtain ⟨ad245, e245, hx245_0⟩ := Kd.at_int HR244_0.out (ji44) p245 q245
                    cases e245
                    replace hx245_0 := cel HB hx245_0
                    replace p245 := eq_true p245
                    replace q245 := eq_true q245
                    have p246 : 0 ≤ ((ji47) : Int) := oda
                    have q246 : (ji47) < (l1.length : Int) := oda
                    obtain ⟨ad246, e246, hx246_0, hx246_1, hx246_2, hx246_3, hx246_4⟩ := at_T61 HR1.out (ji47) p246 q246
                    obtain rfl : ad236 = ad246 := (by injection e246)
                    replace hx246_0 := cel HB hx246_0
                    replace hx246_1 := cel HB hx246_1
                    replace hx246_2 := cel HB hx246_2
                    replace hx246_3 := cel HB hx246_3
                    replace hx246_4 := cel HB hx246_4
                    replace p246 := eq_true p246
                    replace q246 := eq_true q246
                    go_wp2
                    repeat (go_quiet (fail); try go_wp2)
                    go_roundg k1
                    case measure => have := HK1.out; omega
                    case rel => exact ⟨(x11_1), (wrap64 (x13_1 + 1)), (by first | rfl | (simp; done) | (simp [*]; done)), H', ⟨by have := HK1.out; omega⟩, ⟨rdl HO_11⟩, ⟨bkl BK230⟩, ⟨bkl BK237⟩, ⟨bel2 HB GE230 GE237⟩⟩
                   ·rw [if_neg c50] at H
                    have c50b0 : (((rd_T61 l1 (ji10)).f1) == ((rd_T61 l1 (ji47)).f1)) = false := beq_eq_false_iff_ne.mpr c50
                    have c50b1 : (((rd_T61 l1 (ji10)).f1) != ((rd_T61 l1 (ji47)).f1)) = true := bne_iff_ne.mpr c50
                    by_cases c54 : x11_1.length < 5864062014805
                    ·rw [if_pos c54] at H
                     have LMc54 := Aside0.mk c54
                     clear c54
                     obtain ⟨y247, hy247⟩ : ∃ y_ : List (S59), y_ = (x11_1 ++ [(⟨x13_1, a3, a4⟩ : S59)]) := ⟨_, rfl⟩
                     replace H : (spec_l7At.l0 k1 l1 a2 a3 a4 y247 (wrap64 (x13_1 + 1)) l0_0 ((rd_T61 l1 (ji10)).f0) ((rd_T61 l1 (ji10)).f1) ((rd_T61 l1 (ji10)).f2) ((rd_T61 l1 (ji10)).f3) ((rd_T61 l1 (ji10)).f4)) = some r := by first | (rw [hy247]; with_reducible exact H) | (have H2_ := (Option.bind_some _ _).symm.trans H; rw [hy247]; with_reducible exact H2_) | (have H2_ := (Option.bind_some _ _).symm.trans H; with_reducible exact H2_) | with_reducible exact H | (rw [hy247]; exact H) | exact H
                     have Ny247 := Aside0.mk hy247
                     clear hy247
                     have H' := Aside0.mk H
                     clear H
                     have hnb55 := NB237_230.out
                     have hnc55 := NB230_237.out
                     have hcz56_0 : wr.cell? ⟨gb237, 0, none⟩ = some (.string ((rd_T61 l1 (ji10)).f0)) := (blk_cell BK237.out 0).trans rfl
                     have hcz56_1 : wr.cell? ⟨gb237, 1, none⟩ = some (.int .i64 ((rd_T61 l1 (ji10)).f1)) := (blk_cell BK237.out 1).trans rfl
                     have hcz56_2 : wr.cell? ⟨gb237, 2, none⟩ = some (.int .i64 ((rd_T61 l1 (ji10)).f2)) := (blk_cell BK237.out 2).trans rfl
                     have hcz56_3 : wr.cell? ⟨gb237, 3, none⟩ = some (.int .i64 ((rd_T61 l1 (ji10)).f3)) := (blk_cell BK237.out 3).trans rfl
                     have hcz56_4 : wr.cell? ⟨gb237, 4, none⟩ = some (.int .i64 ((rd_T61 l1 (ji10)).f4)) := (blk_cell BK237.out 4).trans rfl
                     have hfz56_0 := blk_frozen BK237.out 0
                     have hfz56_1 := blk_frozen BK237.out 1
                     have hfz56_2 := blk_frozen BK237.out 2
                     have hfz56_3 := blk_frozen BK237.out 3
                     have hfz56_4 := blk_frozen BK237.out 4
                     have hcz57_0 : wr.cell? ⟨gb230, 0, none⟩ = some (.slice (some ad234) l0_0.length c0_0) := (blk_cell BK230.out 0).trans rfl
                     have hfz57_0 := blk_frozen BK230.out 0
                     have p244 : 0 ≤ (a3 : Int) := oda
                     have q244 : a3 < (l0_0.length : Int) := oda
                     obtain ⟨ad244, A244_0, c244_0, e244, hx244_0, hl244_0, hi244_0⟩ := at_L1 HR0_0.out a3 p244 q244
                     obtain rfl : ad234 = ad244 := (by injection e244)
                     replace hx244_0 := cel HB hx244_0
                     have HR244_0 := Aside0.mk hi244_0
                     have HC244_0 := Aside0.mk hl244_0
                     clear hi244_0 hl244_0
                     replace p244 := eq_true p244
                     replace q244 := eq_true q244
                     have p245 : 0 ≤ ((ji44) : Int) := oda
                     have q245 : (ji44) < ((rd_L1 l0_0 a3).length : Int) := oda
                     obtain ⟨ad245, e245, hx245_0⟩ := Kd.at_int HR244_0.out (ji44) p245 q245
                     cases e245
                     replace hx245_0 := cel HB hx245_0
                     replace p245 := eq_true p245
                     replace q245 := eq_true q245
                     have p246 : 0 ≤ ((ji47) : Int) := oda
                     have q246 : (ji47) < (l1.length : Int) := oda
                     obtain ⟨ad246, e246, hx246_0, hx246_1, hx246_2, hx246_3, hx246_4⟩ := at_T61 HR1.out (ji47) p246 q246
                     obtain rfl : ad236 = ad246 := (by injection e246)
                     replace hx246_0 := cel HB hx246_0
                     replace hx246_1 := cel HB hx246_1
                     replace hx246_2 := cel HB hx246_2
                     replace hx246_3 := cel HB hx246_3
                     replace hx246_4 := cel HB hx246_4
                     replace p246 := eq_true p246
                     replace q246 := eq_true q246
                     go_wp2_with (first | ((with_reducible refine gate_builtin (b := .append) (xs := #[.tmp 97, .tmp 102]) rfl ?_); at_builtin; refine Kd.R_append k59 (w0 := w) w.heap.size rfl (.tmp 97) (.tmp 102) 42 59 (.agg #[(.int .i64 0), (.int .i64 0), (.int .i64 0)]) 24 rfl Try.underlying42 info59 rfl (by decide) (by omega) u11 x11_1 (⟨x13_1, a3, a4⟩ : S59) [.int .i64 x13_1, .int .i64 a3, .int .i64 a4] (fun _ => True) (fun _ => False) rfl rfl ?aP (fun _ hk => hk.elim) ?aF ?aO ?aB ?aS ?aL ?_; (case aP => exact k59_mkM _ _ _ (⟨x13_1, a3, a4⟩ : S59)); (case aB => exact (bel2 HB GE230 GE237)); (case aF => exact (fun _ _ => trivial)); (case aO => exact (rdl HO_11)); (case aS => exact (below_size (bel2 HB GE230 GE237))); (case aL => have := LMc54.out; omega); intro v248 w58 ho hb hg hat; rw [← Ny247.out] at ho; have n0_ := Aside0.mk (blk_grown (g := gb230) (o := .cells #[.slice (some ad234) l0_0.length c0_0] 31 (0, 0)) (bkl BK230) hg (Kd.R_ne HO_11.out BK230.out (by decide))); have n1_ := Aside0.mk (blk_grown (g := gb237) (o := .cells #[.string ((rd_T61 l1 (ji10)).f0), .int .i64 ((rd_T61 l1 (ji10)).f1), .int .i64 ((rd_T61 l1 (ji10)).f2), .int .i64 ((rd_T61 l1 (ji10)).f3), .int .i64 ((rd_T61 l1 (ji10)).f4)] 61 (0, 0)) (bkl BK237) hg (Kd.R_ne HO_11.out BK237.out (by decide))); have n2_ := Aside0.mk (hb); have n3_ := Aside0.mk (ho); clear BK230; clear BK237; clear HB; clear HO_11; have BK230 := n0_; have BK237 := n1_; have HB := n2_; have HO249 := n3_; clear n0_ n1_ n2_ n3_; clear ho hb hg hat))
                     repeat (go_quiet (first | ((with_reducible refine gate_builtin (b := .append) (xs := #[.tmp 97, .tmp 102]) rfl ?_); at_builtin; refine Kd.R_append k59 (w0 := w) w.heap.size rfl (.tmp 97) (.tmp 102) 42 59 (.agg #[(.int .i64 0), (.int .i64 0), (.int .i64 0)]) 24 rfl Try.underlying42 info59 rfl (by decide) (by omega) u11 x11_1 (⟨x13_1, a3, a4⟩ : S59) [.int .i64 x13_1, .int .i64 a3, .int .i64 a4] (fun _ => True) (fun _ => False) rfl rfl ?aP (fun _ hk => hk.elim) ?aF ?aO ?aB ?aS ?aL ?_; (case aP => exact k59_mkM _ _ _ (⟨x13_1, a3, a4⟩ : S59)); (case aB => exact (bel2 HB GE230 GE237)); (case aF => exact (fun _ _ => trivial)); (case aO => exact (rdl HO_11)); (case aS => exact (below_size (bel2 HB GE230 GE237))); (case aL => have := LMc54.out; omega); intro v248 w58 ho hb hg hat; rw [← Ny247.out] at ho; have n0_ := Aside0.mk (blk_grown (g := gb230) (o := .cells #[.slice (some ad234) l0_0.length c0_0] 31 (0, 0)) (bkl BK230) hg (Kd.R_ne HO_11.out BK230.out (by decide))); have n1_ := Aside0.mk (blk_grown (g := gb237) (o := .cells #[.string ((rd_T61 l1 (ji10)).f0), .int .i64 ((rd_T61 l1 (ji10)).f1), .int .i64 ((rd_T61 l1 (ji10)).f2), .int .i64 ((rd_T61 l1 (ji10)).f3), .int .i64 ((rd_T61 l1 (ji10)).f4)] 61 (0, 0)) (bkl BK237) hg (Kd.R_ne HO_11.out BK237.out (by decide))); have n2_ := Aside0.mk (hb); have n3_ := Aside0.mk (ho); clear BK230; clear BK237; clear HB; clear HO_11; have BK230 := n0_; have BK237 := n1_; have HB := n2_; have HO249 := n3_; clear n0_ n1_ n2_ n3_; clear ho hb hg hat)); try go_wp2_with (first | ((with_reducible refine gate_builtin (b := .append) (xs := #[.tmp 97, .tmp 102]) rfl ?_); at_builtin; refine Kd.R_append k59 (w0 := w) w.heap.size rfl (.tmp 97) (.tmp 102) 42 59 (.agg #[(.int .i64 0), (.int .i64 0), (.int .i64 0)]) 24 rfl Try.underlying42 info59 rfl (by decide) (by omega) u11 x11_1 (⟨x13_1, a3, a4⟩ : S59) [.int .i64 x13_1, .int .i64 a3, .int .i64 a4] (fun _ => True) (fun _ => False) rfl rfl ?aP (fun _ hk => hk.elim) ?aF ?aO ?aB ?aS ?aL ?_; (case aP => exact k59_mkM _ _ _ (⟨x13_1, a3, a4⟩ : S59)); (case aB => exact (bel2 HB GE230 GE237)); (case aF => exact (fun _ _ => trivial)); (case aO => exact (rdl HO_11)); (case aS => exact (below_size (bel2 HB GE230 GE237))); (case aL => have := LMc54.out; omega); intro v248 w58 ho hb hg hat; rw [← Ny247.out] at ho; have n0_ := Aside0.mk (blk_grown (g := gb230) (o := .cells #[.slice (some ad234) l0_0.length c0_0] 31 (0, 0)) (bkl BK230) hg (Kd.R_ne HO_11.out BK230.out (by decide))); have n1_ := Aside0.mk (blk_grown (g := gb237) (o := .cells #[.string ((rd_T61 l1 (ji10)).f0), .int .i64 ((rd_T61 l1 (ji10)).f1), .int .i64 ((rd_T61 l1 (ji10)).f2), .int .i64 ((rd_T61 l1 (ji10)).f3), .int .i64 ((rd_T61 l1 (ji10)).f4)] 61 (0, 0)) (bkl BK237) hg (Kd.R_ne HO_11.out BK237.out (by decide))); have n2_ := Aside0.mk (hb); have n3_ := Aside0.mk (ho); clear BK230; clear BK237; clear HB; clear HO_11; have BK230 := n0_; have BK237 := n1_; have HB := n2_; have HO249 := n3_; clear n0_ n1_ n2_ n3_; clear ho hb hg hat)))
                     go_roundg k1
                     case measure => have := HK1.out; omega
                     case rel => exact ⟨(y247), (wrap64 (x13_1 + 1)), (by first | rfl | (simp; done) | (simp [*]; done)), H', ⟨by have := HK1.out; omega⟩, ⟨rdl HO249⟩, ⟨bkl BK230⟩, ⟨bkl BK237⟩, ⟨bel2 HB GE230 GE237⟩⟩
                    ·rw [if_neg c54] at H
                     exact absurd H (by simp)
                  ·rw [if_neg c49] at H
                   exact absurd H (by simp)
                 ·rw [if_neg c48] at H
                  exact absurd H (by simp)
                ·rw [if_neg c46] at H
                 exact absurd H (by simp)
               ·rw [if_neg c45] at H
                exact absurd H (by simp)
              ·rw [if_neg c43] at H
               exact absurd H (by simp)
             ·rw [if_neg c42] at H
              exact absurd H (by simp)
            ·rw [if_neg c41] at H
             have c41b0 : decide (0 < a4) = false := decide_eq_false c41
             clear c41
             have H' := Aside0.mk H
             clear H
             go_wp2
             repeat (go_quiet (fail); try go_wp2)
             go_roundg k1
             case measure => have := HK1.out; omega
             case rel => exact ⟨(x11_1), (wrap64 (x13_1 + 1)), (by first | rfl | (simp; done) | (simp [*]; done)), H', ⟨by have := HK1.out; omega⟩, ⟨rdl HO_11⟩, ⟨bkl BK230⟩, ⟨bkl BK237⟩, ⟨bel2 HB GE230 GE237⟩⟩
           ·rw [if_neg c40] at H
            have c40b0 : (x13_1 == 2) = false := beq_eq_false_iff_ne.mpr c40
            have c40b1 : (x13_1 != 2) = true := bne_iff_ne.mpr c40
            by_cases c59 : x13_1 = 3
            ·rw [if_pos c59] at H
             have c59b0 : (x13_1 == 3) = true := beq_iff_eq.mpr c59
             have c59b1 : (x13_1 != 3) = false := bne_eq_false_iff_eq.mpr c59
             clear c59
             by_cases c60 : a4 > 0
             ·rw [if_pos c60] at H
              have c60b0 : decide (0 < a4) = true := decide_eq_true c60
              clear c60
              by_cases c61 : ((rd_T61 l1 (ji10)).f3) = 3
              ·rw [if_pos c61] at H
               have c61b0 : (((rd_T61 l1 (ji10)).f3) == 3) = true := beq_iff_eq.mpr c61
               have c61b1 : (((rd_T61 l1 (ji10)).f3) != 3) = false := bne_eq_false_iff_eq.mpr c61
               clear c61
               by_cases c62 : x11_1.length < 5864062014805
               ·rw [if_pos c62] at H
                have LMc62 := Aside0.mk c62
                clear c62
                obtain ⟨y250, hy250⟩ : ∃ y_ : List (S59), y_ = (x11_1 ++ [(⟨x13_1, a3, a4⟩ : S59)]) := ⟨_, rfl⟩
                replace H : (spec_l7At.l0 k1 l1 a2 a3 a4 y250 (wrap64 (x13_1 + 1)) l0_0 ((rd_T61 l1 (ji10)).f0) ((rd_T61 l1 (ji10)).f1) ((rd_T61 l1 (ji10)).f2) ((rd_T61 l1 (ji10)).f3) ((rd_T61 l1 (ji10)).f4)) = some r := by first | (rw [hy250]; with_reducible exact H) | (have H2_ := (Option.bind_some _ _).symm.trans H; rw [hy250]; with_reducible exact H2_) | (have H2_ := (Option.bind_some _ _).symm.trans H; with_reducible exact H2_) | with_reducible exact H | (rw [hy250]; exact H) | exact H
                have Ny250 := Aside0.mk hy250
                clear hy250
                have H' := Aside0.mk H
                clear H
                have hnb63 := NB237_230.out
                have hnc63 := NB230_237.out
                have hcz64_0 : wr.cell? ⟨gb237, 0, none⟩ = some (.string ((rd_T61 l1 (ji10)).f0)) := (blk_cell BK237.out 0).trans rfl
                have hcz64_1 : wr.cell? ⟨gb237, 1, none⟩ = some (.int .i64 ((rd_T61 l1 (ji10)).f1)) := (blk_cell BK237.out 1).trans rfl
                have hcz64_2 : wr.cell? ⟨gb237, 2, none⟩ = some (.int .i64 ((rd_T61 l1 (ji10)).f2)) := (blk_cell BK237.out 2).trans rfl
                have hcz64_3 : wr.cell? ⟨gb237, 3, none⟩ = some (.int .i64 ((rd_T61 l1 (ji10)).f3)) := (blk_cell BK237.out 3).trans rfl
                have hcz64_4 : wr.cell? ⟨gb237, 4, none⟩ = some (.int .i64 ((rd_T61 l1 (ji10)).f4)) := (blk_cell BK237.out 4).trans rfl
                have hfz64_0 := blk_frozen BK237.out 0
                have hfz64_1 := blk_frozen BK237.out 1
                have hfz64_2 := blk_frozen BK237.out 2
                have hfz64_3 := blk_frozen BK237.out 3
                have hfz64_4 := blk_frozen BK237.out 4
                go_wp2_with (first | ((with_reducible refine gate_builtin (b := .append) (xs := #[.tmp 97, .tmp 102]) rfl ?_); at_builtin; refine Kd.R_append k59 (w0 := w) w.heap.size rfl (.tmp 97) (.tmp 102) 42 59 (.agg #[(.int .i64 0), (.int .i64 0), (.int .i64 0)]) 24 rfl Try.underlying42 info59 rfl (by decide) (by omega) u11 x11_1 (⟨x13_1, a3, a4⟩ : S59) [.int .i64 x13_1, .int .i64 a3, .int .i64 a4] (fun _ => True) (fun _ => False) rfl rfl ?aP (fun _ hk => hk.elim) ?aF ?aO ?aB ?aS ?aL ?_; (case aP => exact k59_mkM _ _ _ (⟨x13_1, a3, a4⟩ : S59)); (case aB => exact (bel2 HB GE230 GE237)); (case aF => exact (fun _ _ => trivial)); (case aO => exact (rdl HO_11)); (case aS => exact (below_size (bel2 HB GE230 GE237))); (case aL => have := LMc62.out; omega); intro v251 w65 ho hb hg hat; rw [← Ny250.out] at ho; have n0_ := Aside0.mk (blk_grown (g := gb230) (o := .cells #[.slice (some ad234) l0_0.length c0_0] 31 (0, 0)) (bkl BK230) hg (Kd.R_ne HO_11.out BK230.out (by decide))); have n1_ := Aside0.mk (blk_grown (g := gb237) (o := .cells #[.string ((rd_T61 l1 (ji10)).f0), .int .i64 ((rd_T61 l1 (ji10)).f1), .int .i64 ((rd_T61 l1 (ji10)).f2), .int .i64 ((rd_T61 l1 (ji10)).f3), .int .i64 ((rd_T61 l1 (ji10)).f4)] 61 (0, 0)) (bkl BK237) hg (Kd.R_ne HO_11.out BK237.out (by decide))); have n2_ := Aside0.mk (hb); have n3_ := Aside0.mk (ho); clear BK230; clear BK237; clear HB; clear HO_11; have BK230 := n0_; have BK237 := n1_; have HB := n2_; have HO252 := n3_; clear n0_ n1_ n2_ n3_; clear ho hb hg hat))
                repeat (go_quiet (first | ((with_reducible refine gate_builtin (b := .append) (xs := #[.tmp 97, .tmp 102]) rfl ?_); at_builtin; refine Kd.R_append k59 (w0 := w) w.heap.size rfl (.tmp 97) (.tmp 102) 42 59 (.agg #[(.int .i64 0), (.int .i64 0), (.int .i64 0)]) 24 rfl Try.underlying42 info59 rfl (by decide) (by omega) u11 x11_1 (⟨x13_1, a3, a4⟩ : S59) [.int .i64 x13_1, .int .i64 a3, .int .i64 a4] (fun _ => True) (fun _ => False) rfl rfl ?aP (fun _ hk => hk.elim) ?aF ?aO ?aB ?aS ?aL ?_; (case aP => exact k59_mkM _ _ _ (⟨x13_1, a3, a4⟩ : S59)); (case aB => exact (bel2 HB GE230 GE237)); (case aF => exact (fun _ _ => trivial)); (case aO => exact (rdl HO_11)); (case aS => exact (below_size (bel2 HB GE230 GE237))); (case aL => have := LMc62.out; omega); intro v251 w65 ho hb hg hat; rw [← Ny250.out] at ho; have n0_ := Aside0.mk (blk_grown (g := gb230) (o := .cells #[.slice (some ad234) l0_0.length c0_0] 31 (0, 0)) (bkl BK230) hg (Kd.R_ne HO_11.out BK230.out (by decide))); have n1_ := Aside0.mk (blk_grown (g := gb237) (o := .cells #[.string ((rd_T61 l1 (ji10)).f0), .int .i64 ((rd_T61 l1 (ji10)).f1), .int .i64 ((rd_T61 l1 (ji10)).f2), .int .i64 ((rd_T61 l1 (ji10)).f3), .int .i64 ((rd_T61 l1 (ji10)).f4)] 61 (0, 0)) (bkl BK237) hg (Kd.R_ne HO_11.out BK237.out (by decide))); have n2_ := Aside0.mk (hb); have n3_ := Aside0.mk (ho); clear BK230; clear BK237; clear HB; clear HO_11; have BK230 := n0_; have BK237 := n1_; have HB := n2_; have HO252 := n3_; clear n0_ n1_ n2_ n3_; clear ho hb hg hat)); try go_wp2_with (first | ((with_reducible refine gate_builtin (b := .append) (xs := #[.tmp 97, .tmp 102]) rfl ?_); at_builtin; refine Kd.R_append k59 (w0 := w) w.heap.size rfl (.tmp 97) (.tmp 102) 42 59 (.agg #[(.int .i64 0), (.int .i64 0), (.int .i64 0)]) 24 rfl Try.underlying42 info59 rfl (by decide) (by omega) u11 x11_1 (⟨x13_1, a3, a4⟩ : S59) [.int .i64 x13_1, .int .i64 a3, .int .i64 a4] (fun _ => True) (fun _ => False) rfl rfl ?aP (fun _ hk => hk.elim) ?aF ?aO ?aB ?aS ?aL ?_; (case aP => exact k59_mkM _ _ _ (⟨x13_1, a3, a4⟩ : S59)); (case aB => exact (bel2 HB GE230 GE237)); (case aF => exact (fun _ _ => trivial)); (case aO => exact (rdl HO_11)); (case aS => exact (below_size (bel2 HB GE230 GE237))); (case aL => have := LMc62.out; omega); intro v251 w65 ho hb hg hat; rw [← Ny250.out] at ho; have n0_ := Aside0.mk (blk_grown (g := gb230) (o := .cells #[.slice (some ad234) l0_0.length c0_0] 31 (0, 0)) (bkl BK230) hg (Kd.R_ne HO_11.out BK230.out (by decide))); have n1_ := Aside0.mk (blk_grown (g := gb237) (o := .cells #[.string ((rd_T61 l1 (ji10)).f0), .int .i64 ((rd_T61 l1 (ji10)).f1), .int .i64 ((rd_T61 l1 (ji10)).f2), .int .i64 ((rd_T61 l1 (ji10)).f3), .int .i64 ((rd_T61 l1 (ji10)).f4)] 61 (0, 0)) (bkl BK237) hg (Kd.R_ne HO_11.out BK237.out (by decide))); have n2_ := Aside0.mk (hb); have n3_ := Aside0.mk (ho); clear BK230; clear BK237; clear HB; clear HO_11; have BK230 := n0_; have BK237 := n1_; have HB := n2_; have HO252 := n3_; clear n0_ n1_ n2_ n3_; clear ho hb hg hat)))
                go_roundg k1
                case measure => have := HK1.out; omega
                case rel => exact ⟨(y250), (wrap64 (x13_1 + 1)), (by first | rfl | (simp; done) | (simp [*]; done)), H', ⟨by have := HK1.out; omega⟩, ⟨rdl HO252⟩, ⟨bkl BK230⟩, ⟨bkl BK237⟩, ⟨bel2 HB GE230 GE237⟩⟩
               ·rw [if_neg c62] at H
                exact absurd H (by simp)
              ·rw [if_neg c61] at H
               have c61b0 : (((rd_T61 l1 (ji10)).f3) == 3) = false := beq_eq_false_iff_ne.mpr c61
               have c61b1 : (((rd_T61 l1 (ji10)).f3) != 3) = true := bne_iff_ne.mpr c61
               have H' := Aside0.mk H
               clear H
               have hnb66 := NB237_230.out
               have hnc66 := NB230_237.out
               have hcz67_0 : wr.cell? ⟨gb237, 0, none⟩ = some (.string ((rd_T61 l1 (ji10)).f0)) := (blk_cell BK237.out 0).trans rfl
               have hcz67_1 : wr.cell? ⟨gb237, 1, none⟩ = some (.int .i64 ((rd_T61 l1 (ji10)).f1)) := (blk_cell BK237.out 1).trans rfl
               have hcz67_2 : wr.cell? ⟨gb237, 2, none⟩ = some (.int .i64 ((rd_T61 l1 (ji10)).f2)) := (blk_cell BK237.out 2).trans rfl
               have hcz67_3 : wr.cell? ⟨gb237, 3, none⟩ = some (.int .i64 ((rd_T61 l1 (ji10)).f3)) := (blk_cell BK237.out 3).trans rfl
               have hcz67_4 : wr.cell? ⟨gb237, 4, none⟩ = some (.int .i64 ((rd_T61 l1 (ji10)).f4)) := (blk_cell BK237.out 4).trans rfl
               have hfz67_0 := blk_frozen BK237.out 0
               have hfz67_1 := blk_frozen BK237.out 1
               have hfz67_2 := blk_frozen BK237.out 2
               have hfz67_3 := blk_frozen BK237.out 3
               have hfz67_4 := blk_frozen BK237.out 4
               go_wp2
               repeat (go_quiet (fail); try go_wp2)
               go_roundg k1
               case measure => have := HK1.out; omega
               case rel => exact ⟨(x11_1), (wrap64 (x13_1 + 1)), (by first | rfl | (simp; done) | (simp [*]; done)), H', ⟨by have := HK1.out; omega⟩, ⟨rdl HO_11⟩, ⟨bkl BK230⟩, ⟨bkl BK237⟩, ⟨bel2 HB GE230 GE237⟩⟩
             ·rw [if_neg c60] at H
              have c60b0 : decide (0 < a4) = false := decide_eq_false c60
              clear c60
              have H' := Aside0.mk H
              clear H
              go_wp2
              repeat (go_quiet (fail); try go_wp2)
              go_roundg k1
              case measure => have := HK1.out; omega
              case rel => exact ⟨(x11_1), (wrap64 (x13_1 + 1)), (by first | rfl | (simp; done) | (simp [*]; done)), H', ⟨by have := HK1.out; omega⟩, ⟨rdl HO_11⟩, ⟨bkl BK230⟩, ⟨bkl BK237⟩, ⟨bel2 HB GE230 GE237⟩⟩
            ·rw [if_neg c59] at H
             have c59b0 : (x13_1 == 3) = false := beq_eq_false_iff_ne.mpr c59
             have c59b1 : (x13_1 != 3) = true := bne_iff_ne.mpr c59
             by_cases c68 : ((rd_T61 l1 (ji10)).f3) = 2
             ·rw [if_pos c68] at H
              have c68b0 : (((rd_T61 l1 (ji10)).f3) == 2) = true := beq_iff_eq.mpr c68
              have c68b1 : (((rd_T61 l1 (ji10)).f3) != 2) = false := bne_eq_false_iff_eq.mpr c68
              clear c68
              by_cases c69 : a3 ≥ a2
              ·rw [if_pos c69] at H
               have c69b0 : decide (a2 ≤ a3) = true := decide_eq_true c69
               clear c69
               by_cases c70 : x11_1.length < 5864062014805
               ·rw [if_pos c70] at H
                have LMc70 := Aside0.mk c70
                clear c70
                obtain ⟨y253, hy253⟩ : ∃ y_ : List (S59), y_ = (x11_1 ++ [(⟨x13_1, a3, a4⟩ : S59)]) := ⟨_, rfl⟩
                replace H : (spec_l7At.l0 k1 l1 a2 a3 a4 y253 (wrap64 (x13_1 + 1)) l0_0 ((rd_T61 l1 (ji10)).f0) ((rd_T61 l1 (ji10)).f1) ((rd_T61 l1 (ji10)).f2) ((rd_T61 l1 (ji10)).f3) ((rd_T61 l1 (ji10)).f4)) = some r := by first | (rw [hy253]; with_reducible exact H) | (have H2_ := (Option.bind_some _ _).symm.trans H; rw [hy253]; with_reducible exact H2_) | (have H2_ := (Option.bind_some _ _).symm.trans H; with_reducible exact H2_) | with_reducible exact H | (rw [hy253]; exact H) | exact H
                have Ny253 := Aside0.mk hy253
                clear hy253
                have H' := Aside0.mk H
                clear H
                have hnb71 := NB237_230.out
                have hnc71 := NB230_237.out
                have hcz72_0 : wr.cell? ⟨gb237, 0, none⟩ = some (.string ((rd_T61 l1 (ji10)).f0)) := (blk_cell BK237.out 0).trans rfl
                have hcz72_1 : wr.cell? ⟨gb237, 1, none⟩ = some (.int .i64 ((rd_T61 l1 (ji10)).f1)) := (blk_cell BK237.out 1).trans rfl
                have hcz72_2 : wr.cell? ⟨gb237, 2, none⟩ = some (.int .i64 ((rd_T61 l1 (ji10)).f2)) := (blk_cell BK237.out 2).trans rfl
                have hcz72_3 : wr.cell? ⟨gb237, 3, none⟩ = some (.int .i64 ((rd_T61 l1 (ji10)).f3)) := (blk_cell BK237.out 3).trans rfl
                have hcz72_4 : wr.cell? ⟨gb237, 4, none⟩ = some (.int .i64 ((rd_T61 l1 (ji10)).f4)) := (blk_cell BK237.out 4).trans rfl
                have hfz72_0 := blk_frozen BK237.out 0
                have hfz72_1 := blk_frozen BK237.out 1
                have hfz72_2 := blk_frozen BK237.out 2
                have hfz72_3 := blk_frozen BK237.out 3
                have hfz72_4 := blk_frozen BK237.out 4
                go_wp2_with (first | ((with_reducible refine gate_builtin (b := .append) (xs := #[.tmp 97, .tmp 102]) rfl ?_); at_builtin; refine Kd.R_append k59 (w0 := w) w.heap.size rfl (.tmp 97) (.tmp 102) 42 59 (.agg #[(.int .i64 0), (.int .i64 0), (.int .i64 0)]) 24 rfl Try.underlying42 info59 rfl (by decide) (by omega) u11 x11_1 (⟨x13_1, a3, a4⟩ : S59) [.int .i64 x13_1, .int .i64 a3, .int .i64 a4] (fun _ => True) (fun _ => False) rfl rfl ?aP (fun _ hk => hk.elim) ?aF ?aO ?aB ?aS ?aL ?_; (case aP => exact k59_mkM _ _ _ (⟨x13_1, a3, a4⟩ : S59)); (case aB => exact (bel2 HB GE230 GE237)); (case aF => exact (fun _ _ => trivial)); (case aO => exact (rdl HO_11)); (case aS => exact (below_size (bel2 HB GE230 GE237))); (case aL => have := LMc70.out; omega); intro v254 w73 ho hb hg hat; rw [← Ny253.out] at ho; have n0_ := Aside0.mk (blk_grown (g := gb230) (o := .cells #[.slice (some ad234) l0_0.length c0_0] 31 (0, 0)) (bkl BK230) hg (Kd.R_ne HO_11.out BK230.out (by decide))); have n1_ := Aside0.mk (blk_grown (g := gb237) (o := .cells #[.string ((rd_T61 l1 (ji10)).f0), .int .i64 ((rd_T61 l1 (ji10)).f1), .int .i64 ((rd_T61 l1 (ji10)).f2), .int .i64 ((rd_T61 l1 (ji10)).f3), .int .i64 ((rd_T61 l1 (ji10)).f4)] 61 (0, 0)) (bkl BK237) hg (Kd.R_ne HO_11.out BK237.out (by decide))); have n2_ := Aside0.mk (hb); have n3_ := Aside0.mk (ho); clear BK230; clear BK237; clear HB; clear HO_11; have BK230 := n0_; have BK237 := n1_; have HB := n2_; have HO255 := n3_; clear n0_ n1_ n2_ n3_; clear ho hb hg hat))
                repeat (go_quiet (first | ((with_reducible refine gate_builtin (b := .append) (xs := #[.tmp 97, .tmp 102]) rfl ?_); at_builtin; refine Kd.R_append k59 (w0 := w) w.heap.size rfl (.tmp 97) (.tmp 102) 42 59 (.agg #[(.int .i64 0), (.int .i64 0), (.int .i64 0)]) 24 rfl Try.underlying42 info59 rfl (by decide) (by omega) u11 x11_1 (⟨x13_1, a3, a4⟩ : S59) [.int .i64 x13_1, .int .i64 a3, .int .i64 a4] (fun _ => True) (fun _ => False) rfl rfl ?aP (fun _ hk => hk.elim) ?aF ?aO ?aB ?aS ?aL ?_; (case aP => exact k59_mkM _ _ _ (⟨x13_1, a3, a4⟩ : S59)); (case aB => exact (bel2 HB GE230 GE237)); (case aF => exact (fun _ _ => trivial)); (case aO => exact (rdl HO_11)); (case aS => exact (below_size (bel2 HB GE230 GE237))); (case aL => have := LMc70.out; omega); intro v254 w73 ho hb hg hat; rw [← Ny253.out] at ho; have n0_ := Aside0.mk (blk_grown (g := gb230) (o := .cells #[.slice (some ad234) l0_0.length c0_0] 31 (0, 0)) (bkl BK230) hg (Kd.R_ne HO_11.out BK230.out (by decide))); have n1_ := Aside0.mk (blk_grown (g := gb237) (o := .cells #[.string ((rd_T61 l1 (ji10)).f0), .int .i64 ((rd_T61 l1 (ji10)).f1), .int .i64 ((rd_T61 l1 (ji10)).f2), .int .i64 ((rd_T61 l1 (ji10)).f3), .int .i64 ((rd_T61 l1 (ji10)).f4)] 61 (0, 0)) (bkl BK237) hg (Kd.R_ne HO_11.out BK237.out (by decide))); have n2_ := Aside0.mk (hb); have n3_ := Aside0.mk (ho); clear BK230; clear BK237; clear HB; clear HO_11; have BK230 := n0_; have BK237 := n1_; have HB := n2_; have HO255 := n3_; clear n0_ n1_ n2_ n3_; clear ho hb hg hat)); try go_wp2_with (first | ((with_reducible refine gate_builtin (b := .append) (xs := #[.tmp 97, .tmp 102]) rfl ?_); at_builtin; refine Kd.R_append k59 (w0 := w) w.heap.size rfl (.tmp 97) (.tmp 102) 42 59 (.agg #[(.int .i64 0), (.int .i64 0), (.int .i64 0)]) 24 rfl Try.underlying42 info59 rfl (by decide) (by omega) u11 x11_1 (⟨x13_1, a3, a4⟩ : S59) [.int .i64 x13_1, .int .i64 a3, .int .i64 a4] (fun _ => True) (fun _ => False) rfl rfl ?aP (fun _ hk => hk.elim) ?aF ?aO ?aB ?aS ?aL ?_; (case aP => exact k59_mkM _ _ _ (⟨x13_1, a3, a4⟩ : S59)); (case aB => exact (bel2 HB GE230 GE237)); (case aF => exact (fun _ _ => trivial)); (case aO => exact (rdl HO_11)); (case aS => exact (below_size (bel2 HB GE230 GE237))); (case aL => have := LMc70.out; omega); intro v254 w73 ho hb hg hat; rw [← Ny253.out] at ho; have n0_ := Aside0.mk (blk_grown (g := gb230) (o := .cells #[.slice (some ad234) l0_0.length c0_0] 31 (0, 0)) (bkl BK230) hg (Kd.R_ne HO_11.out BK230.out (by decide))); have n1_ := Aside0.mk (blk_grown (g := gb237) (o := .cells #[.string ((rd_T61 l1 (ji10)).f0), .int .i64 ((rd_T61 l1 (ji10)).f1), .int .i64 ((rd_T61 l1 (ji10)).f2), .int .i64 ((rd_T61 l1 (ji10)).f3), .int .i64 ((rd_T61 l1 (ji10)).f4)] 61 (0, 0)) (bkl BK237) hg (Kd.R_ne HO_11.out BK237.out (by decide))); have n2_ := Aside0.mk (hb); have n3_ := Aside0.mk (ho); clear BK230; clear BK237; clear HB; clear HO_11; have BK230 := n0_; have BK237 := n1_; have HB := n2_; have HO255 := n3_; clear n0_ n1_ n2_ n3_; clear ho hb hg hat)))
                go_roundg k1
                case measure => have := HK1.out; omega
                case rel => exact ⟨(y253), (wrap64 (x13_1 + 1)), (by first | rfl | (simp; done) | (simp [*]; done)), H', ⟨by have := HK1.out; omega⟩, ⟨rdl HO255⟩, ⟨bkl BK230⟩, ⟨bkl BK237⟩, ⟨bel2 HB GE230 GE237⟩⟩
               ·rw [if_neg c70] at H
                exact absurd H (by simp)
              ·rw [if_neg c69] at H
               have c69b0 : decide (a2 ≤ a3) = false := decide_eq_false c69
               clear c69
               have H' := Aside0.mk H
               clear H
               have hnb74 := NB237_230.out
               have hnc74 := NB230_237.out
               have hcz75_0 : wr.cell? ⟨gb237, 0, none⟩ = some (.string ((rd_T61 l1 (ji10)).f0)) := (blk_cell BK237.out 0).trans rfl
               have hcz75_1 : wr.cell? ⟨gb237, 1, none⟩ = some (.int .i64 ((rd_T61 l1 (ji10)).f1)) := (blk_cell BK237.out 1).trans rfl
               have hcz75_2 : wr.cell? ⟨gb237, 2, none⟩ = some (.int .i64 ((rd_T61 l1 (ji10)).f2)) := (blk_cell BK237.out 2).trans rfl
               have hcz75_3 : wr.cell? ⟨gb237, 3, none⟩ = some (.int .i64 ((rd_T61 l1 (ji10)).f3)) := (blk_cell BK237.out 3).trans rfl
               have hcz75_4 : wr.cell? ⟨gb237, 4, none⟩ = some (.int .i64 ((rd_T61 l1 (ji10)).f4)) := (blk_cell BK237.out 4).trans rfl
               have hfz75_0 := blk_frozen BK237.out 0
               have hfz75_1 := blk_frozen BK237.out 1
               have hfz75_2 := blk_frozen BK237.out 2
               have hfz75_3 := blk_frozen BK237.out 3
               have hfz75_4 := blk_frozen BK237.out 4
               go_wp2
               repeat (go_quiet (fail); try go_wp2)
               go_roundg k1
               case measure => have := HK1.out; omega
               case rel => exact ⟨(x11_1), (wrap64 (x13_1 + 1)), (by first | rfl | (simp; done) | (simp [*]; done)), H', ⟨by have := HK1.out; omega⟩, ⟨rdl HO_11⟩, ⟨bkl BK230⟩, ⟨bkl BK237⟩, ⟨bel2 HB GE230 GE237⟩⟩
             ·rw [if_neg c68] at H
              have c68b0 : (((rd_T61 l1 (ji10)).f3) == 2) = false := beq_eq_false_iff_ne.mpr c68
              have c68b1 : (((rd_T61 l1 (ji10)).f3) != 2) = true := bne_iff_ne.mpr c68
              have H' := Aside0.mk H
              clear H
              have hnb76 := NB237_230.out
              have hnc76 := NB230_237.out
              have hcz77_0 : wr.cell? ⟨gb237, 0, none⟩ = some (.string ((rd_T61 l1 (ji10)).f0)) := (blk_cell BK237.out 0).trans rfl
              have hcz77_1 : wr.cell? ⟨gb237, 1, none⟩ = some (.int .i64 ((rd_T61 l1 (ji10)).f1)) := (blk_cell BK237.out 1).trans rfl
              have hcz77_2 : wr.cell? ⟨gb237, 2, none⟩ = some (.int .i64 ((rd_T61 l1 (ji10)).f2)) := (blk_cell BK237.out 2).trans rfl
              have hcz77_3 : wr.cell? ⟨gb237, 3, none⟩ = some (.int .i64 ((rd_T61 l1 (ji10)).f3)) := (blk_cell BK237.out 3).trans rfl
              have hcz77_4 : wr.cell? ⟨gb237, 4, none⟩ = some (.int .i64 ((rd_T61 l1 (ji10)).f4)) := (blk_cell BK237.out 4).trans rfl
              have hfz77_0 := blk_frozen BK237.out 0
              have hfz77_1 := blk_frozen BK237.out 1
              have hfz77_2 := blk_frozen BK237.out 2
              have hfz77_3 := blk_frozen BK237.out 3
              have hfz77_4 := blk_frozen BK237.out 4
              go_wp2
              repeat (go_quiet (fail); try go_wp2)
              go_roundg k1
              case measure => have := HK1.out; omega
              case rel => exact ⟨(x11_1), (wrap64 (x13_1 + 1)), (by first | rfl | (simp; done) | (simp [*]; done)), H', ⟨by have := HK1.out; omega⟩, ⟨rdl HO_11⟩, ⟨bkl BK230⟩, ⟨bkl BK237⟩, ⟨bel2 HB GE230 GE237⟩⟩
         ·rw [if_neg c20] at H
          have c20b0 : decide (x13_1 ≤ 4) = false := decide_eq_false c20
          clear c20
          obtain rfl := Option.some.inj H
          go_wp2
          repeat (go_quiet (fail); try go_wp2)
          go_ret
          exact ⟨_, by first | rfl | (simp [errW_none, errW_some] <;> rfl) | (simp only [← hji10]; first | rfl | (simp [errW_none, errW_some] <;> rfl)) | (simp [*, errW_none, errW_some] <;> rfl), rdl HO_11, bel2 HB GE230 GE237⟩
      ·rw [if_neg c12] at H
       exact absurd H (by simp)
     ·rw [if_neg c11] at H
      exact absurd H (by simp)
    ·rw [if_neg c9] at H
     exact absurd H (by simp)
   ·rw [if_neg c8] at H
    exact absurd H (by simp)
  ·rw [if_neg c7] at H
   exact absurd H (by simp)
 ·rw [if_neg c6] at H
  exact absurd H (by simp)

end Go.Proofs.Ytgeakpogmjbjkaa.P
