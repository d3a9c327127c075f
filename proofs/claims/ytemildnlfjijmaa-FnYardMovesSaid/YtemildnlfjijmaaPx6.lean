-- Written by a program of this session over the translation (a variant of the printer, see wip/gen); Lean checks it.
import Derived.Test.YtemildnlfjijmaaVC
import Derived.Test.YtemildnlfjijmaaPx0
import Derived.Test.YtemildnlfjijmaaPx1
import Derived.Test.YtemildnlfjijmaaPx5
namespace Go.Proofs.Ytemildnlfjijmaa.P
open Go.RowKit Go.Proofs.YtemildnlfjijmaaW.PrintWords Go.Proofs.YtemildnlfjijmaaW.PrintLast Go.Proofs.YtemildnlfjijmaaW.PrintMore
attribute [local go_sem] Go.Proofs.Ytemildnlfjijmaa.V.isSome_setCell max2_int min2_int max_two min_two max_three min_three max_four min_four
set_option linter.unusedVariables false
set_option linter.unusedSimpArgs false
/-! ### spec_l1Cur_anyYard: function 34 -/
def spec_l1Cur_anyYard.l0 : Nat → Int → List Int → Int → Int → List (List Int) → Option ((List (List Int)) × Int × Int)
 | 0, _, _, _, _, _ => none
 | k + 1, x5, x1000, x1001, x1002, x322000 => (spec_l1Cur_pick.f x1000 x1001 x1002 2).bind fun bt346 => (if (x322000.length : Int) < (wrap64 (6 + bt346.1)) then (if x5 < 8 then (if x322000.length < 5864062014805 then (spec_l1Cur_anyYard.l0 k (wrap64 (x5 + 1)) x1000 bt346.2.1 bt346.2.2 (x322000 ++ [(([wrap64 (40 + x5)] : List Int))])) else (none)) else (some (x322000, bt346.2.1, bt346.2.2))) else (some (x322000, bt346.2.1, bt346.2.2)))
def spec_l1Cur_anyYard.f (k : Nat) (s0_0 : List Int) (s0_1 : Int) (s0_2 : Int) : Option ((List (List Int)) × Int × Int) := (spec_l1Cur_yard.f k s0_0 s0_1 s0_2).bind fun bt316 => ((spec_l1Cur_pick.f s0_0 bt316.2.1 bt316.2.2 (bt316.1.length : Int)).bind fun bt322 => ((spec_l1Cur_pick.f s0_0 bt322.2.1 bt322.2.2 24).bind fun bt325 => (if bt325.1 = 0 then (if 0 ≤ bt322.1 then (if bt322.1 < (bt316.1.length : Int) then ((spec_l1Cur_among.f s0_0 bt325.2.1 bt325.2.2 (([0, 100, 99, 1] : List Int))).bind fun bt332 => (if (rd_L4 bt316.1 bt322.1).length < 17592186044416 then (some ((bt316.1.set (bt322.1 : Int).toNat ((rd_L4 bt316.1 bt322.1) ++ [bt332.1])), bt332.2.1, bt332.2.2)) else (none))) else (none)) else (none)) else (if bt325.1 = 1 then (if 0 ≤ bt322.1 then (if bt322.1 < (bt316.1.length : Int) then (some ((bt316.1.set (bt322.1 : Int).toNat (([21, 22, 23, 24, 25] : List Int))), bt325.2.1, bt325.2.2)) else (none)) else (none)) else (if bt325.1 = 2 then (some ((([] : List (List Int))), bt325.2.1, bt325.2.2)) else (if bt325.1 = 3 then (spec_l1Cur_anyYard.l0 k 0 s0_0 bt325.2.1 bt325.2.2 bt316.1) else (some (bt316.1, bt325.2.1, bt325.2.2))))))))
def spec_l1Cur_anyYard.T5 : Bool × List (List Nat × List Nat) := (true, [([], []), ([0], [0]), ([], []), ([], []), ([3], [3]), ([], []), ([4, 5], [4, 5]), ([6], [6]), ([], []), ([], []), ([8, 9], [8, 9]), ([10], [10]), ([7, 11, 10], [7, 11]), ([1, 2, 0, 1, 2, 3, 4, 5, 6, 7, 8, 9, 10, 11, 12], [1, 2]), ([13, 12, 12, 0, 1, 2, 3, 4, 5, 6, 7, 8, 9, 10, 11, 12], [12, 13])])
def spec_l1Cur_anyYard.B5 : List Nat := [0, 1, 0, 0, 8, 0, 56, 120, 0, 0, 768, 1792, 4088, 8191, 16383]
theorem spec_l1Cur_anyYard.tab5 : rtab .any (opsOf Try.f34 5) = spec_l1Cur_anyYard.T5 := by kernel_rfl
theorem spec_l1Cur_anyYard.bits5 : waitsOk spec_l1Cur_anyYard.T5.2 spec_l1Cur_anyYard.B5 = true := by kernel_rfl
def spec_l1Cur_anyYard.T12 : Bool × List (List Nat × List Nat) := (true, [([], []), ([0], [0]), ([1], [1]), ([], []), ([3], [3]), ([4], [4]), ([2, 5], [2, 5]), ([6, 4], [6]), ([7], [7]), ([8, 7], [7, 8]), ([7, 9], [7, 9])])
def spec_l1Cur_anyYard.B12 : List Nat := [0, 1, 3, 0, 8, 24, 63, 127, 255, 511, 1023]
theorem spec_l1Cur_anyYard.tab12 : rtab .any (opsOf Try.f34 12) = spec_l1Cur_anyYard.T12 := by kernel_rfl
theorem spec_l1Cur_anyYard.bits12 : waitsOk spec_l1Cur_anyYard.T12.2 spec_l1Cur_anyYard.B12 = true := by kernel_rfl
set_option maxHeartbeats 8000000 in
set_option maxRecDepth 100000 in
theorem spec_l1Cur_anyYard.calls (k : Nat) (g : Nat) (s0_0 : List Int) (s0_1 : Int) (s0_2 : Int) (r1 : List (List Int)) (r2 : Int) (r3 : Int) (w0 w : World) (hI : IsS47 w0 w g s0_0 s0_1 s0_2) (hB : Below w0.heap.size w0 w) (h : spec_l1Cur_anyYard.f k s0_0 s0_1 s0_2 = some (r1, r2, r3)) :
  Calls Try.prog 34 #[.pointer (some ⟨g, 0, none⟩)] w fun e w' => ∃ v0_ : Value, e = .returned (.agg #[v0_]) ∧ Kd.S (Kd.slice 3 (Kd.int .i64)) 30 w' w.heap.size (fun _ => True) v0_ r1 ∧ IsS47 w0 w' g s0_0 r2 r3 ∧ Below w0.heap.size w0 w' ∧ KeepBut w w' g none := by
 have hu26 := Try.underlying26
 have HI0 := Aside0.mk hI
 have HK := Aside0.mk (KeepBut.refl w g none)
 have HL := Aside0.mk hB.size
 clear hI
 have HW0 := Aside0.mk hB.size
 have HB := Aside0.mk hB
 clear hB
 have H : ((spec_l1Cur_yard.f k s0_0 s0_1 s0_2).bind fun bt316 => ((spec_l1Cur_pick.f s0_0 bt316.2.1 bt316.2.2 (bt316.1.length : Int)).bind fun bt322 => ((spec_l1Cur_pick.f s0_0 bt322.2.1 bt322.2.2 24).bind fun bt325 => (if bt325.1 = 0 then (if 0 ≤ bt322.1 then (if bt322.1 < (bt316.1.length : Int) then ((spec_l1Cur_among.f s0_0 bt325.2.1 bt325.2.2 (([0, 100, 99, 1] : List Int))).bind fun bt332 => (if (rd_L4 bt316.1 bt322.1).length < 17592186044416 then (some ((bt316.1.set (bt322.1 : Int).toNat ((rd_L4 bt316.1 bt322.1) ++ [bt332.1])), bt332.2.1, bt332.2.2)) else (none))) else (none)) else (none)) else (if bt325.1 = 1 then (if 0 ≤ bt322.1 then (if bt322.1 < (bt316.1.length : Int) then (some ((bt316.1.set (bt322.1 : Int).toNat (([21, 22, 23, 24, 25] : List Int))), bt325.2.1, bt325.2.2)) else (none)) else (none)) else (if bt325.1 = 2 then (some ((([] : List (List Int))), bt325.2.1, bt325.2.2)) else (if bt325.1 = 3 then (spec_l1Cur_anyYard.l0 k 0 s0_0 bt325.2.1 bt325.2.2 bt316.1) else (some (bt316.1, bt325.2.1, bt325.2.2))))))))) = some (r1, r2, r3) := h
 clear h
 obtain ⟨⟨t316, t319, t320⟩, A2, H⟩ := bnd H
 try dsimp only at H
 obtain ⟨⟨t322, t323, t324⟩, A3, H⟩ := bnd H
 try dsimp only at H
 obtain ⟨⟨t325, t326, t327⟩, A4, H⟩ := bnd H
 try dsimp only at H
 by_cases c5 : t325 = 0
 ·rw [if_pos c5] at H
  have c5b0 : (t325 == 0) = true := beq_iff_eq.mpr c5
  have c5b1 : (t325 != 0) = false := bne_eq_false_iff_eq.mpr c5
  clear c5
  by_cases c6 : 0 ≤ t322
  rotate_left
  ·rw [if_neg c6] at H
   exact absurd H (by simp)
  rw [if_pos c6] at H
  have c6b0 : decide (0 ≤ t322) = true := decide_eq_true c6
  clear c6
  by_cases c7 : t322 < (t316.length : Int)
  rotate_left
  ·rw [if_neg c7] at H
   exact absurd H (by simp)
  rw [if_pos c7] at H
  have c7b0 : decide (t322 < (t316.length : Int)) = true := decide_eq_true c7
  clear c7
  obtain ⟨y329, hy329⟩ : ∃ y_ : List Int, y_ = (([0, 100, 99, 1] : List Int)) := ⟨_, rfl⟩
  replace H : ((spec_l1Cur_among.f s0_0 t326 t327 y329).bind fun bt332 => (if (rd_L4 t316 t322).length < 17592186044416 then (some ((t316.set (t322 : Int).toNat ((rd_L4 t316 t322) ++ [bt332.1])), bt332.2.1, bt332.2.2)) else (none))) = some (r1, r2, r3) := by (rw [hy329]; with_reducible exact H) 
  have Ny329 := Aside0.mk hy329
  clear hy329
  obtain ⟨⟨t332, t333, t334⟩, A8, H⟩ := bnd H
  try dsimp only at H
  by_cases c9 : (rd_L4 t316 t322).length < 17592186044416
  rotate_left
  ·rw [if_neg c9] at H
   exact absurd H (by simp)
  rw [if_pos c9] at H
  have LMc9 := Aside0.mk c9
  clear c9
  obtain ⟨y335, hy335⟩ : ∃ y_ : List Int, y_ = ((rd_L4 t316 t322) ++ [t332]) := ⟨_, rfl⟩
  replace H : (some ((t316.set (t322 : Int).toNat y335), t333, t334)) = some (r1, r2, r3) := by (rw [hy335]; with_reducible exact H) 
  have Ny335 := Aside0.mk hy335
  clear hy335
  obtain ⟨y338, hy338⟩ : ∃ y_ : List (List Int), y_ = (t316.set (t322 : Int).toNat y335) := ⟨_, rfl⟩
  replace H : (some (y338, t333, t334)) = some (r1, r2, r3) := by (rw [hy338]; with_reducible exact H) 
  have Ny338 := Aside0.mk hy338
  clear hy338
  simp only [Option.some.injEq, Prod.mk.injEq] at H
  obtain ⟨rfl, rfl, rfl⟩ := H
  go_enter Try.func34, Try.ntmps34
  try go_wp2_with (first | ((with_reducible refine gate_dst (N := 2) rfl ?_); refine box_event ?hg (N := 2) ?hd (cs := #[.slice none 0 0]) (t := 26) ?hr ?_; (case hd | hg => rfl); (case hr => go_simp); intro gb315 hg w11 hbox hb; replace HB := Aside0.mk (below_step (belA HB) hb); have BK315 := Aside0.mk (hbox); have GW315 := gsk hg (kee HK); have GE315 := gswk HW0 hg (kee HK); replace HK := Aside0.mk (KeepBut.trans (kee HK) (KeepBut.of_below hb g none) (.inl rfl)); have NB0_315 := nll hg (IsS47.lt (IsS47.to HI0)); have NB315_0 := nlr hg (IsS47.lt (IsS47.to HI0)); replace HI0 := Aside0.mk (IsS47.below (IsS47.to HI0) hb); clear hb hbox hg) | ((with_reducible refine gate_callee (f := 51) rfl ?_); refine goesL_ (some 7) rfl rfl Try.func51 (by kernel_rfl) rfl #[.pointer (some ⟨g, 0, none⟩)] rfl gmp ?_; (with_reducible refine (spec_l1Cur_yard.calls k g s0_0 s0_1 s0_2 t316 t319 t320 w0 _ ?side1 ?side2 A2.out).mono ?_); (case side1 => exact IsS47.to HI0); (case side2 => exact belA HB); rintro e w12 ⟨v317, rfl, ho0, hi, hb, hk⟩; refine ⟨_, rfl, ?_⟩; replace BK315 := kbk hk BK315 NB315_0; have HO318 := Aside0.mk (Kd.S_lower ho0 (keep_size (w := w) (g := g) (row := none) (kee HK))); replace HK := Aside0.mk (KeepBut.trans (kee HK) hk (.inl rfl)); replace HB := Aside0.mk (hb); replace HI0 := Aside0.mk (hi); (try clear hb); (try clear hk); (try clear hi); (try clear ho0)) | ((with_reducible refine gate_dst (N := 3) rfl ?_); refine box_event ?hg (N := 3) ?hd (cs := #[.slice none 0 0]) (t := 26) ?hr ?_; (case hd | hg => rfl); (case hr => go_simp); intro gb321 hg w13 hbox hb; replace HO318 := Aside0.mk (Kd.S_below (sdl HO318) hb); replace HB := Aside0.mk (below_step (belA HB) hb); have BK321 := Aside0.mk (hbox); have GW321 := gsk hg (kee HK); have GE321 := gswk HW0 hg (kee HK); replace HK := Aside0.mk (KeepBut.trans (kee HK) (KeepBut.of_below hb g none) (.inl rfl)); have NB315_321 := nbl hg BK315; have NB321_315 := nbr hg BK315; replace BK315 := bkb BK315 hb; have NB0_321 := nll hg (IsS47.lt (IsS47.to HI0)); have NB321_0 := nlr hg (IsS47.lt (IsS47.to HI0)); replace HI0 := Aside0.mk (IsS47.below (IsS47.to HI0) hb); clear hb hbox hg; obtain ⟨Ao14, co14, eo14⟩ := Kd.S_slice HO318.out; subst eo14; have hnb15 := NB321_315.out; have hnc15 := NB315_321.out; have hnb16 := NB321_0.out; have hnc16 := NB0_321.out; obtain ⟨_, _⟩ := bf1 BK321) | ((with_reducible refine gate_callee (f := 16) rfl ?_); refine goesL_ (some 12) rfl rfl Try.func16 (by kernel_rfl) rfl #[.pointer (some ⟨g, 0, none⟩), .int .i64 (t316.length : Int)] rfl gmp ?_; (with_reducible refine (spec_l1Cur_pick.calls g s0_0 t319 t320 (t316.length : Int) t322 t323 t324 w0 _ ?side1 ?side2 A3.out).mono ?_); (case side1 => exact IsS47.to HI0); (case side2 => exact belA HB); rintro e w18 ⟨rfl, hi, hb, hk⟩; refine ⟨_, rfl, ?_⟩; replace BK315 := Aside0.mk (KeepBut.blk hk (g' := gb315) (o := .cells #[.slice none 0 0] 26 (0, 0)) (blk_far BK315.out NB315_321.out _) NB315_0.out (by simp)); replace HO318 := Aside0.mk (Kd.S_mono (Kd.S_keep (IsS47.apartS (show IsS47 w0 _ g s0_0 t319 t320 from IsS47.to HI0) (by exact (Kd.S_mono (Kd.S_far (p := ⟨gb321, 0, none⟩) (Kd.S_types HO318.out BK321.out (by decide)) (fun _ hk => hk.2) (.slice Ao14 t316.length co14)) (fun _ h_ => h_.1))) (by decide)) hk (fun _ h => h.2)) (fun _ h => h.1)); replace BK321 := Aside0.mk (KeepBut.blk hk (g' := gb321) (o := .cells #[.slice Ao14 t316.length co14] 26 (0, 0)) (blk_put BK321.out 0 _ rfl) NB321_0.out (by simp)); replace HK := Aside0.mk (KeepBut.trans (kee HK) hk (.inl rfl)); replace HB := Aside0.mk (hb); replace HI0 := Aside0.mk (hi); clear hb hk hi) | ((with_reducible refine gate_callee (f := 16) rfl ?_); refine goesL_ (some 14) rfl rfl Try.func16 (by kernel_rfl) rfl #[.pointer (some ⟨g, 0, none⟩), .int .i64 24] rfl gmp ?_; (with_reducible refine (spec_l1Cur_pick.calls g s0_0 t323 t324 24 t325 t326 t327 w0 _ ?side1 ?side2 A4.out).mono ?_); (case side1 => exact IsS47.to HI0); (case side2 => exact belA HB); rintro e w19 ⟨rfl, hi, hb, hk⟩; refine ⟨_, rfl, ?_⟩; replace BK315 := kbk hk BK315 NB315_0; replace HO318 := Aside0.mk (Kd.S_mono (Kd.S_keep (IsS47.apartS (show IsS47 w0 _ g s0_0 t323 t324 from IsS47.to HI0) (sdl HO318) (by decide)) hk (fun _ h => h.2)) (fun _ h => h.1)); replace BK321 := kbk hk BK321 NB321_0; replace HK := Aside0.mk (KeepBut.trans (kee HK) hk (.inl rfl)); replace HB := Aside0.mk (hb); replace HI0 := Aside0.mk (hi); clear hb hk hi))
  have n0_ := Aside0.mk (Kd.S_drew HO318.out)
  have n1_ := Aside0.mk (blk_drew BK315.out)
  have n2_ := Aside0.mk (blk_drew BK321.out)
  have n3_ := Aside0.mk (IsS47.drew HI0.out)
  have n4_ := Aside0.mk (keep_drew HK.out)
  have n5_ := Aside0.mk (below_drew1 HB.out)
  clear HO318 BK315 BK321 HI0 HK HB
  have HO318 := n0_
  have BK315 := n1_
  have BK321 := n2_
  have HI0 := n3_
  have HK := n4_
  have HB := n5_
  clear n0_ n1_ n2_ n3_ n4_ n5_
  have p328 : 0 ≤ (t322 : Int) := oda
  have q328 : t322 < (t316.length : Int) := oda
  obtain ⟨ad328, A328_0, c328_0, e328, hx328_0, hl328_0, hi328_0⟩ := at_L4 (Kd.S_reads' HO318.out).2.2 t322 p328 q328
  cases e328
  obtain ⟨ce328, hce328, hMe328, hcc328⟩ := Kd.S_get HO318.out [] t322 p328 (by exact q328 )
  obtain ⟨ve328_0, rfl, ge328_0⟩ := hMe328
  have hv328_0 := hcc328 0 _ rfl
  rw [Nat.add_zero, show ((Kd.slice 3 (Kd.int .i64))).sz = 1 from rfl, Nat.mul_one] at hv328_0
  replace hv328_0 := Option.some.inj (hv328_0.symm.trans hx328_0)
  rw [hv328_0] at ge328_0
  have HL328_0 := Aside0.mk (show Kd.R (Kd.int .i64) 3 _ _ _ _ (rd_L4 t316 t322) from ge328_0)
  clear hv328_0 ge328_0
  have HX328_0 := Aside0.mk hx328_0
  clear hcc328 hce328
  have HR328_0 := Aside0.mk hi328_0
  have HC328_0 := Aside0.mk hl328_0
  clear hi328_0 hl328_0
  replace p328 := eq_true p328
  replace q328 := eq_true q328
  refine start_ (n := 15) (S := fun w' => w'.cell? ⟨gb321, 0, none⟩ = some (.slice (some ad328) t316.length co14) ∧ w'.cell? (ad328.add (t322).toNat) = some (.slice A328_0 (rd_L4 t316 t322).length c328_0)) (ds := [14]) #[false, false, false, false, false, false, false, false, false, false, false, false, false, false, false] (by kernel_rfl) rfl rfl ⟨(blk_cell BK321.out 0).trans rfl, hx328_0⟩ (fun hHeld => ?_); refine with_tabW spec_l1Cur_anyYard.tab5 spec_l1Cur_anyYard.bits5 (fun HT_ HW_ => ?_)
  generalize w19.drew = w20 at HO318 BK315 BK321 HI0 HK HB HL328_0 HR328_0 HX328_0 hx328_0 hHeld ⊢
  refine pu 0 (some 17) (bx 15 1) (h := ?_)
  refine pu 2 (some 19) (bx 15 5) (h := ?_)
  refine pu 3 (some 20) (bx 15 13) (h := ?_)
  refine pu 5 (some 22) (bx 15 45) (h := ?_)
  refine pu 8 (some 25) (bx 15 301) (h := ?_)
  refine tk2 1 (some 18) (bx 15 303) (h := ?_)
  refine tk2 4 (some 21) (bx 15 319) (h := ?_)
  refine pu 6 (some 23) (bx 15 383) (h := ?_)
  refine tk2 7 (some 24) (bx 15 511) (h := ?_)
  refine on 9 (some 26) (bx 15 1023) (h := fun K hK => ?_)
  refine Kd.R_lit_step (Kd.int .i64) _ 3 ?hg (N := 26) ?hd (xs := ([0, 100, 99, 1] : List Int)) (inner := [.int .i64 0, .int .i64 100, .int .i64 99, .int .i64 1]) (ok := fun _ => True) (okp := fun _ => True) ?hr ?hp (fun _ hk => hk) trivial (Below.refl _ _) (Nat.le_refl _) (by simp) ?_; (case hd | hg => rfl); (case hr => go_simp); (case hp => exact (Reps.one (show Kd.M (Kd.int .i64) _ _ _ 0 [.int .i64 0] from rfl) (Reps.one (show Kd.M (Kd.int .i64) _ _ _ 100 [.int .i64 100] from rfl) (Reps.one (show Kd.M (Kd.int .i64) _ _ _ 99 [.int .i64 99] from rfl) (Reps.one (show Kd.M (Kd.int .i64) _ _ _ 1 [.int .i64 1] from rfl) (Reps.none _ _))))))
  intro v330 w21 ho22 hb hg_ hnew_
  have HS1_ := (hb.cell (World.block_lt_of_cell? _ _ (hHeld.2))).trans (hHeld.2)
  clear hg_ hnew_
  (rw [← Ny329.out] at ho22 )
  have n0_ := Aside0.mk (Kd.S_elder' (sdl HO318) (Kd.R_base ho22) hb)
  have n1_ := Aside0.mk (Kd.R_elder' (rdl HL328_0) (Kd.R_base ho22) hb)
  have n2_ := Aside0.mk (Kd.R_lower (Kd.R_new' ho22 (Kd.R_lt (rdl HL328_0))) (keep_size (w := w) (g := g) (row := none) (kee HK)))
  have n3_ := Aside0.mk (IsS47.below (IsS47.to HI0) hb)
  have n4_ := bkb BK315 hb
  have n5_ := bkb BK321 hb
  have n6_ := Aside0.mk (Kd.C_below (by repeat ((with_reducible exact HR328_0.out) )) hb)
  have n7_ := Aside0.mk (pw_cell_below hb HX328_0.out)
  have n8_ := Aside0.mk (KeepBut.trans (kee HK) (KeepBut.of_below hb g none) (.inl rfl))
  have n9_ := Aside0.mk (below_step (belA HB) hb)
  clear HO318 HL328_0 HI0 BK315 BK321 HR328_0 HX328_0 HK HB
  have HO318 := n0_
  have HL328_0 := n1_
  have HO331 := n2_
  have HI0 := n3_
  have BK315 := n4_
  have BK321 := n5_
  have HR328_0 := n6_
  have HX328_0 := n7_
  have HK := n8_
  have HB := n9_
  clear n0_ n1_ n2_ n3_ n4_ n5_ n6_ n7_ n8_ n9_ hb ho22
  obtain ⟨Ao23, co23, eo23⟩ := Kd.R_slice HO331.out
  (subst eo23 )
  refine hK.out _ _ ⟨(blk_cell BK321.out 0).trans rfl, HS1_⟩ (fun hHeld => ?_)
  clear hK K
  refine nm 26 (h := ?_)
  refine on 10 (some 27) (bx 15 2047) (h := fun K hK => ?_)
  refine goes_ Try.func35 (by kernel_rfl) rfl #[.pointer (some ⟨g, 0, none⟩), .slice Ao23 y329.length co23] (by rfl) rfl rfl gmp ?_
  with_reducible refine (spec_l1Cur_among.calls g s0_0 t326 t327 _ _ y329 t332 t333 t334 w0 _ ?side1 ?side2 ?side3 ?side4 ?side5 A8.out).mono ?_
  (case side1 => exact IsS47.to HI0)
  (case side2 => exact belA HB)
  (case side3 => repeat (exact (Kd.R_reads' HO331.out).2.2 ))
  (case side4 => exact (Kd.R_reads' HO331.out).2.1)
  (case side5 => exact far_slice (IsS47.own_ne HI0.out HO331.out (by decide)))
  rintro e w24 ⟨rfl, hi, hb, hk⟩
  have HS1_ := keep_cell hk (hHeld.2) (by (rw [add_block]; exact Kd.own_blk (IsS47.own_neS HI0.out HO318.out (by decide))) )
  refine ⟨_, rfl, ?_⟩
  have n0_ := kbk hk BK315 NB315_0
  have n1_ := Aside0.mk (Kd.S_mono (Kd.S_keep (IsS47.apartS (show IsS47 w0 _ g s0_0 t326 t327 from IsS47.to HI0) (sdl HO318) (by decide)) hk (fun _ h => h.2)) (fun _ h => h.1))
  have n2_ := kbk hk BK321 NB321_0
  have n3_ := Aside0.mk (Kd.R_mono (Kd.R_keep (IsS47.apart (show IsS47 w0 _ g s0_0 t326 t327 from IsS47.to HI0) (rdl HL328_0) (by decide)) hk (fun _ h => h.2)) (fun _ h => h.1))
  have n4_ := Aside0.mk (keep_cell hk HX328_0.out (by (rw [add_block]; exact Kd.own_blk (IsS47.own_neS HI0.out HO318.out (by decide))) ))
  have n5_ := Aside0.mk (Kd.R_mono (Kd.R_keep (IsS47.apart (show IsS47 w0 _ g s0_0 t326 t327 from IsS47.to HI0) (rdl HO331) (by decide)) hk (fun _ h => h.2)) (fun _ h => h.1))
  have n6_ := Aside0.mk (KeepBut.trans (kee HK) hk (.inl rfl))
  have n7_ := Aside0.mk (hb)
  have n8_ := Aside0.mk (hi)
  clear BK315 HO318 BK321 HL328_0 HX328_0 HO331 HK HB HI0
  have BK315 := n0_
  have HO318 := n1_
  have BK321 := n2_
  have HL328_0 := n3_
  have HX328_0 := n4_
  have HO331 := n5_
  have HK := n6_
  have HB := n7_
  have HI0 := n8_
  clear n0_ n1_ n2_ n3_ n4_ n5_ n6_ n7_ n8_
  (try clear hb)
  (try clear hk)
  (try clear hi)
  have n_ := Aside0.mk (Kd.S_mono (ok' := (fun k_ => some k_ ≠ (.slice Ao23 y329.length co23 : Value).ownBlock)) HO318.out (fun k_ hk => hk.2))
  clear HO318
  have HO318 := n_
  clear n_
  obtain ⟨go25, co25, eo25, gb25, gl25, cl25, HG25⟩ := Kd.S_form HO318.out (by have h_ : (t322 : Int) < ((t316.length : Int) : Int) := oda; have h2_ : 0 ≤ (t322 : Int) := (oda); omega)
  (cases eo25 )
  have GB25 := Aside0.mk gb25
  have GG25 := Aside0.mk HG25
  clear gb25 gl25 HG25
  (simp only [add_plain] at hx328_0 )
  obtain ⟨oki25, ce25, hcl25, hM25, hcc25, _, _, hH25⟩ := Kd.S_elem HO318.out [] (t322 : Int) (oda) (by have h_ : (t322 : Int) < ((t316.length : Int) : Int) := oda; exact h_ )
  obtain ⟨ve25_0, rfl, ge25_0⟩ := hM25
  have hv25 := hcc25 0 _ rfl
  have hX25 := HX328_0.out
  (try simp only [add_plain] at hX25)
  (try simp only [Nat.add_zero] at hv25)
  (try rw [show ((Kd.slice 3 (Kd.int .i64))).sz = 1 from rfl, Nat.mul_one] at hv25)
  replace hv25 := Option.some.inj (hv25.symm.trans hX25)
  subst hv25
  clear hX25 hcc25 hcl25
  have UU25 := Aside0.mk (show Kd.R (Kd.int .i64) 3 _ w.heap.size oki25 (.slice A328_0 (rd_L4 t316 t322).length c328_0) (rd_L4 t316 t322) from ge25_0)
  have HH25 := Aside0.mk hH25
  have HN25 := Aside0.mk (Kd.S_reads' HO318.out).1
  clear hH25 ge25_0
  refine hK.out _ _ ⟨(blk_cell BK321.out 0).trans rfl, HS1_⟩ (fun hHeld => ?_)
  clear hK K
  refine nm 27 (h := ?_)
  refine on 11 (some 28) (bx 15 4095) (h := fun K hK => ?_)
  refine value_ (w1 := ?_) (v := ?_) (by rfl) rfl ?_ ?_
  rotate_left 2
  ·go_simp
   constructor
   ·rfl
   rfl
  refine hK.out _ _ ⟨(blk_cell (blk_alloc BK321.out _) 0).trans rfl, (World.cell?_alloc_lt _ _ _ (World.block_lt_of_cell? _ _ (hHeld.2))).trans (hHeld.2)⟩ (fun hHeld => ?_)
  clear hK K
  refine nm 28 (h := ?_)
  refine on 12 (some 29) (bx 15 8191) (h := fun K hK => ?_)
  refine Kd.R_append_step (Kd.int .i64) w.heap.size (by rfl) (.tmp 24) (.tmp 28) 30 3 (.int .i64 0) 8 rfl Try.underlying30 info3 rfl (by decide) (by omega) (.slice A328_0 (rd_L4 t316 t322).length c328_0) (rd_L4 t316 t322) t332 [.int .i64 t332] (fun k_ => oki25 k_ ∨ ((fun k_ => some k_ ≠ (.slice Ao23 y329.length co23 : Value).ownBlock)) k_ ∧ w24.heap.size ≤ k_) (fun _ => False) rfl rfl ?aP (fun _ hk => hk.elim) ?aF ?aO (Below.refl _ _) ?aS ?aL ?_
  (case aP => exact rfl)
  (case aF => exact (fun k_ hk => .inr ⟨Kd.fresh' (Kd.R_lt (rdl HO331)) k_ hk, hk⟩))
  (case aO => exact (by exact Kd.R_mono UU25.out (fun _ hk => .inl hk)))
  (case aS => exact (keep_size (w := w) (g := g) (row := none) (kee HK)))
  (case aL => have := LMc9.out; omega)
  intro v336 w26 ho hb hg hat
  (have HS1_ := cell_grown hg (cell_unalloc (hHeld.2) (by (rw [add_block]; exact Kd.S_lt HO318.out _ rfl) )) (by (rw [add_block]; exact (fun e_ => ((HL328_0.out.1 _ e_.symm).1.2) rfl)) ))
  rw [← Ny335.out] at ho
  have n0_ := Aside0.mk (IsS47.grown (IsS47.to HI0) hg (IsS47.own_ne HI0.out HL328_0.out (by decide)))
  have n1_ := Aside0.mk (blk_grown (g := gb315) (o := .cells #[.slice none 0 0] 26 (0, 0)) (bkl BK315) hg (Kd.R_ne HL328_0.out BK315.out (by decide)))
  have n2_ := Aside0.mk (blk_grown (g := gb321) (o := .cells #[.slice (some ⟨go25, 0, none⟩) t316.length co14] 26 (0, 0)) (bkl BK321) hg (Kd.R_ne HL328_0.out BK321.out (by decide)))
  have n3_ := Aside0.mk (Kd.R_grown2 (rdl HO331) rfl hg (fun k_ e_ => (HL328_0.out.1 k_ e_).2))
  have n4_ := Aside0.mk (below_weaken (belA HB) HL.out hb)
  have n5_ := Aside0.mk (KeepBut.trans (kee HK) (KeepBut.of_grown hg g) (Kd.R_base2 HL328_0.out))
  have n6_ := Aside0.mk (Kd.H_grown (Kd.H_widen (by repeat (exact HH25.out ))) hg (fun k_ e_ => .inl (UU25.out.1 k_ e_)))
  have n7_ := Aside0.mk (ho)
  clear HI0 BK315 BK321 HO331 HB HK HH25 HO318 UU25 HL328_0
  have HI0 := n0_
  have BK315 := n1_
  have BK321 := n2_
  have HO331 := n3_
  have HB := n4_
  have HK := n5_
  have HH25 := n6_
  have HO337 := n7_
  clear n0_ n1_ n2_ n3_ n4_ n5_ n6_ n7_ ho hb hg hat
  have p10 : 0 ≤ (t322 : Int) := oda
  have q10 : (t322 : Int) < ((t316.length : Int) : Int) := oda
  replace p10 := eq_true p10
  replace q10 := eq_true q10
  obtain ⟨Ao29, co29, eo29⟩ := Kd.R_slice HO337.out
  (subst eo29 )
  obtain ⟨_, _, hraw27, _, _, hcc27, _⟩ := Kd.H_raw HH25.out (oda) (by have h_ : (t322 : Int) < ((t316.length : Int) : Int) := oda; exact h_ )
  obtain ⟨_, hfr27⟩ := Kd.H_at HH25.out (oda) (by have h_ : (t322 : Int) < ((t316.length : Int) : Int) := oda; exact h_ )
  have hx27_0 := hcc27 0 _ rfl
  have hf27_0 := hfr27 0
  (try simp only [Nat.add_zero] at hx27_0 hf27_0)
  (try rw [show ((Kd.slice 3 (Kd.int .i64))).sz = 1 from rfl, Nat.mul_one] at hx27_0)
  (try rw [show ((Kd.slice 3 (Kd.int .i64))).sz = 1 from rfl, Nat.mul_one] at hf27_0)
  have HP27 := Kd.S_seg0 HH25.out (oda) (by have h_ : (t322 : Int) < ((t316.length : Int) : Int) := oda; exact h_ ) (seg := [.slice Ao29 y335.length co29]) (j := 0) (show 1 ≤ 1 from by decide) (x' := y335) (Kd.M_row HO337.out) (fun _ hk => hk)
  (try simp only [show ((Kd.slice 3 (Kd.int .i64))).sz = 1 from rfl, Nat.mul_one, Nat.add_zero] at HP27)
  clear hcc27 hfr27
  have HN0_go25 := Aside0.mk (show g ≠ go25 from by have h_ := IsS47.own_ne HI0.out hraw27 (by decide); intro e_; exact h_ (by rw [e_]; rfl))
  have HNB315_go25 := Aside0.mk (show gb315 ≠ go25 from by have h_ := Kd.R_ne hraw27 BK315.out (by decide); intro e_; exact h_ (by rw [e_]; rfl))
  have HNB321_go25 := Aside0.mk (show gb321 ≠ go25 from by have h_ := Kd.R_ne hraw27 BK321.out (by decide); intro e_; exact h_ (by rw [e_]; rfl))
  have HS27 := HP27.1
  rw [← Ny338.out] at HS27
  have HQ27 := Aside0.mk HS27
  obtain ⟨_, hgg27⟩ := Kd.R_typed hraw27 go25 rfl
  have GG27_ := Aside0.mk hgg27
  clear HP27 HS27 hgg27
  refine hK.out _ _ ⟨(blk_cell BK321.out 0).trans rfl, HS1_⟩ (fun hHeld => ?_)
  clear hK K
  refine nm 29 (h := ?_)
  refine pu 13 (some 30) (bx 15 16383) (h := ?_)
  refine last_ (i := 14) (N := none) #[true, true, true, true, true, true, true, true, true, true, true, true, true, true, true] rfl rfl (one_of HT_.out (by kernel_rfl)) (by decide) (fun K hK => ?_)
  refine skip_ (w1 := ?_) (by rfl) rfl ?_ ?_
  rotate_left
  ·go_simp
   rfl
  refine hK.out _ _ ?_
  clear hK K
  refine done_ (done_of HT_.out (by kernel_rfl)) ?_
  have n0_ : Aside0 (Kd.R (Kd.int .i64) 3 (w26.setCell ⟨go25, (t322 : Int).toNat, none⟩ (.slice Ao29 y335.length co29)) w.heap.size (fun _ => True) (.slice Ao23 y329.length co23) y329) := ⟨by exact Kd.R_mono (Kd.R_far (p := ⟨go25, (t322 : Int).toNat, none⟩) (Kd.R_types HO331.out GG27_.out (by decide)) (fun _ hk => hk.2) (.slice Ao29 y335.length co29)) (fun _ hk => trivial)⟩
  have n1_ : Aside0 (Kd.S (Kd.slice 3 (Kd.int .i64)) 30 (w26.setCell ⟨go25, (t322 : Int).toNat, none⟩ (.slice Ao29 y335.length co29)) w.heap.size (fun k_ => some k_ ≠ (.slice Ao23 y329.length co23 : Value).ownBlock) (.slice (some ⟨go25, 0, none⟩) t316.length co14) y338) := ⟨sdl HQ27⟩
  have n2_ : Aside0 ((w26.setCell ⟨go25, (t322 : Int).toNat, none⟩ (.slice Ao29 y335.length co29)).heap[gb315]? = some (.cells #[.slice none 0 0] 26 (0, 0))) := ⟨by refine blk_far ?_ HNB315_go25.out _; exact BK315.out⟩
  have n3_ : Aside0 ((w26.setCell ⟨go25, (t322 : Int).toNat, none⟩ (.slice Ao29 y335.length co29)).heap[gb321]? = some (.cells #[.slice (some ⟨go25, 0, none⟩) t316.length co14] 26 (0, 0))) := ⟨by refine blk_far ?_ HNB321_go25.out _; exact BK321.out⟩
  have n4_ : Aside0 (IsS47 w0 (w26.setCell ⟨go25, (t322 : Int).toNat, none⟩ (.slice Ao29 y335.length co29)) g s0_0 t333 t334) := ⟨IsS47.to HI0⟩
  have n5_ : Aside0 (KeepBut w (w26.setCell ⟨go25, (t322 : Int).toNat, none⟩ (.slice Ao29 y335.length co29)) g none) := ⟨kee HK⟩
  have n6_ : Aside0 (Below w0.heap.size w0 (w26.setCell ⟨go25, (t322 : Int).toNat, none⟩ (.slice Ao29 y335.length co29))) := ⟨by repeat ((with_reducible first | exact HB.out | refine below_set ?_ (Nat.le_trans HL.out GB25.out) ) )⟩
  (try clear HO331)
  (try clear BK315)
  (try clear BK321)
  (try clear HI0)
  (try clear HK)
  (try clear HB)
  generalize (w26.setCell ⟨go25, (t322 : Int).toNat, none⟩ (.slice Ao29 y335.length co29)) = w30 at n0_ n1_ n2_ n3_ n4_ n5_ n6_ ⊢
  have HO331 := n0_
  have HO318 := n1_
  have BK315 := n2_
  have BK321 := n3_
  have HI0 := n4_
  have HK := n5_
  have HB := n6_
  clear n0_ n1_ n2_ n3_ n4_ n5_ n6_
  have hcz31_0 := bc BK321 0
  have hfz31_0 := blk_frozen BK321.out 0
  have hnb32 := NB315_0.out
  have hnc32 := NB0_315.out
  have hcz33_0 := bc BK315 0
  have hfz33_0 := blk_frozen BK315.out 0
  try go_wp2
  refine bodyPost_ret (results_cell_row rfl _ _ gb315 26 #[.slice (some ⟨go25, 0, none⟩) t316.length co14] (0, 0) _ rfl (blk_put BK315.out 0 _ rfl) Try.underlying26 rfl (by kernel_rfl)) rfl ?_
  exact ⟨_, by rfl , by exact Kd.S_mono (Kd.S_far (p := ⟨gb315, 0, none⟩) (Kd.S_types HO318.out BK315.out (by decide)) (fun _ hk => hk.2) (.slice (some ⟨go25, 0, none⟩) t316.length co14)) (fun _ hk => trivial), IsS47.to HI0, belA HB, kee HK⟩
 rw [if_neg c5] at H
 have c5b0 : (t325 == 0) = false := beq_eq_false_iff_ne.mpr c5
 have c5b1 : (t325 != 0) = true := bne_iff_ne.mpr c5
 by_cases c34 : t325 = 1
 ·rw [if_pos c34] at H
  have c34b0 : (t325 == 1) = true := beq_iff_eq.mpr c34
  have c34b1 : (t325 != 1) = false := bne_eq_false_iff_eq.mpr c34
  clear c34
  obtain ⟨y339, hy339⟩ : ∃ y_ : List Int, y_ = (([21, 22, 23, 24, 25] : List Int)) := ⟨_, rfl⟩
  replace H : (if 0 ≤ t322 then (if t322 < (t316.length : Int) then (some ((t316.set (t322 : Int).toNat y339), t326, t327)) else (none)) else (none)) = some (r1, r2, r3) := by (rw [hy339]; with_reducible exact H) 
  have Ny339 := Aside0.mk hy339
  clear hy339
  by_cases c35 : 0 ≤ t322
  rotate_left
  ·rw [if_neg c35] at H
   exact absurd H (by simp)
  rw [if_pos c35] at H
  have c35b0 : decide (0 ≤ t322) = true := decide_eq_true c35
  clear c35
  by_cases c36 : t322 < (t316.length : Int)
  rotate_left
  ·rw [if_neg c36] at H
   exact absurd H (by simp)
  rw [if_pos c36] at H
  have c36b0 : decide (t322 < (t316.length : Int)) = true := decide_eq_true c36
  clear c36
  obtain ⟨y342, hy342⟩ : ∃ y_ : List (List Int), y_ = (t316.set (t322 : Int).toNat y339) := ⟨_, rfl⟩
  replace H : (some (y342, t326, t327)) = some (r1, r2, r3) := by (rw [hy342]; with_reducible exact H) 
  have Ny342 := Aside0.mk hy342
  clear hy342
  simp only [Option.some.injEq, Prod.mk.injEq] at H
  obtain ⟨rfl, rfl, rfl⟩ := H
  go_enter Try.func34, Try.ntmps34
  go_wp2_with (first | ((with_reducible refine gate_dst (N := 2) rfl ?_); refine box_event ?hg (N := 2) ?hd (cs := #[.slice none 0 0]) (t := 26) ?hr ?_; (case hd | hg => rfl); (case hr => go_simp); intro gb315 hg w38 hbox hb; replace HB := Aside0.mk (below_step (belA HB) hb); have BK315 := Aside0.mk (hbox); have GW315 := gsk hg (kee HK); have GE315 := gswk HW0 hg (kee HK); replace HK := Aside0.mk (KeepBut.trans (kee HK) (KeepBut.of_below hb g none) (.inl rfl)); have NB0_315 := nll hg (IsS47.lt (IsS47.to HI0)); have NB315_0 := nlr hg (IsS47.lt (IsS47.to HI0)); replace HI0 := Aside0.mk (IsS47.below (IsS47.to HI0) hb); clear hb hbox hg) | ((with_reducible refine gate_callee (f := 51) rfl ?_); refine goesL_ (some 7) rfl rfl Try.func51 (by kernel_rfl) rfl #[.pointer (some ⟨g, 0, none⟩)] rfl gmp ?_; (with_reducible refine (spec_l1Cur_yard.calls k g s0_0 s0_1 s0_2 t316 t319 t320 w0 _ ?side1 ?side2 A2.out).mono ?_); (case side1 => exact IsS47.to HI0); (case side2 => exact belA HB); rintro e w39 ⟨v317, rfl, ho0, hi, hb, hk⟩; refine ⟨_, rfl, ?_⟩; replace BK315 := kbk hk BK315 NB315_0; have HO318 := Aside0.mk (Kd.S_lower ho0 (keep_size (w := w) (g := g) (row := none) (kee HK))); replace HK := Aside0.mk (KeepBut.trans (kee HK) hk (.inl rfl)); replace HB := Aside0.mk (hb); replace HI0 := Aside0.mk (hi); (try clear hb); (try clear hk); (try clear hi); (try clear ho0)) | ((with_reducible refine gate_dst (N := 3) rfl ?_); refine box_event ?hg (N := 3) ?hd (cs := #[.slice none 0 0]) (t := 26) ?hr ?_; (case hd | hg => rfl); (case hr => go_simp); intro gb321 hg w40 hbox hb; replace HO318 := Aside0.mk (Kd.S_below (sdl HO318) hb); replace HB := Aside0.mk (below_step (belA HB) hb); have BK321 := Aside0.mk (hbox); have GW321 := gsk hg (kee HK); have GE321 := gswk HW0 hg (kee HK); replace HK := Aside0.mk (KeepBut.trans (kee HK) (KeepBut.of_below hb g none) (.inl rfl)); have NB315_321 := nbl hg BK315; have NB321_315 := nbr hg BK315; replace BK315 := bkb BK315 hb; have NB0_321 := nll hg (IsS47.lt (IsS47.to HI0)); have NB321_0 := nlr hg (IsS47.lt (IsS47.to HI0)); replace HI0 := Aside0.mk (IsS47.below (IsS47.to HI0) hb); clear hb hbox hg; obtain ⟨Ao41, co41, eo41⟩ := Kd.S_slice HO318.out; subst eo41; have hnb42 := NB321_315.out; have hnc42 := NB315_321.out; have hnb43 := NB321_0.out; have hnc43 := NB0_321.out; obtain ⟨_, _⟩ := bf1 BK321) | ((with_reducible refine gate_callee (f := 16) rfl ?_); refine goesL_ (some 12) rfl rfl Try.func16 (by kernel_rfl) rfl #[.pointer (some ⟨g, 0, none⟩), .int .i64 (t316.length : Int)] rfl gmp ?_; (with_reducible refine (spec_l1Cur_pick.calls g s0_0 t319 t320 (t316.length : Int) t322 t323 t324 w0 _ ?side1 ?side2 A3.out).mono ?_); (case side1 => exact IsS47.to HI0); (case side2 => exact belA HB); rintro e w45 ⟨rfl, hi, hb, hk⟩; refine ⟨_, rfl, ?_⟩; replace BK315 := Aside0.mk (KeepBut.blk hk (g' := gb315) (o := .cells #[.slice none 0 0] 26 (0, 0)) (blk_far BK315.out NB315_321.out _) NB315_0.out (by simp)); replace HO318 := Aside0.mk (Kd.S_mono (Kd.S_keep (IsS47.apartS (show IsS47 w0 _ g s0_0 t319 t320 from IsS47.to HI0) (by exact (Kd.S_mono (Kd.S_far (p := ⟨gb321, 0, none⟩) (Kd.S_types HO318.out BK321.out (by decide)) (fun _ hk => hk.2) (.slice Ao41 t316.length co41)) (fun _ h_ => h_.1))) (by decide)) hk (fun _ h => h.2)) (fun _ h => h.1)); replace BK321 := Aside0.mk (KeepBut.blk hk (g' := gb321) (o := .cells #[.slice Ao41 t316.length co41] 26 (0, 0)) (blk_put BK321.out 0 _ rfl) NB321_0.out (by simp)); replace HK := Aside0.mk (KeepBut.trans (kee HK) hk (.inl rfl)); replace HB := Aside0.mk (hb); replace HI0 := Aside0.mk (hi); clear hb hk hi) | ((with_reducible refine gate_callee (f := 16) rfl ?_); refine goesL_ (some 14) rfl rfl Try.func16 (by kernel_rfl) rfl #[.pointer (some ⟨g, 0, none⟩), .int .i64 24] rfl gmp ?_; (with_reducible refine (spec_l1Cur_pick.calls g s0_0 t323 t324 24 t325 t326 t327 w0 _ ?side1 ?side2 A4.out).mono ?_); (case side1 => exact IsS47.to HI0); (case side2 => exact belA HB); rintro e w46 ⟨rfl, hi, hb, hk⟩; refine ⟨_, rfl, ?_⟩; replace BK315 := kbk hk BK315 NB315_0; replace HO318 := Aside0.mk (Kd.S_mono (Kd.S_keep (IsS47.apartS (show IsS47 w0 _ g s0_0 t323 t324 from IsS47.to HI0) (sdl HO318) (by decide)) hk (fun _ h => h.2)) (fun _ h => h.1)); replace BK321 := kbk hk BK321 NB321_0; replace HK := Aside0.mk (KeepBut.trans (kee HK) hk (.inl rfl)); replace HB := Aside0.mk (hb); replace HI0 := Aside0.mk (hi); clear hb hk hi; obtain ⟨_, _⟩ := bf1 BK321) | ((with_reducible refine gate_dst (N := 36) rfl ?_); refine Kd.R_lit (Kd.int .i64) _ 3 ?hg (N := 36) ?hd (xs := ([21, 22, 23, 24, 25] : List Int)) (inner := [.int .i64 21, .int .i64 22, .int .i64 23, .int .i64 24, .int .i64 25]) (ok := fun _ => True) (okp := fun _ => True) ?hr ?hp (fun _ hk => hk) trivial (Below.refl _ _) (Nat.le_refl _) (by simp) ?_; (case hd | hg => rfl); (case hr => go_simp); (case hp => exact (Reps.one (show Kd.M (Kd.int .i64) _ _ _ 21 [.int .i64 21] from rfl) (Reps.one (show Kd.M (Kd.int .i64) _ _ _ 22 [.int .i64 22] from rfl) (Reps.one (show Kd.M (Kd.int .i64) _ _ _ 23 [.int .i64 23] from rfl) (Reps.one (show Kd.M (Kd.int .i64) _ _ _ 24 [.int .i64 24] from rfl) (Reps.one (show Kd.M (Kd.int .i64) _ _ _ 25 [.int .i64 25] from rfl) (Reps.none _ _))))))); intro v340 w48 ho49 hb hg_ hnew_; clear hg_ hnew_; (rw [← Ny339.out] at ho49 ); replace HO318 := Aside0.mk (Kd.S_elder' (sdl HO318) (Kd.R_base ho49) hb); have HO341 := Aside0.mk (Kd.R_lower ho49 (keep_size (w := w) (g := g) (row := none) (kee HK))); replace HI0 := Aside0.mk (IsS47.below (IsS47.to HI0) hb); replace BK315 := bkb BK315 hb; replace BK321 := bkb BK321 hb; replace HK := Aside0.mk (KeepBut.trans (kee HK) (KeepBut.of_below hb g none) (.inl rfl)); replace HB := Aside0.mk (below_step (belA HB) hb); clear hb ho49; have p37 : 0 ≤ (t322 : Int) := oda; have q37 : (t322 : Int) < ((t316.length : Int) : Int) := oda; obtain ⟨go37, co37, eo37, gb37, gl37, cl37, HG37⟩ := Kd.S_form HO318.out (by omega); (cases eo37 ); have GB37 := Aside0.mk gb37; have GG37 := Aside0.mk HG37; clear gb37 gl37 HG37; obtain ⟨_, ce37, hcl37, hM37, hcc37, hfr37, _, _⟩ := Kd.S_elem HO318.out [] (t322 : Int) p37 q37; obtain ⟨ve37_0, rfl, ge37_0⟩ := hM37; have hx37_0 := hcc37 0 _ rfl; have hf37_0 := hfr37 0; (try simp only [show ((Kd.slice 3 (Kd.int .i64))).sz = 1 from rfl, Nat.mul_one, Nat.add_zero] at hx37_0); (try simp only [show ((Kd.slice 3 (Kd.int .i64))).sz = 1 from rfl, Nat.mul_one, Nat.add_zero] at hf37_0); clear hcl37 hcc37 hfr37; replace p37 := eq_true p37; replace q37 := eq_true q37; have n_ := Aside0.mk (Kd.S_mono (ok' := (fun k_ => some k_ ≠ (v340 : Value).ownBlock)) HO318.out (fun k_ hk => hk.2)); clear HO318; have HO318 := n_; clear n_; have HX50 := Aside0.mk (show Kd.S (Kd.slice 3 (Kd.int .i64)) 30 w48 w.heap.size (fun k_ => ((fun _ => True)) k_ ∧ ¬ ((fun k_ => some k_ = (v340 : Value).ownBlock)) k_) (.slice (some ⟨go37, 0, none⟩) t316.length co41) t316 from (by exact Kd.S_mono HO318.out (fun k_ hk => ⟨trivial, fun e_ => hk e_⟩))); obtain ⟨oki50, ce50, hcl50, hM50, hcc50, hfr50, hoki50, hH50⟩ := Kd.S_elem HX50.out [] (t322 : Int) (oda) (by have h_ : (t322 : Int) < ((t316.length : Int) : Int) := oda; exact h_ ); obtain ⟨ve50_0, rfl, ge50_0⟩ := hM50; have HP50 := Kd.S_seg hH50 (oda) (by have h_ : (t322 : Int) < ((t316.length : Int) : Int) := oda; exact h_ ) (seg := [v340]) (j := 0) (show 1 ≤ 1 from by decide) (x' := y339) (Kd.M_row (Kd.R_mono (Kd.R_tight rfl (Kd.R_mono (ok' := fun k_ => ((fun _ => True)) k_ ∧ k_ ≠ go37) (Kd.R_apart' (HO341.out) (Kd.S_typed HO318.out) (by decide)) (fun k_ hk => ⟨trivial, fun e_ => (hk.2) (by rw [e_]; rfl)⟩))) (fun _ h_ => Or.inr (h_)))) (fun _ hk => hk) (fun k_ hk_ => ((Kd.R_mono (ok' := fun k_ => ((fun _ => True)) k_ ∧ k_ ≠ go37) (Kd.R_apart' (HO341.out) (Kd.S_typed HO318.out) (by decide)) (fun k_ hk => ⟨trivial, fun e_ => (hk.2) (by rw [e_]; rfl)⟩))).1 k_ hk_.symm); have hx50_0 := hcc50 0 _ rfl; (try simp only [show ((Kd.slice 3 (Kd.int .i64))).sz = 1 from rfl, Nat.mul_one, Nat.add_zero] at hx50_0); have hf50_0 := hfr50 0; (try simp only [show ((Kd.slice 3 (Kd.int .i64))).sz = 1 from rfl, Nat.mul_one, Nat.add_zero] at hf50_0); clear hcl50 hcc50 hfr50 hoki50 hH50; (try simp only [show ((Kd.slice 3 (Kd.int .i64))).sz = 1 from rfl, Nat.mul_one, Nat.add_zero] at HP50)) | ((with_reducible refine gate_store (t := 30) (p := 37) rfl ?_); refine store_event (t := 30) (p := 37) (v := ?vo_w51) (w1 := (w48.setCell ⟨go37, (t322 : Int).toNat, none⟩ (v340))) ?hg ?ho ?hn ?hr ?_; (case ho => rfl); (case hg => rfl); (case hn => rfl); (case hr => (obtain ⟨As_, cs_, es_⟩ := Kd.R_slice HO341.out; rw [es_]; (go_simp; done) )); intro w51 hw; have hg : w48.grownBy w51 (some go37) := (by rw [hw]; exact HP50.2); have hp_ : Kd.S (Kd.slice 3 (Kd.int .i64)) 30 w51 w.heap.size (fun _ => True) (.slice (some ⟨go37, 0, none⟩) t316.length co41) y342 := (by rw [hw, Ny342.out]; exact HP50.1); clear HP50; replace HI0 := Aside0.mk (IsS47.grown (IsS47.to HI0) hg (IsS47.own_neS HI0.out HO318.out (by decide))); replace BK315 := Aside0.mk (blk_grown (g := gb315) (o := .cells #[.slice none 0 0] 26 (0, 0)) (bkl BK315) hg (Kd.S_ne HO318.out BK315.out (by decide))); replace BK321 := Aside0.mk (blk_grown (g := gb321) (o := .cells #[.slice (some ⟨go37, 0, none⟩) t316.length co41] 26 (0, 0)) (bkl BK321) hg (Kd.S_ne HO318.out BK321.out (by decide))); replace HB := Aside0.mk ((by rw [hw]; exact below_set (HB.out) (Nat.le_trans HL.out GB37.out) : Below w0.heap.size w0 w51)); replace HK := Aside0.mk (KeepBut.trans (kee HK) (KeepBut.of_grown hg g) (Kd.S_base2 HO318.out)); replace HO318 := Aside0.mk (hp_); clear HO341; clear hg hw hp_; obtain ⟨_, _⟩ := bf1 BK321; have hnb53 := NB315_0.out; have hnc53 := NB0_315.out; obtain ⟨_, _⟩ := bf1 BK315))
  refine bodyPost_ret (results_cell_row rfl _ _ gb315 26 #[.slice (some ⟨go37, 0, none⟩) t316.length co41] (0, 0) _ rfl (blk_put BK315.out 0 _ rfl) Try.underlying26 rfl (by kernel_rfl)) rfl ?_
  exact ⟨_, by rfl , by exact Kd.S_mono (Kd.S_far (p := ⟨gb315, 0, none⟩) (Kd.S_types HO318.out BK315.out (by decide)) (fun _ hk => hk.2) (.slice (some ⟨go37, 0, none⟩) t316.length co41)) (fun _ hk => trivial), IsS47.to HI0, belA HB, kee HK⟩
 rw [if_neg c34] at H
 have c34b0 : (t325 == 1) = false := beq_eq_false_iff_ne.mpr c34
 have c34b1 : (t325 != 1) = true := bne_iff_ne.mpr c34
 by_cases c55 : t325 = 2
 ·rw [if_pos c55] at H
  have c55b0 : (t325 == 2) = true := beq_iff_eq.mpr c55
  have c55b1 : (t325 != 2) = false := bne_eq_false_iff_eq.mpr c55
  clear c55
  obtain ⟨y343, hy343⟩ : ∃ y_ : List (List Int), y_ = (([] : List (List Int))) := ⟨_, rfl⟩
  replace H : (some (y343, t326, t327)) = some (r1, r2, r3) := by (rw [hy343]; with_reducible exact H) 
  have Ny343 := Aside0.mk hy343
  clear hy343
  simp only [Option.some.injEq, Prod.mk.injEq] at H
  obtain ⟨rfl, rfl, rfl⟩ := H
  go_enter Try.func34, Try.ntmps34
  go_wp2_with (first | ((with_reducible refine gate_dst (N := 2) rfl ?_); refine box_event ?hg (N := 2) ?hd (cs := #[.slice none 0 0]) (t := 26) ?hr ?_; (case hd | hg => rfl); (case hr => go_simp); intro gb315 hg w56 hbox hb; replace HB := Aside0.mk (below_step (belA HB) hb); have BK315 := Aside0.mk (hbox); have GW315 := gsk hg (kee HK); have GE315 := gswk HW0 hg (kee HK); replace HK := Aside0.mk (KeepBut.trans (kee HK) (KeepBut.of_below hb g none) (.inl rfl)); have NB0_315 := nll hg (IsS47.lt (IsS47.to HI0)); have NB315_0 := nlr hg (IsS47.lt (IsS47.to HI0)); replace HI0 := Aside0.mk (IsS47.below (IsS47.to HI0) hb); clear hb hbox hg) | ((with_reducible refine gate_callee (f := 51) rfl ?_); refine goesL_ (some 7) rfl rfl Try.func51 (by kernel_rfl) rfl #[.pointer (some ⟨g, 0, none⟩)] rfl gmp ?_; (with_reducible refine (spec_l1Cur_yard.calls k g s0_0 s0_1 s0_2 t316 t319 t320 w0 _ ?side1 ?side2 A2.out).mono ?_); (case side1 => exact IsS47.to HI0); (case side2 => exact belA HB); rintro e w57 ⟨v317, rfl, ho0, hi, hb, hk⟩; refine ⟨_, rfl, ?_⟩; replace BK315 := kbk hk BK315 NB315_0; have HO318 := Aside0.mk (Kd.S_lower ho0 (keep_size (w := w) (g := g) (row := none) (kee HK))); replace HK := Aside0.mk (KeepBut.trans (kee HK) hk (.inl rfl)); replace HB := Aside0.mk (hb); replace HI0 := Aside0.mk (hi); (try clear hb); (try clear hk); (try clear hi); (try clear ho0)) | ((with_reducible refine gate_dst (N := 3) rfl ?_); refine box_event ?hg (N := 3) ?hd (cs := #[.slice none 0 0]) (t := 26) ?hr ?_; (case hd | hg => rfl); (case hr => go_simp); intro gb321 hg w58 hbox hb; replace HO318 := Aside0.mk (Kd.S_below (sdl HO318) hb); replace HB := Aside0.mk (below_step (belA HB) hb); have BK321 := Aside0.mk (hbox); have GW321 := gsk hg (kee HK); have GE321 := gswk HW0 hg (kee HK); replace HK := Aside0.mk (KeepBut.trans (kee HK) (KeepBut.of_below hb g none) (.inl rfl)); have NB315_321 := nbl hg BK315; have NB321_315 := nbr hg BK315; replace BK315 := bkb BK315 hb; have NB0_321 := nll hg (IsS47.lt (IsS47.to HI0)); have NB321_0 := nlr hg (IsS47.lt (IsS47.to HI0)); replace HI0 := Aside0.mk (IsS47.below (IsS47.to HI0) hb); clear hb hbox hg; obtain ⟨Ao59, co59, eo59⟩ := Kd.S_slice HO318.out; subst eo59; have hnb60 := NB321_315.out; have hnc60 := NB315_321.out; have hnb61 := NB321_0.out; have hnc61 := NB0_321.out; obtain ⟨_, _⟩ := bf1 BK321) | ((with_reducible refine gate_callee (f := 16) rfl ?_); refine goesL_ (some 12) rfl rfl Try.func16 (by kernel_rfl) rfl #[.pointer (some ⟨g, 0, none⟩), .int .i64 (t316.length : Int)] rfl gmp ?_; (with_reducible refine (spec_l1Cur_pick.calls g s0_0 t319 t320 (t316.length : Int) t322 t323 t324 w0 _ ?side1 ?side2 A3.out).mono ?_); (case side1 => exact IsS47.to HI0); (case side2 => exact belA HB); rintro e w63 ⟨rfl, hi, hb, hk⟩; refine ⟨_, rfl, ?_⟩; replace BK315 := Aside0.mk (KeepBut.blk hk (g' := gb315) (o := .cells #[.slice none 0 0] 26 (0, 0)) (blk_far BK315.out NB315_321.out _) NB315_0.out (by simp)); replace HO318 := Aside0.mk (Kd.S_mono (Kd.S_keep (IsS47.apartS (show IsS47 w0 _ g s0_0 t319 t320 from IsS47.to HI0) (by exact (Kd.S_mono (Kd.S_far (p := ⟨gb321, 0, none⟩) (Kd.S_types HO318.out BK321.out (by decide)) (fun _ hk => hk.2) (.slice Ao59 t316.length co59)) (fun _ h_ => h_.1))) (by decide)) hk (fun _ h => h.2)) (fun _ h => h.1)); replace BK321 := Aside0.mk (KeepBut.blk hk (g' := gb321) (o := .cells #[.slice Ao59 t316.length co59] 26 (0, 0)) (blk_put BK321.out 0 _ rfl) NB321_0.out (by simp)); replace HK := Aside0.mk (KeepBut.trans (kee HK) hk (.inl rfl)); replace HB := Aside0.mk (hb); replace HI0 := Aside0.mk (hi); clear hb hk hi) | ((with_reducible refine gate_callee (f := 16) rfl ?_); refine goesL_ (some 14) rfl rfl Try.func16 (by kernel_rfl) rfl #[.pointer (some ⟨g, 0, none⟩), .int .i64 24] rfl gmp ?_; (with_reducible refine (spec_l1Cur_pick.calls g s0_0 t323 t324 24 t325 t326 t327 w0 _ ?side1 ?side2 A4.out).mono ?_); (case side1 => exact IsS47.to HI0); (case side2 => exact belA HB); rintro e w64 ⟨rfl, hi, hb, hk⟩; refine ⟨_, rfl, ?_⟩; replace BK315 := kbk hk BK315 NB315_0; replace HO318 := Aside0.mk (Kd.S_mono (Kd.S_keep (IsS47.apartS (show IsS47 w0 _ g s0_0 t323 t324 from IsS47.to HI0) (sdl HO318) (by decide)) hk (fun _ h => h.2)) (fun _ h => h.1)); replace BK321 := kbk hk BK321 NB321_0; replace HK := Aside0.mk (KeepBut.trans (kee HK) hk (.inl rfl)); replace HB := Aside0.mk (hb); replace HI0 := Aside0.mk (hi); clear hb hk hi) | ((with_reducible refine gate_dst (N := 40) rfl ?_); refine Kd.S_lit (Kd.slice 3 (Kd.int .i64)) _ 30 ?hg (N := 40) ?hd (xs := ([] : List (List Int))) (inner := []) (ok := fun _ => True) (okp := fun _ => True) ?hr ?hp (fun _ hk => hk) trivial (Below.refl _ _) (Nat.le_refl _) (by simp) ?_; (case hd | hg => rfl); (case hr => go_simp); (case hp => exact (Reps.none _ _)); intro v344 w65 ho66 hb hg_ hnew_; clear hg_ hnew_; (rw [← Ny343.out] at ho66 ); have HO345 := Aside0.mk (Kd.S_lower (Kd.S_new' ho66 (Kd.S_lt (sdl HO318))) (keep_size (w := w) (g := g) (row := none) (kee HK))); replace HO318 := Aside0.mk (Kd.S_elder' (sdl HO318) (Kd.S_base ho66) hb); replace HI0 := Aside0.mk (IsS47.below (IsS47.to HI0) hb); replace BK315 := bkb BK315 hb; replace BK321 := bkb BK321 hb; replace HK := Aside0.mk (KeepBut.trans (kee HK) (KeepBut.of_below hb g none) (.inl rfl)); replace HB := Aside0.mk (below_step (belA HB) hb); clear hb ho66; obtain ⟨Ao67, co67, eo67⟩ := Kd.S_slice HO345.out; subst eo67; obtain ⟨_, _⟩ := bf1 BK321; have hnb69 := NB315_0.out; have hnc69 := NB0_315.out; obtain ⟨_, _⟩ := bf1 BK315))
  refine bodyPost_ret (results_cell_row rfl _ _ gb315 26 #[.slice Ao67 y343.length co67] (0, 0) _ rfl (blk_put (blk_far BK315.out NB315_321.out _) 0 _ rfl) Try.underlying26 rfl (by kernel_rfl)) rfl ?_
  exact ⟨_, by rfl , by exact Kd.S_mono (Kd.S_far (p := ⟨gb315, 0, none⟩) (Kd.S_far (p := ⟨gb321, 0, none⟩) (Kd.S_types (Kd.S_types HO345.out BK321.out (by decide)) BK315.out (by decide)) (fun _ hk => hk.1.2) (.slice Ao67 y343.length co67)) (fun _ hk => hk.2) (.slice Ao67 y343.length co67)) (fun _ hk => trivial), IsS47.to HI0, belA HB, kee HK⟩
 rw [if_neg c55] at H
 have c55b0 : (t325 == 2) = false := beq_eq_false_iff_ne.mpr c55
 have c55b1 : (t325 != 2) = true := bne_iff_ne.mpr c55
 by_cases c71 : t325 = 3
 rotate_left
 ·rw [if_neg c71] at H
  have c71b0 : (t325 == 3) = false := beq_eq_false_iff_ne.mpr c71
  have c71b1 : (t325 != 3) = true := bne_iff_ne.mpr c71
  simp only [Option.some.injEq, Prod.mk.injEq] at H
  obtain ⟨rfl, rfl, rfl⟩ := H
  go_enter Try.func34, Try.ntmps34
  go_wp2_with (first | ((with_reducible refine gate_dst (N := 2) rfl ?_); refine box_event ?hg (N := 2) ?hd (cs := #[.slice none 0 0]) (t := 26) ?hr ?_; (case hd | hg => rfl); (case hr => go_simp); intro gb315 hg w113 hbox hb; replace HB := Aside0.mk (below_step (belA HB) hb); have BK315 := Aside0.mk (hbox); have GW315 := gsk hg (kee HK); have GE315 := gswk HW0 hg (kee HK); replace HK := Aside0.mk (KeepBut.trans (kee HK) (KeepBut.of_below hb g none) (.inl rfl)); have NB0_315 := nll hg (IsS47.lt (IsS47.to HI0)); have NB315_0 := nlr hg (IsS47.lt (IsS47.to HI0)); replace HI0 := Aside0.mk (IsS47.below (IsS47.to HI0) hb); clear hb hbox hg) | ((with_reducible refine gate_callee (f := 51) rfl ?_); refine goesL_ (some 7) rfl rfl Try.func51 (by kernel_rfl) rfl #[.pointer (some ⟨g, 0, none⟩)] rfl gmp ?_; (with_reducible refine (spec_l1Cur_yard.calls k g s0_0 s0_1 s0_2 t316 t319 t320 w0 _ ?side1 ?side2 A2.out).mono ?_); (case side1 => exact IsS47.to HI0); (case side2 => exact belA HB); rintro e w114 ⟨v317, rfl, ho0, hi, hb, hk⟩; refine ⟨_, rfl, ?_⟩; replace BK315 := kbk hk BK315 NB315_0; have HO318 := Aside0.mk (Kd.S_lower ho0 (keep_size (w := w) (g := g) (row := none) (kee HK))); replace HK := Aside0.mk (KeepBut.trans (kee HK) hk (.inl rfl)); replace HB := Aside0.mk (hb); replace HI0 := Aside0.mk (hi); (try clear hb); (try clear hk); (try clear hi); (try clear ho0)) | ((with_reducible refine gate_dst (N := 3) rfl ?_); refine box_event ?hg (N := 3) ?hd (cs := #[.slice none 0 0]) (t := 26) ?hr ?_; (case hd | hg => rfl); (case hr => go_simp); intro gb321 hg w115 hbox hb; replace HO318 := Aside0.mk (Kd.S_below (sdl HO318) hb); replace HB := Aside0.mk (below_step (belA HB) hb); have BK321 := Aside0.mk (hbox); have GW321 := gsk hg (kee HK); have GE321 := gswk HW0 hg (kee HK); replace HK := Aside0.mk (KeepBut.trans (kee HK) (KeepBut.of_below hb g none) (.inl rfl)); have NB315_321 := nbl hg BK315; have NB321_315 := nbr hg BK315; replace BK315 := bkb BK315 hb; have NB0_321 := nll hg (IsS47.lt (IsS47.to HI0)); have NB321_0 := nlr hg (IsS47.lt (IsS47.to HI0)); replace HI0 := Aside0.mk (IsS47.below (IsS47.to HI0) hb); clear hb hbox hg; obtain ⟨Ao116, co116, eo116⟩ := Kd.S_slice HO318.out; subst eo116; have hnb117 := NB321_315.out; have hnc117 := NB315_321.out; have hnb118 := NB321_0.out; have hnc118 := NB0_321.out; obtain ⟨_, _⟩ := bf1 BK321) | ((with_reducible refine gate_callee (f := 16) rfl ?_); refine goesL_ (some 12) rfl rfl Try.func16 (by kernel_rfl) rfl #[.pointer (some ⟨g, 0, none⟩), .int .i64 (t316.length : Int)] rfl gmp ?_; (with_reducible refine (spec_l1Cur_pick.calls g s0_0 t319 t320 (t316.length : Int) t322 t323 t324 w0 _ ?side1 ?side2 A3.out).mono ?_); (case side1 => exact IsS47.to HI0); (case side2 => exact belA HB); rintro e w120 ⟨rfl, hi, hb, hk⟩; refine ⟨_, rfl, ?_⟩; replace BK315 := Aside0.mk (KeepBut.blk hk (g' := gb315) (o := .cells #[.slice none 0 0] 26 (0, 0)) (blk_far BK315.out NB315_321.out _) NB315_0.out (by simp)); replace HO318 := Aside0.mk (Kd.S_mono (Kd.S_keep (IsS47.apartS (show IsS47 w0 _ g s0_0 t319 t320 from IsS47.to HI0) (by exact (Kd.S_mono (Kd.S_far (p := ⟨gb321, 0, none⟩) (Kd.S_types HO318.out BK321.out (by decide)) (fun _ hk => hk.2) (.slice Ao116 t316.length co116)) (fun _ h_ => h_.1))) (by decide)) hk (fun _ h => h.2)) (fun _ h => h.1)); replace BK321 := Aside0.mk (KeepBut.blk hk (g' := gb321) (o := .cells #[.slice Ao116 t316.length co116] 26 (0, 0)) (blk_put BK321.out 0 _ rfl) NB321_0.out (by simp)); replace HK := Aside0.mk (KeepBut.trans (kee HK) hk (.inl rfl)); replace HB := Aside0.mk (hb); replace HI0 := Aside0.mk (hi); clear hb hk hi) | ((with_reducible refine gate_callee (f := 16) rfl ?_); refine goesL_ (some 14) rfl rfl Try.func16 (by kernel_rfl) rfl #[.pointer (some ⟨g, 0, none⟩), .int .i64 24] rfl gmp ?_; (with_reducible refine (spec_l1Cur_pick.calls g s0_0 t323 t324 24 t325 t326 t327 w0 _ ?side1 ?side2 A4.out).mono ?_); (case side1 => exact IsS47.to HI0); (case side2 => exact belA HB); rintro e w121 ⟨rfl, hi, hb, hk⟩; refine ⟨_, rfl, ?_⟩; replace BK315 := kbk hk BK315 NB315_0; replace HO318 := Aside0.mk (Kd.S_mono (Kd.S_keep (IsS47.apartS (show IsS47 w0 _ g s0_0 t323 t324 from IsS47.to HI0) (sdl HO318) (by decide)) hk (fun _ h => h.2)) (fun _ h => h.1)); replace BK321 := kbk hk BK321 NB321_0; replace HK := Aside0.mk (KeepBut.trans (kee HK) hk (.inl rfl)); replace HB := Aside0.mk (hb); replace HI0 := Aside0.mk (hi); clear hb hk hi; obtain ⟨_, _⟩ := bf1 BK321; have hnb123 := NB315_0.out; have hnc123 := NB0_315.out; obtain ⟨_, _⟩ := bf1 BK315))
  refine bodyPost_ret (results_cell_row rfl _ _ gb315 26 #[.slice Ao116 t316.length co116] (0, 0) _ rfl (blk_put BK315.out 0 _ rfl) Try.underlying26 rfl (by kernel_rfl)) rfl ?_
  exact ⟨_, by rfl , by exact Kd.S_mono (Kd.S_far (p := ⟨gb315, 0, none⟩) (Kd.S_types HO318.out BK315.out (by decide)) (fun _ hk => hk.2) (.slice Ao116 t316.length co116)) (fun _ hk => trivial), IsS47.to HI0, belA HB, kee HK⟩
 rw [if_pos c71] at H
 have c71b0 : (t325 == 3) = true := beq_iff_eq.mpr c71
 have c71b1 : (t325 != 3) = false := bne_eq_false_iff_eq.mpr c71
 clear c71
 have H' := Aside0.mk H
 clear H
 go_enter Try.func34, Try.ntmps34
 go_wp2_with (first | ((with_reducible refine gate_dst (N := 2) rfl ?_); refine box_event ?hg (N := 2) ?hd (cs := #[.slice none 0 0]) (t := 26) ?hr ?_; (case hd | hg => rfl); (case hr => go_simp); intro gb315 hg w72 hbox hb; replace HB := Aside0.mk (below_step (belA HB) hb); have BK315 := Aside0.mk (hbox); have GW315 := gsk hg (kee HK); have GE315 := gswk HW0 hg (kee HK); replace HK := Aside0.mk (KeepBut.trans (kee HK) (KeepBut.of_below hb g none) (.inl rfl)); have NB0_315 := nll hg (IsS47.lt (IsS47.to HI0)); have NB315_0 := nlr hg (IsS47.lt (IsS47.to HI0)); replace HI0 := Aside0.mk (IsS47.below (IsS47.to HI0) hb); clear hb hbox hg) | ((with_reducible refine gate_callee (f := 51) rfl ?_); refine goesL_ (some 7) rfl rfl Try.func51 (by kernel_rfl) rfl #[.pointer (some ⟨g, 0, none⟩)] rfl gmp ?_; (with_reducible refine (spec_l1Cur_yard.calls k g s0_0 s0_1 s0_2 t316 t319 t320 w0 _ ?side1 ?side2 A2.out).mono ?_); (case side1 => exact IsS47.to HI0); (case side2 => exact belA HB); rintro e w73 ⟨v317, rfl, ho0, hi, hb, hk⟩; refine ⟨_, rfl, ?_⟩; replace BK315 := kbk hk BK315 NB315_0; have HO318 := Aside0.mk (Kd.S_lower ho0 (keep_size (w := w) (g := g) (row := none) (kee HK))); replace HK := Aside0.mk (KeepBut.trans (kee HK) hk (.inl rfl)); replace HB := Aside0.mk (hb); replace HI0 := Aside0.mk (hi); (try clear hb); (try clear hk); (try clear hi); (try clear ho0)) | ((with_reducible refine gate_dst (N := 3) rfl ?_); refine box_event ?hg (N := 3) ?hd (cs := #[.slice none 0 0]) (t := 26) ?hr ?_; (case hd | hg => rfl); (case hr => go_simp); intro gb321 hg w74 hbox hb; replace HO318 := Aside0.mk (Kd.S_below (sdl HO318) hb); replace HB := Aside0.mk (below_step (belA HB) hb); have BK321 := Aside0.mk (hbox); have GW321 := gsk hg (kee HK); have GE321 := gswk HW0 hg (kee HK); replace HK := Aside0.mk (KeepBut.trans (kee HK) (KeepBut.of_below hb g none) (.inl rfl)); have NB315_321 := nbl hg BK315; have NB321_315 := nbr hg BK315; replace BK315 := bkb BK315 hb; have NB0_321 := nll hg (IsS47.lt (IsS47.to HI0)); have NB321_0 := nlr hg (IsS47.lt (IsS47.to HI0)); replace HI0 := Aside0.mk (IsS47.below (IsS47.to HI0) hb); clear hb hbox hg; obtain ⟨Ao75, co75, eo75⟩ := Kd.S_slice HO318.out; subst eo75; have hnb76 := NB321_315.out; have hnc76 := NB315_321.out; have hnb77 := NB321_0.out; have hnc77 := NB0_321.out; have hcz78_0 := bc BK321 0; have hfz78_0 := blk_frozen BK321.out 0) | ((with_reducible refine gate_callee (f := 16) rfl ?_); refine goesL_ (some 12) rfl rfl Try.func16 (by kernel_rfl) rfl #[.pointer (some ⟨g, 0, none⟩), .int .i64 (t316.length : Int)] rfl gmp ?_; (with_reducible refine (spec_l1Cur_pick.calls g s0_0 t319 t320 (t316.length : Int) t322 t323 t324 w0 _ ?side1 ?side2 A3.out).mono ?_); (case side1 => exact IsS47.to HI0); (case side2 => exact belA HB); rintro e w79 ⟨rfl, hi, hb, hk⟩; refine ⟨_, rfl, ?_⟩; replace BK315 := Aside0.mk (KeepBut.blk hk (g' := gb315) (o := .cells #[.slice none 0 0] 26 (0, 0)) (blk_far BK315.out NB315_321.out _) NB315_0.out (by simp)); replace HO318 := Aside0.mk (Kd.S_mono (Kd.S_keep (IsS47.apartS (show IsS47 w0 _ g s0_0 t319 t320 from IsS47.to HI0) (by exact (Kd.S_mono (Kd.S_far (p := ⟨gb321, 0, none⟩) (Kd.S_types HO318.out BK321.out (by decide)) (fun _ hk => hk.2) (.slice Ao75 t316.length co75)) (fun _ h_ => h_.1))) (by decide)) hk (fun _ h => h.2)) (fun _ h => h.1)); replace BK321 := Aside0.mk (KeepBut.blk hk (g' := gb321) (o := .cells #[.slice Ao75 t316.length co75] 26 (0, 0)) (blk_put BK321.out 0 _ rfl) NB321_0.out (by simp)); replace HK := Aside0.mk (KeepBut.trans (kee HK) hk (.inl rfl)); replace HB := Aside0.mk (hb); replace HI0 := Aside0.mk (hi); clear hb hk hi) | ((with_reducible refine gate_callee (f := 16) rfl ?_); refine goesL_ (some 14) rfl rfl Try.func16 (by kernel_rfl) rfl #[.pointer (some ⟨g, 0, none⟩), .int .i64 24] rfl gmp ?_; (with_reducible refine (spec_l1Cur_pick.calls g s0_0 t323 t324 24 t325 t326 t327 w0 _ ?side1 ?side2 A4.out).mono ?_); (case side1 => exact IsS47.to HI0); (case side2 => exact belA HB); rintro e w80 ⟨rfl, hi, hb, hk⟩; refine ⟨_, rfl, ?_⟩; replace BK315 := kbk hk BK315 NB315_0; replace HO318 := Aside0.mk (Kd.S_mono (Kd.S_keep (IsS47.apartS (show IsS47 w0 _ g s0_0 t323 t324 from IsS47.to HI0) (sdl HO318) (by decide)) hk (fun _ h => h.2)) (fun _ h => h.1)); replace BK321 := kbk hk BK321 NB321_0; replace HK := Aside0.mk (KeepBut.trans (kee HK) hk (.inl rfl)); replace HB := Aside0.mk (hb); replace HI0 := Aside0.mk (hi); clear hb hk hi))
 go_loopg [5] k (fun kq v5 w' => ∃ (x5_1 : Int) (x1001_1 : Int) (x1002_1 : Int) (x322000_1 : List (List Int)) (u322000 : Value), v5 = .int .i64 x5_1 ∧ Aside0 (spec_l1Cur_anyYard.l0 kq x5_1 s0_0 x1001_1 x1002_1 x322000_1 = some (r1, r2, r3)) ∧ Aside0 (kq ≤ k) ∧ Aside0 (Kd.S (Kd.slice 3 (Kd.int .i64)) 30 w' w.heap.size (fun _ => True) u322000 x322000_1) ∧ Aside0 (w'.heap[gb315]? = some (.cells #[(.slice none 0 0)] 26 (0, 0))) ∧ Aside0 (w'.heap[gb321]? = some (.cells #[u322000] 26 (0, 0))) ∧ Aside0 (IsS47 w0 w' g s0_0 x1001_1 x1002_1) ∧ Aside0 (KeepBut w w' g none) ∧ Aside0 (Below w0.heap.size w0 w'))
 case atStart => exact ⟨(0), (t326), (t327), (t316), (.slice Ao75 t316.length co75), (by rfl ), H', ⟨Nat.le_refl _⟩, ⟨sdl HO318⟩, ⟨bkl BK315⟩, ⟨bkl BK321⟩, ⟨IsS47.to HI0⟩, ⟨kee HK⟩, ⟨belA HB⟩⟩
 clear H'
 try clear c5
 try clear c5b0
 try clear c5b1
 try clear c34
 try clear c34b0
 try clear c34b1
 try clear c55
 try clear c55b0
 try clear c55b1
 try clear c71b0
 try clear c71b1
 try clear hcz78_0
 try clear hfz78_0
 obtain ⟨x5_1, x1001_1, x1002_1, x322000_1, u322000, rfl, HA, HK1, HO_322000, BK315, BK321, HI0, HK, HB⟩ := hrel
 cases gk with
 | zero => exact absurd HA.out (by simp [spec_l1Cur_anyYard.l0])
 | succ k1 =>
  have H := HA.out
  clear HA
  simp only [spec_l1Cur_anyYard.l0] at H
  obtain ⟨⟨t346, t347, t348⟩, A81, H⟩ := bnd H
  try dsimp only at H
  by_cases c82 : (x322000_1.length : Int) < (wrap64 (6 + t346))
  rotate_left
  ·rw [if_neg c82] at H
   have c82b0 : decide ((x322000_1.length : Int) < (wrap64 (6 + t346))) = false := decide_eq_false c82
   clear c82
   simp only [Option.some.injEq, Prod.mk.injEq] at H
   obtain ⟨rfl, rfl, rfl⟩ := H
   try go_wp2
   have n0_ := Aside0.mk (Kd.S_drew HO_322000.out)
   have n1_ := Aside0.mk (blk_drew BK315.out)
   have n2_ := Aside0.mk (blk_drew BK321.out)
   have n3_ := Aside0.mk (IsS47.drew HI0.out)
   have n4_ := Aside0.mk (keep_drew HK.out)
   have n5_ := Aside0.mk (below_drew1 HB.out)
   clear HO_322000 BK315 BK321 HI0 HK HB
   have HO_322000 := n0_
   have BK315 := n1_
   have BK321 := n2_
   have HI0 := n3_
   have HK := n4_
   have HB := n5_
   clear n0_ n1_ n2_ n3_ n4_ n5_
   obtain ⟨Ao106, co106, eo106⟩ := Kd.S_slice HO_322000.out
   (subst eo106 )
   refine start_ (n := 11) (S := fun w' => w'.cell? ⟨gb321, 0, none⟩ = some (.slice Ao106 x322000_1.length co106)) (ds := []) #[false, false, false, false, false, false, false, false, false, false, false] (by kernel_rfl) rfl rfl ((blk_cell BK321.out 0).trans rfl) (fun hHeld => ?_); refine with_tabW spec_l1Cur_anyYard.tab12 spec_l1Cur_anyYard.bits12 (fun HT_ HW_ => ?_)
   generalize wr.drew = w105 at HO_322000 BK315 BK321 HI0 HK HB hHeld ⊢
   refine pu 0 (some 44) (bx 11 1) (h := ?_)
   refine pu 3 (some 47) (bx 11 9) (h := ?_)
   refine take_ (i := 1) (N := some 45) (v := ?_) (a' := ?_) #[true, true, false, true, false, false, false, false, false, false, false] rfl rfl (take_ofW HT_.out HW_.out (by kernel_rfl)) (fun _ _ _ h => h) (Or.inl ⟨by rfl, ?_⟩) hHeld ?_ ?_
   rotate_left
   ·intro w' s0
    go_simp
    with_reducible rfl
   rotate_left
   ·simp only [putS]
    rfl
   refine pu 2 (some 46) (bx 11 15) (h := ?_)
   refine on 4 (some 48) (bx 11 31) (h := fun K hK => ?_)
   refine goes_ Try.func16 (by kernel_rfl) rfl #[.pointer (some ⟨g, 0, none⟩), .int .i64 2] (by rfl) rfl rfl gmp ?_
   with_reducible refine (spec_l1Cur_pick.calls g s0_0 x1001_1 x1002_1 2 t346 t347 t348 w0 _ ?side1 ?side2 A81.out).mono ?_
   (case side1 => exact IsS47.to HI0)
   (case side2 => exact belA HB)
   rintro e w107 ⟨rfl, hi, hb, hk⟩
   refine ⟨_, rfl, ?_⟩
   have n0_ := Aside0.mk (Kd.S_mono (Kd.S_keep (IsS47.apartS (show IsS47 w0 _ g s0_0 x1001_1 x1002_1 from IsS47.to HI0) (sdl HO_322000) (by decide)) hk (fun _ h => h.2)) (fun _ h => h.1))
   have n1_ := kbk hk BK315 NB315_0
   have n2_ := kbk hk BK321 NB321_0
   have n3_ := Aside0.mk (KeepBut.trans (kee HK) hk (.inl rfl))
   have n4_ := Aside0.mk (hb)
   have n5_ := Aside0.mk (hi)
   clear HO_322000 BK315 BK321 HK HB HI0
   have HO_322000 := n0_
   have BK315 := n1_
   have BK321 := n2_
   have HK := n3_
   have HB := n4_
   have HI0 := n5_
   clear n0_ n1_ n2_ n3_ n4_ n5_
   (try clear hb)
   (try clear hk)
   (try clear hi)
   refine hK.out _ _ ((blk_cell BK321.out 0).trans rfl) (fun hHeld => ?_)
   clear hK K
   refine nm 48 (h := ?_)
   refine pu 5 (some 49) (bx 11 63) (h := ?_)
   refine pu 6 (some 50) (bx 11 127) (h := ?_)
   refine pu 7 (some 51) (bx 11 255) (h := ?_)
   refine pure_ (i := 8) (N := some 52) (v := undef) (a' := ?_) #[true, true, true, true, true, true, true, true, true, false, false] rfl rfl (any_of HT_.out (by kernel_rfl)) (fun _ _ _ h => h) (Or.inr ⟨by rfl, rfl⟩) ?_ ?_
   rotate_left
   ·simp only [putS]
    rfl
   refine pure_ (i := 9) (N := some 53) (v := undef) (a' := ?_) #[true, true, true, true, true, true, true, true, true, true, false] rfl rfl (any_of HT_.out (by kernel_rfl)) (fun _ _ _ h => h) (Or.inr ⟨by rfl, rfl⟩) ?_ ?_
   rotate_left
   ·simp only [putS]
    rfl
   refine pu 10 (some 54) (bx 11 2047) (h := ?_)
   refine done_ (done_of HT_.out (by kernel_rfl)) ?_
   have hnb108 := NB321_315.out
   have hnc108 := NB315_321.out
   have hnb109 := NB321_0.out
   have hnc109 := NB0_321.out
   have hcz110_0 := bc BK321 0
   have hfz110_0 := blk_frozen BK321.out 0
   have hnb111 := NB315_0.out
   have hnc111 := NB0_315.out
   have hcz112_0 := bc BK315 0
   have hfz112_0 := blk_frozen BK315.out 0
   try go_wp2
   refine bodyPost_ret (results_cell_row rfl _ _ gb315 26 #[.slice Ao106 x322000_1.length co106] (0, 0) _ rfl (blk_put BK315.out 0 _ rfl) Try.underlying26 rfl (by kernel_rfl)) rfl ?_
   exact ⟨_, by rfl , by exact Kd.S_mono (Kd.S_far (p := ⟨gb315, 0, none⟩) (Kd.S_types HO_322000.out BK315.out (by decide)) (fun _ hk => hk.2) (.slice Ao106 x322000_1.length co106)) (fun _ hk => trivial), IsS47.to HI0, belA HB, kee HK⟩
  rw [if_pos c82] at H
  have c82b0 : decide ((x322000_1.length : Int) < (wrap64 (6 + t346))) = true := decide_eq_true c82
  clear c82
  by_cases c83 : x5_1 < 8
  rotate_left
  ·rw [if_neg c83] at H
   have c83b0 : decide (x5_1 < 8) = false := decide_eq_false c83
   clear c83
   simp only [Option.some.injEq, Prod.mk.injEq] at H
   obtain ⟨rfl, rfl, rfl⟩ := H
   try go_wp2
   have n0_ := Aside0.mk (Kd.S_drew HO_322000.out)
   have n1_ := Aside0.mk (blk_drew BK315.out)
   have n2_ := Aside0.mk (blk_drew BK321.out)
   have n3_ := Aside0.mk (IsS47.drew HI0.out)
   have n4_ := Aside0.mk (keep_drew HK.out)
   have n5_ := Aside0.mk (below_drew1 HB.out)
   clear HO_322000 BK315 BK321 HI0 HK HB
   have HO_322000 := n0_
   have BK315 := n1_
   have BK321 := n2_
   have HI0 := n3_
   have HK := n4_
   have HB := n5_
   clear n0_ n1_ n2_ n3_ n4_ n5_
   obtain ⟨Ao98, co98, eo98⟩ := Kd.S_slice HO_322000.out
   (subst eo98 )
   refine start_ (n := 11) (S := fun w' => w'.cell? ⟨gb321, 0, none⟩ = some (.slice Ao98 x322000_1.length co98)) (ds := []) #[false, false, false, false, false, false, false, false, false, false, false] (by kernel_rfl) rfl rfl ((blk_cell BK321.out 0).trans rfl) (fun hHeld => ?_); refine with_tabW spec_l1Cur_anyYard.tab12 spec_l1Cur_anyYard.bits12 (fun HT_ HW_ => ?_)
   generalize wr.drew = w97 at HO_322000 BK315 BK321 HI0 HK HB hHeld ⊢
   refine pu 0 (some 44) (bx 11 1) (h := ?_)
   refine pu 3 (some 47) (bx 11 9) (h := ?_)
   refine take_ (i := 1) (N := some 45) (v := ?_) (a' := ?_) #[true, true, false, true, false, false, false, false, false, false, false] rfl rfl (take_ofW HT_.out HW_.out (by kernel_rfl)) (fun _ _ _ h => h) (Or.inl ⟨by rfl, ?_⟩) hHeld ?_ ?_
   rotate_left
   ·intro w' s0
    go_simp
    with_reducible rfl
   rotate_left
   ·simp only [putS]
    rfl
   refine pu 2 (some 46) (bx 11 15) (h := ?_)
   refine on 4 (some 48) (bx 11 31) (h := fun K hK => ?_)
   refine goes_ Try.func16 (by kernel_rfl) rfl #[.pointer (some ⟨g, 0, none⟩), .int .i64 2] (by rfl) rfl rfl gmp ?_
   with_reducible refine (spec_l1Cur_pick.calls g s0_0 x1001_1 x1002_1 2 t346 t347 t348 w0 _ ?side1 ?side2 A81.out).mono ?_
   (case side1 => exact IsS47.to HI0)
   (case side2 => exact belA HB)
   rintro e w99 ⟨rfl, hi, hb, hk⟩
   refine ⟨_, rfl, ?_⟩
   have n0_ := Aside0.mk (Kd.S_mono (Kd.S_keep (IsS47.apartS (show IsS47 w0 _ g s0_0 x1001_1 x1002_1 from IsS47.to HI0) (sdl HO_322000) (by decide)) hk (fun _ h => h.2)) (fun _ h => h.1))
   have n1_ := kbk hk BK315 NB315_0
   have n2_ := kbk hk BK321 NB321_0
   have n3_ := Aside0.mk (KeepBut.trans (kee HK) hk (.inl rfl))
   have n4_ := Aside0.mk (hb)
   have n5_ := Aside0.mk (hi)
   clear HO_322000 BK315 BK321 HK HB HI0
   have HO_322000 := n0_
   have BK315 := n1_
   have BK321 := n2_
   have HK := n3_
   have HB := n4_
   have HI0 := n5_
   clear n0_ n1_ n2_ n3_ n4_ n5_
   (try clear hb)
   (try clear hk)
   (try clear hi)
   refine hK.out _ _ ((blk_cell BK321.out 0).trans rfl) (fun hHeld => ?_)
   clear hK K
   refine nm 48 (h := ?_)
   refine pu 5 (some 49) (bx 11 63) (h := ?_)
   refine pu 6 (some 50) (bx 11 127) (h := ?_)
   refine pu 7 (some 51) (bx 11 255) (h := ?_)
   refine pu 8 (some 52) (bx 11 511) (h := ?_)
   refine pu 9 (some 53) (bx 11 1023) (h := ?_)
   refine pu 10 (some 54) (bx 11 2047) (h := ?_)
   refine done_ (done_of HT_.out (by kernel_rfl)) ?_
   have hnb100 := NB321_315.out
   have hnc100 := NB315_321.out
   have hnb101 := NB321_0.out
   have hnc101 := NB0_321.out
   have hcz102_0 := bc BK321 0
   have hfz102_0 := blk_frozen BK321.out 0
   have hnb103 := NB315_0.out
   have hnc103 := NB0_315.out
   have hcz104_0 := bc BK315 0
   have hfz104_0 := blk_frozen BK315.out 0
   try go_wp2
   refine bodyPost_ret (results_cell_row rfl _ _ gb315 26 #[.slice Ao98 x322000_1.length co98] (0, 0) _ rfl (blk_put BK315.out 0 _ rfl) Try.underlying26 rfl (by kernel_rfl)) rfl ?_
   exact ⟨_, by rfl , by exact Kd.S_mono (Kd.S_far (p := ⟨gb315, 0, none⟩) (Kd.S_types HO_322000.out BK315.out (by decide)) (fun _ hk => hk.2) (.slice Ao98 x322000_1.length co98)) (fun _ hk => trivial), IsS47.to HI0, belA HB, kee HK⟩
  rw [if_pos c83] at H
  have c83b0 : decide (x5_1 < 8) = true := decide_eq_true c83
  clear c83
  obtain ⟨y349, hy349⟩ : ∃ y_ : List Int, y_ = (([wrap64 (40 + x5_1)] : List Int)) := ⟨_, rfl⟩
  replace H : (if x322000_1.length < 5864062014805 then (spec_l1Cur_anyYard.l0 k1 (wrap64 (x5_1 + 1)) s0_0 t347 t348 (x322000_1 ++ [y349])) else (none)) = some (r1, r2, r3) := by (rw [hy349]; with_reducible exact H) 
  have Ny349 := Aside0.mk hy349
  clear hy349
  by_cases c84 : x322000_1.length < 5864062014805
  rotate_left
  ·rw [if_neg c84] at H
   exact absurd H (by simp)
  rw [if_pos c84] at H
  have LMc84 := Aside0.mk c84
  clear c84
  obtain ⟨y352, hy352⟩ : ∃ y_ : List (List Int), y_ = (x322000_1 ++ [y349]) := ⟨_, rfl⟩
  replace H : (spec_l1Cur_anyYard.l0 k1 (wrap64 (x5_1 + 1)) s0_0 t347 t348 y352) = some (r1, r2, r3) := by (rw [hy352]; with_reducible exact H) 
  have Ny352 := Aside0.mk hy352
  clear hy352
  have H' := Aside0.mk H
  clear H
  try go_wp2
  have n0_ := Aside0.mk (Kd.S_drew HO_322000.out)
  have n1_ := Aside0.mk (blk_drew BK315.out)
  have n2_ := Aside0.mk (blk_drew BK321.out)
  have n3_ := Aside0.mk (IsS47.drew HI0.out)
  have n4_ := Aside0.mk (keep_drew HK.out)
  have n5_ := Aside0.mk (below_drew1 HB.out)
  clear HO_322000 BK315 BK321 HI0 HK HB
  have HO_322000 := n0_
  have BK315 := n1_
  have BK321 := n2_
  have HI0 := n3_
  have HK := n4_
  have HB := n5_
  clear n0_ n1_ n2_ n3_ n4_ n5_
  obtain ⟨Ao86, co86, eo86⟩ := Kd.S_slice HO_322000.out
  (subst eo86 )
  refine start_ (n := 11) (S := fun w' => w'.cell? ⟨gb321, 0, none⟩ = some (.slice Ao86 x322000_1.length co86)) (ds := []) #[false, false, false, false, false, false, false, false, false, false, false] (by kernel_rfl) rfl rfl ((blk_cell BK321.out 0).trans rfl) (fun hHeld => ?_); refine with_tabW spec_l1Cur_anyYard.tab12 spec_l1Cur_anyYard.bits12 (fun HT_ HW_ => ?_)
  generalize wr.drew = w85 at HO_322000 BK315 BK321 HI0 HK HB hHeld ⊢
  refine pu 0 (some 44) (bx 11 1) (h := ?_)
  refine pu 3 (some 47) (bx 11 9) (h := ?_)
  refine take_ (i := 1) (N := some 45) (v := ?_) (a' := ?_) #[true, true, false, true, false, false, false, false, false, false, false] rfl rfl (take_ofW HT_.out HW_.out (by kernel_rfl)) (fun _ _ _ h => h) (Or.inl ⟨by rfl, ?_⟩) hHeld ?_ ?_
  rotate_left
  ·intro w' s0
   go_simp
   with_reducible rfl
  rotate_left
  ·simp only [putS]
   rfl
  refine pu 2 (some 46) (bx 11 15) (h := ?_)
  refine on 4 (some 48) (bx 11 31) (h := fun K hK => ?_)
  refine goes_ Try.func16 (by kernel_rfl) rfl #[.pointer (some ⟨g, 0, none⟩), .int .i64 2] (by rfl) rfl rfl gmp ?_
  with_reducible refine (spec_l1Cur_pick.calls g s0_0 x1001_1 x1002_1 2 t346 t347 t348 w0 _ ?side1 ?side2 A81.out).mono ?_
  (case side1 => exact IsS47.to HI0)
  (case side2 => exact belA HB)
  rintro e w87 ⟨rfl, hi, hb, hk⟩
  refine ⟨_, rfl, ?_⟩
  have n0_ := Aside0.mk (Kd.S_mono (Kd.S_keep (IsS47.apartS (show IsS47 w0 _ g s0_0 x1001_1 x1002_1 from IsS47.to HI0) (sdl HO_322000) (by decide)) hk (fun _ h => h.2)) (fun _ h => h.1))
  have n1_ := kbk hk BK315 NB315_0
  have n2_ := kbk hk BK321 NB321_0
  have n3_ := Aside0.mk (KeepBut.trans (kee HK) hk (.inl rfl))
  have n4_ := Aside0.mk (hb)
  have n5_ := Aside0.mk (hi)
  clear HO_322000 BK315 BK321 HK HB HI0
  have HO_322000 := n0_
  have BK315 := n1_
  have BK321 := n2_
  have HK := n3_
  have HB := n4_
  have HI0 := n5_
  clear n0_ n1_ n2_ n3_ n4_ n5_
  (try clear hb)
  (try clear hk)
  (try clear hi)
  refine hK.out _ _ ((blk_cell BK321.out 0).trans rfl) (fun hHeld => ?_)
  clear hK K
  refine nm 48 (h := ?_)
  refine pu 5 (some 49) (bx 11 63) (h := ?_)
  refine pu 6 (some 50) (bx 11 127) (h := ?_)
  refine pu 7 (some 51) (bx 11 255) (h := ?_)
  refine pu 8 (some 52) (bx 11 511) (h := ?_)
  refine pu 9 (some 53) (bx 11 1023) (h := ?_)
  refine pu 10 (some 54) (bx 11 2047) (h := ?_)
  refine done_ (done_of HT_.out (by kernel_rfl)) ?_
  have hnb88 := NB321_315.out
  have hnc88 := NB315_321.out
  have hnb89 := NB321_0.out
  have hnc89 := NB0_321.out
  have hcz90_0 := bc BK321 0
  have hfz90_0 := blk_frozen BK321.out 0
  try go_wp2_with (first | ((with_reducible refine gate_dst (N := 61) rfl ?_); refine Kd.R_lit (Kd.int .i64) _ 3 ?hg (N := 61) ?hd (xs := ([wrap64 (40 + x5_1)] : List Int)) (inner := [.int .i64 (wrap64 (40 + x5_1))]) (ok := fun _ => True) (okp := fun _ => True) ?hr ?hp (fun _ hk => hk) trivial (Below.refl _ _) (Nat.le_refl _) (by simp) ?_; (case hd | hg => rfl); (case hr => go_simp); (case hp => exact (Reps.one (show Kd.M (Kd.int .i64) _ _ _ (wrap64 (40 + x5_1)) [.int .i64 (wrap64 (40 + x5_1))] from rfl) (Reps.none _ _))); intro v350 w91 ho92 hb hg_ hnew_; clear hg_ hnew_; (rw [← Ny349.out] at ho92 ); replace HO_322000 := Aside0.mk (Kd.S_elder' (sdl HO_322000) (Kd.R_base ho92) hb); have HO351 := Aside0.mk (Kd.R_lower ho92 (keep_size (w := w) (g := g) (row := none) (kee HK))); replace BK315 := bkb BK315 hb; replace BK321 := bkb BK321 hb; replace HI0 := Aside0.mk (IsS47.below (IsS47.to HI0) hb); replace HK := Aside0.mk (KeepBut.trans (kee HK) (KeepBut.of_below hb g none) (.inl rfl)); replace HB := Aside0.mk (below_step (belA HB) hb); clear hb ho92; obtain ⟨Ao94, co94, eo94⟩ := Kd.R_slice HO351.out; subst eo94) | ((with_reducible refine gate_builtin (b := .append) (xs := #[.tmp 58, .tmp 62]) rfl ?_); at_builtin; refine Kd.S_append (Kd.slice 3 (Kd.int .i64)) w.heap.size rfl (.tmp 58) (.tmp 62) 24 30 (.slice none 0 0) 24 rfl Try.underlying24 info30 rfl (by decide) (by omega) (.slice Ao86 x322000_1.length co86) x322000_1 y349 [.slice Ao94 y349.length co94] (fun _ => True) (fun k_ => some k_ = (.slice Ao94 y349.length co94 : Value).ownBlock) rfl rfl ?aP (fun k_ hk_ => ((Kd.R_mono (ok' := fun k_ => ((fun _ => True)) k_ ∧ some k_ ≠ (.slice Ao86 x322000_1.length co86 : Value).ownBlock) (Kd.R_apart' (HO351.out) (Kd.S_typed HO_322000.out) (by decide)) (fun k_ hk => ⟨trivial, hk.2⟩))).1 k_ hk_.symm) ?aF ?aO (Below.refl _ _) ?aS ?aL ?_; (case aP => exact Kd.M_row (Kd.R_mono (Kd.R_tight rfl (Kd.R_mono (ok' := fun k_ => ((fun _ => True)) k_ ∧ some k_ ≠ (.slice Ao86 x322000_1.length co86 : Value).ownBlock) (Kd.R_apart' (HO351.out) (Kd.S_typed HO_322000.out) (by decide)) (fun k_ hk => ⟨trivial, hk.2⟩))) (fun _ h_ => h_))); (case aF => exact (fun _ _ => trivial)); (case aO => exact (by exact Kd.S_mono HO_322000.out (fun k_ hk => ⟨trivial, fun e_ => hk.2 e_⟩))); (case aS => exact (keep_size (w := w) (g := g) (row := none) (kee HK))); (case aL => have := LMc84.out; omega); intro v353 w93 ho hb hg hat; rw [← Ny352.out] at ho; replace BK315 := Aside0.mk (blk_grown (g := gb315) (o := .cells #[.slice none 0 0] 26 (0, 0)) (bkl BK315) hg (Kd.S_ne HO_322000.out BK315.out (by decide))); replace BK321 := Aside0.mk (blk_grown (g := gb321) (o := .cells #[.slice Ao86 x322000_1.length co86] 26 (0, 0)) (bkl BK321) hg (Kd.S_ne HO_322000.out BK321.out (by decide))); replace HI0 := Aside0.mk (IsS47.grown (IsS47.to HI0) hg (IsS47.own_neS HI0.out HO_322000.out (by decide))); replace HB := Aside0.mk (below_weaken (belA HB) HL.out hb); replace HK := Aside0.mk (KeepBut.trans (kee HK) (KeepBut.of_grown hg g) (Kd.S_base2 HO_322000.out)); have HO354 := Aside0.mk (ho); clear HO_322000; clear HO351; clear ho hb hg hat; obtain ⟨Ao95, co95, eo95⟩ := Kd.S_slice HO354.out; subst eo95; obtain ⟨_, _⟩ := bf1 BK321))
  go_roundg k1
  case measure => have := HK1.out; omega
  case rel => exact ⟨(wrap64 (x5_1 + 1)), (t347), (t348), (y352), (.slice Ao95 y352.length co95), (by rfl ), H', ⟨by have := HK1.out; omega⟩, ⟨by exact Kd.S_mono (Kd.S_far (p := ⟨gb321, 0, none⟩) (Kd.S_types HO354.out BK321.out (by decide)) (fun _ hk => hk.2) (.slice Ao95 y352.length co95)) (fun _ hk => trivial)⟩, ⟨by refine blk_far ?_ NB315_321.out _; exact BK315.out⟩, ⟨by refine blk_put (cs := #[.slice Ao86 x322000_1.length co86]) ?_ 0 _ rfl; exact BK321.out⟩, ⟨IsS47.to HI0⟩, ⟨kee HK⟩, ⟨belA HB⟩⟩
end Go.Proofs.Ytemildnlfjijmaa.P
