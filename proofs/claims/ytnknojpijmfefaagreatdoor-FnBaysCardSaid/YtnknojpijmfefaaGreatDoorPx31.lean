-- Written by a program of this session over the translation (a variant of the printer, see wip/gen); Lean checks it.
import Derived.Test.YtnknojpijmfefaaGreatDoorPx0
import Derived.Test.YtnknojpijmfefaaGreatDoorPx1
import Derived.Test.YtnknojpijmfefaaGreatDoorPx4
import Derived.Test.YtnknojpijmfefaaGreatDoorPx6
import Derived.Test.YtnknojpijmfefaaGreatDoorPx9
import Derived.Test.YtnknojpijmfefaaGreatDoorPx11
import Derived.Test.YtnknojpijmfefaaGreatDoorPx12
import Derived.Test.YtnknojpijmfefaaGreatDoorPx16
import Derived.Test.YtnknojpijmfefaaGreatDoorPx20
import Derived.Test.YtnknojpijmfefaaGreatDoorPx27
import Derived.Test.YtnknojpijmfefaaGreatDoorPx30
import Derived.Test.YtnknojpijmfefaaGreatDoorU
namespace Go.Proofs.YtnknojpijmfefaaGreatDoor.P
open Go.RowKit Go.Proofs.YtnknojpijmfefaaGreatDoorW.PrintWords Go.Proofs.YtnknojpijmfefaaGreatDoorW.PrintLast Go.Proofs.YtnknojpijmfefaaGreatDoorW.PrintMore
attribute [local go_sem] Go.Proofs.YtnknojpijmfefaaGreatDoor.V.isSome_setCell max2_int min2_int max_two min_two max_three min_three max_four min_four
set_option linter.unusedVariables false
set_option linter.unusedSimpArgs false
/-! ### laws_FnBays: function 3 -/
--LAWHAND gg
/-- A bay in a box of its own. -/
def BxS (w W : World) (g : Nat) (h : Int) (A : Option Addr) (c : Nat) (l : List (List Int)) : Prop := W.heap[g]? = some (.cells #[.int .i64 h, .slice A l.length c] 26 (0, 0)) ∧ w.heap.size ≤ g ∧ Kd.S (Kd.slice 3 (Kd.int .i64)) 48 W w.heap.size (fun _ => True) (.slice A l.length c) l
theorem BxS.below {w W W1 : World} {g : Nat} {h : Int} {A : Option Addr} {c : Nat} {l : List (List Int)} (hx : BxS w W g h A c l) (hb : Below W.heap.size W W1) : BxS w W1 g h A c l := ⟨blk_below hx.1 hb, hx.2.1, Kd.S_below hx.2.2 hb⟩
theorem BxS.new {w W : World} {h : Int} {A : Option Addr} {c : Nat} {l : List (List Int)} (hb : Below w.heap.size w W) (ho : Kd.S (Kd.slice 3 (Kd.int .i64)) 48 W w.heap.size (fun _ => True) (.slice A l.length c) l) : BxS w (W.alloc (.cells #[.int .i64 h, .slice A l.length c] 26 (0, 0))) W.heap.size h A c l := ⟨blk_new _ _, hb.size, Kd.S_alloc ho _⟩
theorem BxS.cells {w W : World} {g : Nat} {h : Int} {A : Option Addr} {c : Nat} {l : List (List Int)} (hx : BxS w W g h A c l) : W.cell? ⟨g, 0, none⟩ = some (.int .i64 h) ∧ W.cell? ⟨g, 1, none⟩ = some (.slice A l.length c) := ⟨(blk_cell hx.1 0).trans rfl, (blk_cell hx.1 1).trans rfl⟩
theorem BxS.reads {w W : World} {g : Nat} {h : Int} {A : Option Addr} {c : Nat} {l : List (List Int)} (hx : BxS w W g h A c l) : Kd.C (Kd.slice 3 (Kd.int .i64)) W A l.length l ∧ l.length ≤ c := ⟨(Kd.S_reads' hx.2.2).2.2, (Kd.S_reads' hx.2.2).2.1⟩
theorem BxS.drew {w W : World} {g : Nat} {h : Int} {A : Option Addr} {c : Nat} {l : List (List Int)} (hx : BxS w W g h A c l) : BxS w W.drew g h A c l := ⟨hx.1, hx.2.1, Kd.S_drew hx.2.2⟩
/-- What the law's walk asks. -/
def laws_FnBays.Ok (k : Nat) (c : List Int) : Prop := laws_vBig.f c = some true ∨ (laws_vBig.f c = some false ∧ ∃ h l a n, spec_DrawLoadBox.f k c = some (h, l, a, n) ∧ ∃ mh ml ok, impl_LoadBox.f k h l a n = some (mh, ml, ok) ∧ spec_LoadBox.f k h l a n = some (mh, ml, ok) ∧ laws_vBay.f k mh ml mh ml = some true ∧ ∃ v, impl_IsValidBay.f h l = some v ∧ spec_IsValidBay.f k h l = some v ∧
  (ok = true → impl_UnloadRow.f k mh ml a = some (h, l, n, true) ∧ ∃ tier, 0 ≤ tier ∧ impl_SlotOf.f k mh ml n = some (a, tier, true)) ∧ laws_vBay.f k h l h l = some true ∧
  ∃ s, impl_BayText.f k h l = some (s, v) ∧ ∃ xh xl fine, impl_ParseBay.f k s = some (xh, xl, fine) ∧ (v = true → xh = h ∧ xl = l ∧ fine = true) ∧
  ∃ t, spec_DrawParseBay.f k c = some t ∧ ∃ yh yl rd, impl_ParseBay.f k t = some (yh, yl, rd) ∧ ∃ u again, impl_BayText.f k yh yl = some (u, again) ∧ (rd = true → again = true ∧ u = t))
def laws_FnBays.T6 : Bool × List (List Nat × List Nat) := (true, [([], []), ([], []), ([0, 1], [0, 1]), ([2], [2]), ([3], [3]), ([3], [3]), ([4, 5, 3, 3], [3, 4, 5]), ([6, 3], [3, 6]), ([3, 7], [3, 7]), ([8, 6], [8]), ([9], [9]), ([10, 9, 9], [9, 10]), ([9], [9]), ([12, 11, 9], [9, 12]), ([11, 13, 9], [9, 11, 13]), ([9, 14], [9, 14])])
def laws_FnBays.B6 : List Nat := [0, 0, 3, 7, 15, 15, 63, 127, 255, 511, 1023, 2047, 1023, 8191, 16383, 32767]
theorem laws_FnBays.tab6 : rtab .any (opsOf Tryz.f3 6) = laws_FnBays.T6 := by kernel_rfl
theorem laws_FnBays.bits6 : waitsOk laws_FnBays.T6.2 laws_FnBays.B6 = true := by kernel_rfl
set_option maxHeartbeats 8000000 in
set_option maxRecDepth 100000 in
theorem laws_FnBays.walks (k : Nat) (A0 : Option Addr) (c0 : Nat) (l0 : List Int) (w : World) (hr0 : Kd.C (Kd.int .u8) w A0 l0.length l0) (hc0 : l0.length ≤ c0) (hbig : laws_vBig.f l0 = some false) (hG : GGlob w) (h : Int) (l : List (List Int)) (a n : Int) (h1 : spec_DrawLoadBox.f k l0 = some (h, l, a, n)) (mh : Int) (ml : List (List Int)) (ok : Bool) (h2 : impl_LoadBox.f k h l a n = some (mh, ml, ok)) (h3 : spec_LoadBox.f k h l a n = some (mh, ml, ok)) (h4 : laws_vBay.f k mh ml mh ml = some true) (v : Bool) (h5 : impl_IsValidBay.f h l = some v) (h6 : spec_IsValidBay.f k h l = some v) (h7 : ok = true → impl_UnloadRow.f k mh ml a = some (h, l, n, true) ∧ ∃ tier, 0 ≤ tier ∧ impl_SlotOf.f k mh ml n = some (a, tier, true)) (h9 : laws_vBay.f k h l h l = some true) (s : ByteArray) (h10 : impl_BayText.f k h l = some (s, v)) (xh : Int) (xl : List (List Int)) (fine : Bool) (h11 : impl_ParseBay.f k s = some (xh, xl, fine)) (hv : v = true → xh = h ∧ xl = l ∧ fine = true) (t : ByteArray) (h12 : spec_DrawParseBay.f k l0 = some t) (yh : Int) (yl : List (List Int)) (rd : Bool) (h13 : impl_ParseBay.f k t = some (yh, yl, rd)) (u : ByteArray) (again : Bool) (h14 : impl_BayText.f k yh yl = some (u, again)) (h15 : rd = true → again = true ∧ u = t) :
    Calls Tryz.prog 3 #[.slice A0 l0.length c0] w fun e w' => e = .returned (.bool true) ∧ Below w.heap.size w w' := by
 have hu := Tryz.underlying26
 have HR0 := Aside0.mk hr0
 have HC0 := Aside0.mk hc0
 have B0 := Aside0.mk hbig
 have A1 := Aside0.mk h1
 have A2 := Aside0.mk h2
 have A3 := Aside0.mk h3
 have A4 := Aside0.mk h4
 have A5 := Aside0.mk h5
 have A6 := Aside0.mk h6
 have A7 := Aside0.mk h7
 have A9 := Aside0.mk h9
 have A10 := Aside0.mk h10
 have A11 := Aside0.mk h11
 have AV := Aside0.mk hv
 have A12 := Aside0.mk h12
 have A13 := Aside0.mk h13
 have A14 := Aside0.mk h14
 have A15 := Aside0.mk h15
 have HG := Aside0.mk hG
 clear hr0 hc0 hbig h1 h2 h3 h4 h5 h6 h7 h9 h10 h11 hv h12 h13 h14 h15 hG
 go_enter Tryz.func3, Tryz.ntmps3
 go_upto_region 4 with (first | (go_at_call 4; refine (laws_vBig.calls A0 c0 l0 false _ HR0.out HC0.out B0.out).mono ?_; rintro e w1 ⟨rfl, hd⟩; have HB1 := Aside0.mk hd.below; have HR1 := Aside0.mk (Kd.C_below HR0.out hd.below); clear hd) | (go_at_call 5; refine (spec_DrawLoadBox.calls k A0 c0 l0 h l a n _ HR1.out HC0.out A1.out).mono ?_; rintro e w2 ⟨v, rfl, ho, hb⟩; have HO2 := Aside0.mk (Kd.S_lower ho HB1.out.size); have HB2 := Aside0.mk (below_step HB1.out hb); clear ho hb; obtain ⟨Ab, cb, eb⟩ := Kd.S_slice HO2.out; subst eb))
 have X1 := Aside0.mk (BxS.new (h := h) HB2.out HO2.out)
 have HB3 := Aside0.mk (below_alloc HB2.out (.cells #[.int .i64 h, .slice Ab l.length cb] 26 (0, 0)))
 clear HO2 HB2 HB1 HR1
 generalize w2.alloc (.cells #[.int .i64 h, .slice Ab l.length cb] 26 (0, 0)) = w3 at X1 HB3 ⊢
 generalize w2.heap.size = gb at X1 ⊢
 have hb0 := X1.out.cells.1
 have hb1 := X1.out.cells.2
 go_upto_region 5 with (first | (go_at_call 6; refine (impl_LoadBox.calls k h Ab cb l a n mh ml ok _ X1.out.reads.1 X1.out.reads.2 A2.out).mono ?_; rintro e w4 ⟨v, rfl, ho, hb⟩; have HO4 := Aside0.mk (Kd.S_lower ho HB3.out.size); have HB4 := Aside0.mk (below_step HB3.out hb); have X2 := Aside0.mk (X1.out.below hb); clear ho hb X1 HB3 hb0 hb1; obtain ⟨Am, cm, em⟩ := Kd.S_slice HO4.out; subst em))
 have M2 := Aside0.mk (BxS.new (h := mh) HB4.out HO4.out)
 have X3 := Aside0.mk (X2.out.below (below_alloc (Below.refl _ _) (.cells #[.int .i64 mh, .slice Am ml.length cm] 26 (0, 0))))
 have HB5 := Aside0.mk (below_alloc HB4.out (.cells #[.int .i64 mh, .slice Am ml.length cm] 26 (0, 0)))
 clear HO4 HB4 X2
 generalize w4.alloc (.cells #[.int .i64 mh, .slice Am ml.length cm] 26 (0, 0)) = w5 at X3 M2 HB5 ⊢
 generalize w4.heap.size = gm at M2 ⊢
 have hb0 := X3.out.cells.1
 have hb1 := X3.out.cells.2
 go_upto_region 6 with (first | (go_at_call 7; refine (spec_LoadBox.calls k h Ab cb l a n mh ml ok _ X3.out.reads.1 X3.out.reads.2 A3.out).mono ?_; rintro e w6 ⟨v, rfl, ho, hb⟩; have HO6 := Aside0.mk (Kd.S_lower ho HB5.out.size); have HB6 := Aside0.mk (below_step HB5.out hb); have X4 := Aside0.mk (X3.out.below hb); have M3 := Aside0.mk (M2.out.below hb); clear ho hb X3 M2 HB5 hb0 hb1; obtain ⟨Aw, cw, ew⟩ := Kd.S_slice HO6.out; subst ew))
 have Q3 := Aside0.mk (BxS.new (h := mh) HB6.out HO6.out)
 have X5 := Aside0.mk (X4.out.below (below_alloc (Below.refl _ _) (.cells #[.int .i64 mh, .slice Aw ml.length cw] 26 (0, 0))))
 have M4 := Aside0.mk (M3.out.below (below_alloc (Below.refl _ _) (.cells #[.int .i64 mh, .slice Aw ml.length cw] 26 (0, 0))))
 have HB7 := Aside0.mk (below_alloc HB6.out (.cells #[.int .i64 mh, .slice Aw ml.length cw] 26 (0, 0)))
 clear HO6 HB6 X4 M3
 generalize w6.alloc (.cells #[.int .i64 mh, .slice Aw ml.length cw] 26 (0, 0)) = w7 at X5 M4 Q3 HB7 ⊢
 generalize w6.heap.size = gw at Q3 ⊢
 have hm0 := M4.out.cells.1
 have hm1 := M4.out.cells.2
 have hw0 := Q3.out.cells.1
 have hw1 := Q3.out.cells.2
 have hb0 := X5.out.cells.1
 have hb1 := X5.out.cells.2
 have hd0 : ∀ {W : World} {g : Nat} {h : Int} {A : Option Addr} {c : Nat} {l : List (List Int)}, BxS w W g h A c l → W.cell? ⟨g, 0, none⟩ = some (.int .i64 h) ∧ W.cell? ⟨g, 1, none⟩ = some (.slice A l.length c) := fun hx => hx.cells
 go_upto_region 6 with (fail)
 have XD := Aside0.mk (BxS.drew X5.out)
 have MD := Aside0.mk (BxS.drew M4.out)
 have QD := Aside0.mk (BxS.drew Q3.out)
 have HBD := Aside0.mk (below_drew1 HB7.out)
 clear X5 M4 Q3 HB7 hm0 hm1 hw0 hw1 hb0 hb1
 refine start_ (n := 16) (S := fun w' => w'.cell? ⟨gb, 0, none⟩ = some (.int .i64 h) ∧ w'.cell? ⟨gb, 1, none⟩ = some (.slice Ab l.length cb) ∧ w'.cell? ⟨gm, 0, none⟩ = some (.int .i64 mh) ∧ w'.cell? ⟨gm, 1, none⟩ = some (.slice Am ml.length cm) ∧ w'.cell? ⟨gw, 0, none⟩ = some (.int .i64 mh) ∧ w'.cell? ⟨gw, 1, none⟩ = some (.slice Aw ml.length cw)) (ds := []) #[false, false, false, false, false, false, false, false, false, false, false, false, false, false, false, false] (by kernel_rfl) rfl rfl ⟨(XD.out.cells).1, (XD.out.cells).2, (MD.out.cells).1, (MD.out.cells).2, (QD.out.cells).1, (QD.out.cells).2⟩ (fun hHeld => ?_)
 refine with_tabW laws_FnBays.tab6 laws_FnBays.bits6 (fun HT_ HW_ => ?_)
 generalize w7.drew = W0 at XD MD QD HBD hHeld ⊢
 refine pure_ (i := 0) (N := some 47) (v := ?_) (a' := ?_) #[true, false, false, false, false, false, false, false, false, false, false, false, false, false, false, false] rfl rfl (any_of HT_.out (by kernel_rfl)) (fun _ _ _ h => h) (Or.inl ⟨by rfl, ?_⟩) ?_ ?_
 rotate_left
 ·intro w'
  go_simp
  with_reducible rfl
 rotate_left
 ·simp only [putS]
  rfl
 refine pure_ (i := 1) (N := some 48) (v := ?_) (a' := ?_) #[true, true, false, false, false, false, false, false, false, false, false, false, false, false, false, false] rfl rfl (any_of HT_.out (by kernel_rfl)) (fun _ _ _ h => h) (Or.inl ⟨by rfl, ?_⟩) ?_ ?_
 rotate_left
 ·intro w'
  go_simp
  with_reducible rfl
 rotate_left
 ·simp only [putS]
  rfl
 refine pure_ (i := 2) (N := some 49) (v := ?_) (a' := ?_) #[true, true, true, false, false, false, false, false, false, false, false, false, false, false, false, false] rfl rfl (any_of HT_.out (by kernel_rfl)) (fun _ _ _ h => h) (Or.inl ⟨by rfl, ?_⟩) ?_ ?_
 rotate_left
 ·intro w'
  go_simp
  with_reducible rfl
 rotate_left
 ·simp only [putS]
  rfl
 refine pure_ (i := 3) (N := some 50) (v := ?_) (a' := ?_) #[true, true, true, true, false, false, false, false, false, false, false, false, false, false, false, false] rfl rfl (any_of HT_.out (by kernel_rfl)) (fun _ _ _ h => h) (Or.inl ⟨by rfl, ?_⟩) ?_ ?_
 rotate_left
 ·intro w'
  go_simp
  with_reducible rfl
 rotate_left
 ·simp only [putS]
  rfl
 refine take_ (i := 4) (N := some 51) (v := ?_) (a' := ?_) #[true, true, true, true, true, false, false, false, false, false, false, false, false, false, false, false] rfl rfl (take_ofW HT_.out HW_.out (by kernel_rfl)) (fun _ _ _ h => h) (Or.inl ⟨by rfl, ?_⟩) hHeld ?_ ?_
 rotate_left
 ·rintro w' ⟨s0, s1, s2, s3, s4, s5⟩
  go_simp
  with_reducible rfl
 rotate_left
 ·simp only [putS]
  rfl
 refine take_ (i := 5) (N := some 52) (v := ?_) (a' := ?_) #[true, true, true, true, true, true, false, false, false, false, false, false, false, false, false, false] rfl rfl (take_ofW HT_.out HW_.out (by kernel_rfl)) (fun _ _ _ h => h) (Or.inl ⟨by rfl, ?_⟩) hHeld ?_ ?_
 rotate_left
 ·rintro w' ⟨s0, s1, s2, s3, s4, s5⟩
  go_simp
  with_reducible rfl
 rotate_left
 ·simp only [putS]
  rfl
 refine one_ (i := 6) (N := some 53) #[true, true, true, true, true, true, true, false, false, false, false, false, false, false, false, false] rfl rfl (one_of HT_.out (by kernel_rfl)) (by decide) (fun K hK => ?_)
 refine goes_ Tryz.func8 (by kernel_rfl) rfl #[.agg #[.int .i64 mh, .slice Am ml.length cm], .agg #[.int .i64 mh, .slice Aw ml.length cw]] (by rfl) rfl rfl gmp ?_
 refine (laws_vBay.calls k mh Am cm ml mh Aw cw ml true _ MD.out.reads.1 MD.out.reads.2 QD.out.reads.1 QD.out.reads.2 A4.out).mono ?_
 rintro e W1 ⟨rfl, hb⟩
 refine ⟨_, rfl, ?_⟩
 have XE := Aside0.mk (XD.out.below hb)
 have ME := Aside0.mk (MD.out.below hb)
 have QE := Aside0.mk (QD.out.below hb)
 have HBE := Aside0.mk (below_step HBD.out hb)
 clear hb XD MD QD HBD
 refine hK.out _ _ ⟨(XE.out.cells).1, (XE.out.cells).2, (ME.out.cells).1, (ME.out.cells).2, (QE.out.cells).1, (QE.out.cells).2⟩ (fun hHeld => ?_)
 clear hK K
 refine norm_ (a' := ?_) ?_ ?_
 rotate_left
 ·show Act.put _ (some 53) _ = _
  simp only [putS]
  rfl
 refine pure_ (i := 7) (N := some 54) (v := ?_) (a' := ?_) #[true, true, true, true, true, true, true, true, false, false, false, false, false, false, false, false] rfl rfl (any_of HT_.out (by kernel_rfl)) (fun _ _ _ h => h) (Or.inl ⟨by rfl, ?_⟩) ?_ ?_
 rotate_left
 ·intro w'
  go_simp
  with_reducible rfl
 rotate_left
 ·simp only [putS]
  rfl
 refine pure_ (i := 8) (N := some 55) (v := ?_) (a' := ?_) #[true, true, true, true, true, true, true, true, true, false, false, false, false, false, false, false] rfl rfl (any_of HT_.out (by kernel_rfl)) (fun _ _ _ h => h) (Or.inl ⟨by rfl, ?_⟩) ?_ ?_
 rotate_left
 ·intro w'
  go_simp
  with_reducible rfl
 rotate_left
 ·simp only [putS]
  rfl
 refine pure_ (i := 9) (N := some 56) (v := ?_) (a' := ?_) #[true, true, true, true, true, true, true, true, true, true, false, false, false, false, false, false] rfl rfl (any_of HT_.out (by kernel_rfl)) (fun _ _ _ h => h) (Or.inl ⟨by rfl, ?_⟩) ?_ ?_
 rotate_left
 ·intro w'
  go_simp
  with_reducible rfl
 rotate_left
 ·simp only [putS]
  rfl
 refine take_ (i := 10) (N := some 57) (v := ?_) (a' := ?_) #[true, true, true, true, true, true, true, true, true, true, true, false, false, false, false, false] rfl rfl (take_ofW HT_.out HW_.out (by kernel_rfl)) (fun _ _ _ h => h) (Or.inl ⟨by rfl, ?_⟩) hHeld ?_ ?_
 rotate_left
 ·rintro w' ⟨s0, s1, s2, s3, s4, s5⟩
  go_simp
  with_reducible rfl
 rotate_left
 ·simp only [putS]
  rfl
 refine take_ (i := 12) (N := some 59) (v := ?_) (a' := ?_) #[true, true, true, true, true, true, true, true, true, true, true, false, true, false, false, false] rfl rfl (take_ofW HT_.out HW_.out (by kernel_rfl)) (fun _ _ _ h => h) (Or.inl ⟨by rfl, ?_⟩) hHeld ?_ ?_
 rotate_left
 ·rintro w' ⟨s0, s1, s2, s3, s4, s5⟩
  go_simp
  with_reducible rfl
 rotate_left
 ·simp only [putS]
  rfl
 refine one_ (i := 11) (N := some 58) #[true, true, true, true, true, true, true, true, true, true, true, true, true, false, false, false] rfl rfl (one_of HT_.out (by kernel_rfl)) (by decide) (fun K hK => ?_)
 refine goes_ Tryz.func9 (by kernel_rfl) rfl #[.agg #[.int .i64 h, .slice Ab l.length cb]] (by rfl) rfl rfl gmp ?_
 refine (impl_IsValidBay.calls h Ab cb l v _ XE.out.reads.1 XE.out.reads.2 A5.out).mono ?_
 rintro e W2 ⟨rfl, hb⟩
 refine ⟨_, rfl, ?_⟩
 have XF := Aside0.mk (XE.out.below hb)
 have MF := Aside0.mk (ME.out.below hb)
 have QF := Aside0.mk (QE.out.below hb)
 have HBF := Aside0.mk (below_step HBE.out hb)
 clear hb XE ME QE HBE
 refine hK.out _ _ ⟨(XF.out.cells).1, (XF.out.cells).2, (MF.out.cells).1, (MF.out.cells).2, (QF.out.cells).1, (QF.out.cells).2⟩ (fun hHeld => ?_)
 clear hK K
 refine norm_ (a' := ?_) ?_ ?_
 rotate_left
 ·show Act.put _ (some 58) _ = _
  simp only [putS]
  rfl
 refine one_ (i := 13) (N := some 60) #[true, true, true, true, true, true, true, true, true, true, true, true, true, true, false, false] rfl rfl (one_of HT_.out (by kernel_rfl)) (by decide) (fun K hK => ?_)
 refine goes_ Tryz.func10 (by kernel_rfl) rfl #[.agg #[.int .i64 h, .slice Ab l.length cb]] (by rfl) rfl rfl gmp ?_
 refine (spec_IsValidBay.calls k h Ab cb l v _ XF.out.reads.1 XF.out.reads.2 A6.out).mono ?_
 rintro e W3 ⟨rfl, hb⟩
 refine ⟨_, rfl, ?_⟩
 have XG := Aside0.mk (XF.out.below hb)
 have MG := Aside0.mk (MF.out.below hb)
 have QG := Aside0.mk (QF.out.below hb)
 have HBG := Aside0.mk (below_step HBF.out hb)
 clear hb XF MF QF HBF
 refine hK.out _ _ ⟨(XG.out.cells).1, (XG.out.cells).2, (MG.out.cells).1, (MG.out.cells).2, (QG.out.cells).1, (QG.out.cells).2⟩ (fun hHeld => ?_)
 clear hK K
 refine norm_ (a' := ?_) ?_ ?_
 rotate_left
 ·show Act.put _ (some 60) _ = _
  simp only [putS]
  rfl
 refine pure_ (i := 14) (N := some 61) (v := ?_) (a' := ?_) #[true, true, true, true, true, true, true, true, true, true, true, true, true, true, true, false] rfl rfl (any_of HT_.out (by kernel_rfl)) (fun _ _ _ h => h) (Or.inl ⟨by rfl, ?_⟩) ?_ ?_
 rotate_left
 ·intro w'
  go_simp
  with_reducible rfl
 rotate_left
 ·simp only [putS]
  rfl
 refine pure_ (i := 15) (N := some 62) (v := ?_) (a' := ?_) #[true, true, true, true, true, true, true, true, true, true, true, true, true, true, true, true] rfl rfl (any_of HT_.out (by kernel_rfl)) (fun _ _ _ h => h) (Or.inl ⟨by rfl, ?_⟩) ?_ ?_
 rotate_left
 ·intro w'
  go_simp
  with_reducible rfl
 rotate_left
 ·simp only [putS]
  rfl
 refine done_ (done_of HT_.out (by kernel_rfl)) ?_
 clear hHeld HT_ HW_ QG
 have hm0 := MG.out.cells.1
 have hm1 := MG.out.cells.2
 cases ok with
 | false =>
  go_upto_region 13 with (fail)
  clear MG hm0 hm1
  cases v with
  | false =>
   have hb0 := XG.out.cells.1
   have hb1 := XG.out.cells.2
   go_upto_region 14 with (go_at_call 13; refine (impl_BayText.calls k h Ab cb l s false _ XG.out.reads.1 XG.out.reads.2 A10.out).mono ?_; rintro e w20 ⟨rfl, hb⟩; have XT := Aside0.mk (XG.out.below hb); have HBT := Aside0.mk (below_step HBG.out hb); clear hb XG HBG hb0 hb1)
   have hb0 := XT.out.cells.1
   have hb1 := XT.out.cells.2
   go_upto_region 15 with (go_at_call 14; refine (impl_ParseBay.calls k s xh xl fine _ A11.out (GGlob.below HG.out (Nat.le_refl _) HBT.out)).mono ?_; rintro e w21 ⟨vx, rfl, ho, hb⟩; have HOX := Aside0.mk (Kd.S_lower ho HBT.out.size); have XU := Aside0.mk (XT.out.below hb); have HBU := Aside0.mk (below_step HBT.out hb); clear ho hb XT HBT hb0 hb1; obtain ⟨Ax, cx, ex⟩ := Kd.S_slice HOX.out; subst ex)
   have KX := Aside0.mk (BxS.new (h := xh) HBU.out HOX.out)
   have XV := Aside0.mk (XU.out.below (below_alloc (Below.refl _ _) (.cells #[.int .i64 xh, .slice Ax xl.length cx] 26 (0, 0))))
   have HBV := Aside0.mk (below_alloc HBU.out (.cells #[.int .i64 xh, .slice Ax xl.length cx] 26 (0, 0)))
   clear HOX HBU XU
   generalize w21.alloc (.cells #[.int .i64 xh, .slice Ax xl.length cx] 26 (0, 0)) = w21b at KX XV HBV ⊢
   generalize w21.heap.size = gx at KX ⊢
   have hb0 := XV.out.cells.1
   have hb1 := XV.out.cells.2
   have hx0 := KX.out.cells.1
   have hx1 := KX.out.cells.2
   go_upto_region 17 with ((go_at_call 9; refine (impl_IsValidBay.calls h Ab cb l false _ XV.out.reads.1 XV.out.reads.2 A5.out).mono ?_; rintro e w22 ⟨rfl, hb⟩; have XW := Aside0.mk (XV.out.below hb); have KW := Aside0.mk (KX.out.below hb); have HBW := Aside0.mk (below_step HBV.out hb); clear hb XV KX HBV hb0 hb1 hx0 hx1; have hb0 := XW.out.cells.1; have hb1 := XW.out.cells.2; have hx0 := KW.out.cells.1; have hx1 := KW.out.cells.2))
   clear XW KW hb0 hb1 hx0 hx1
   go_upto_region 18 with (go_at_call 15; refine (spec_DrawParseBay.calls k A0 c0 l0 t _ (Kd.C_below HR0.out HBW.out) HC0.out A12.out).mono ?_; rintro e w24 ⟨rfl, hb⟩; have HBZ := Aside0.mk (below_step HBW.out hb); clear hb HBW)
   go_upto_region 19 with (go_at_call 14; refine (impl_ParseBay.calls k t yh yl rd _ A13.out (GGlob.below HG.out (Nat.le_refl _) HBZ.out)).mono ?_; rintro e w25 ⟨vy, rfl, ho, hb⟩; have HOY := Aside0.mk (Kd.S_lower ho HBZ.out.size); have HBA := Aside0.mk (below_step HBZ.out hb); clear ho hb HBZ; obtain ⟨Ay, cy, ey⟩ := Kd.S_slice HOY.out; subst ey)
   have KY := Aside0.mk (BxS.new (h := yh) HBA.out HOY.out)
   have HBB := Aside0.mk (below_alloc HBA.out (.cells #[.int .i64 yh, .slice Ay yl.length cy] 26 (0, 0)))
   clear HOY HBA 
   generalize w25.alloc (.cells #[.int .i64 yh, .slice Ay yl.length cy] 26 (0, 0)) = w25b at KY HBB ⊢
   generalize w25.heap.size = gy at KY ⊢
   have hy0 := KY.out.cells.1
   have hy1 := KY.out.cells.2
   go_upto_region 20 with (go_at_call 13; refine (impl_BayText.calls k yh Ay cy yl u again _ KY.out.reads.1 KY.out.reads.2 A14.out).mono ?_; rintro e w26 ⟨rfl, hb⟩; have HBC := Aside0.mk (below_step HBB.out hb); clear hb KY HBB hy0 hy1)
   cases rd with
   | false =>
    go_wp2
    go_ret
    exact ⟨rfl, HBC.out⟩
   | true =>
    obtain ⟨e1, e2⟩ := A15.out rfl
    subst again
    subst u
    go_wp2
    go_ret
    exact ⟨rfl, HBC.out⟩
  | true =>
   obtain ⟨e1, e2, e3⟩ := AV.out rfl
   subst xh
   subst xl
   subst fine
   have hb0 := XG.out.cells.1
   have hb1 := XG.out.cells.2
   go_upto_region 14 with (go_at_call 13; refine (impl_BayText.calls k h Ab cb l s true _ XG.out.reads.1 XG.out.reads.2 A10.out).mono ?_; rintro e w20 ⟨rfl, hb⟩; have XT := Aside0.mk (XG.out.below hb); have HBT := Aside0.mk (below_step HBG.out hb); clear hb XG HBG hb0 hb1)
   have hb0 := XT.out.cells.1
   have hb1 := XT.out.cells.2
   go_upto_region 15 with (go_at_call 14; refine (impl_ParseBay.calls k s h l true _ A11.out (GGlob.below HG.out (Nat.le_refl _) HBT.out)).mono ?_; rintro e w21 ⟨vx, rfl, ho, hb⟩; have HOX := Aside0.mk (Kd.S_lower ho HBT.out.size); have XU := Aside0.mk (XT.out.below hb); have HBU := Aside0.mk (below_step HBT.out hb); clear ho hb XT HBT hb0 hb1; obtain ⟨Ax, cx, ex⟩ := Kd.S_slice HOX.out; subst ex)
   have KX := Aside0.mk (BxS.new (h := h) HBU.out HOX.out)
   have XV := Aside0.mk (XU.out.below (below_alloc (Below.refl _ _) (.cells #[.int .i64 h, .slice Ax l.length cx] 26 (0, 0))))
   have HBV := Aside0.mk (below_alloc HBU.out (.cells #[.int .i64 h, .slice Ax l.length cx] 26 (0, 0)))
   clear HOX HBU XU
   generalize w21.alloc (.cells #[.int .i64 h, .slice Ax l.length cx] 26 (0, 0)) = w21b at KX XV HBV ⊢
   generalize w21.heap.size = gx at KX ⊢
   have hb0 := XV.out.cells.1
   have hb1 := XV.out.cells.2
   have hx0 := KX.out.cells.1
   have hx1 := KX.out.cells.2
   go_upto_region 17 with (first | (go_at_call 9; refine (impl_IsValidBay.calls h Ab cb l true _ XV.out.reads.1 XV.out.reads.2 A5.out).mono ?_; rintro e w22 ⟨rfl, hb⟩; have XW := Aside0.mk (XV.out.below hb); have KW := Aside0.mk (KX.out.below hb); have HBW := Aside0.mk (below_step HBV.out hb); clear hb XV KX HBV hb0 hb1 hx0 hx1; have hb0 := XW.out.cells.1; have hb1 := XW.out.cells.2; have hx0 := KW.out.cells.1; have hx1 := KW.out.cells.2) | (go_at_call 8; refine (laws_vBay.calls k h Ax cx l h Ab cb l true _ KW.out.reads.1 KW.out.reads.2 XW.out.reads.1 XW.out.reads.2 A9.out).mono ?_; rintro e w23 ⟨rfl, hb⟩; have HBY := Aside0.mk (below_step HBW.out hb); clear hb XW KW HBW hb0 hb1 hx0 hx1))
   go_upto_region 18 with (go_at_call 15; refine (spec_DrawParseBay.calls k A0 c0 l0 t _ (Kd.C_below HR0.out HBY.out) HC0.out A12.out).mono ?_; rintro e w24 ⟨rfl, hb⟩; have HBZ := Aside0.mk (below_step HBY.out hb); clear hb HBY)
   go_upto_region 19 with (go_at_call 14; refine (impl_ParseBay.calls k t yh yl rd _ A13.out (GGlob.below HG.out (Nat.le_refl _) HBZ.out)).mono ?_; rintro e w25 ⟨vy, rfl, ho, hb⟩; have HOY := Aside0.mk (Kd.S_lower ho HBZ.out.size); have HBA := Aside0.mk (below_step HBZ.out hb); clear ho hb HBZ; obtain ⟨Ay, cy, ey⟩ := Kd.S_slice HOY.out; subst ey)
   have KY := Aside0.mk (BxS.new (h := yh) HBA.out HOY.out)
   have HBB := Aside0.mk (below_alloc HBA.out (.cells #[.int .i64 yh, .slice Ay yl.length cy] 26 (0, 0)))
   clear HOY HBA 
   generalize w25.alloc (.cells #[.int .i64 yh, .slice Ay yl.length cy] 26 (0, 0)) = w25b at KY HBB ⊢
   generalize w25.heap.size = gy at KY ⊢
   have hy0 := KY.out.cells.1
   have hy1 := KY.out.cells.2
   go_upto_region 20 with (go_at_call 13; refine (impl_BayText.calls k yh Ay cy yl u again _ KY.out.reads.1 KY.out.reads.2 A14.out).mono ?_; rintro e w26 ⟨rfl, hb⟩; have HBC := Aside0.mk (below_step HBB.out hb); clear hb KY HBB hy0 hy1)
   cases rd with
   | false =>
    go_wp2
    go_ret
    exact ⟨rfl, HBC.out⟩
   | true =>
    obtain ⟨e1, e2⟩ := A15.out rfl
    subst again
    subst u
    go_wp2
    go_ret
    exact ⟨rfl, HBC.out⟩
 | true =>
  obtain ⟨a7, tier, ht, a8⟩ := A7.out rfl
  have A7a := Aside0.mk a7
  have A8 := Aside0.mk a8
  have ht1 : decide (tier < 0) = false := decide_eq_false (by omega)
  clear a7 a8 ht A7
  go_upto_region 10 with (go_at_call 11; refine (impl_UnloadRow.calls k mh Am cm ml a h l n true _ MG.out.reads.1 MG.out.reads.2 A7a.out).mono ?_; rintro e w10 ⟨vk, rfl, ho, hb⟩; have HOK := Aside0.mk (Kd.S_mono (Kd.S_lower ho HBG.out.size) (fun _ _ => trivial)); have XH := Aside0.mk (XG.out.below hb); have MH := Aside0.mk (MG.out.below hb); have HBH := Aside0.mk (below_step HBG.out hb); clear ho hb XG MG HBG hm0 hm1; obtain ⟨Ak, ck, ek⟩ := Kd.S_slice HOK.out; subst ek)
  have KI := Aside0.mk (BxS.new (h := h) HBH.out HOK.out)
  have XI := Aside0.mk (XH.out.below (below_alloc (Below.refl _ _) (.cells #[.int .i64 h, .slice Ak l.length ck] 26 (0, 0))))
  have MI := Aside0.mk (MH.out.below (below_alloc (Below.refl _ _) (.cells #[.int .i64 h, .slice Ak l.length ck] 26 (0, 0))))
  have HBI := Aside0.mk (below_alloc HBH.out (.cells #[.int .i64 h, .slice Ak l.length ck] 26 (0, 0)))
  clear HOK HBH XH MH
  generalize w10.alloc (.cells #[.int .i64 h, .slice Ak l.length ck] 26 (0, 0)) = w10b at KI XI MI HBI ⊢
  generalize w10.heap.size = gk at KI ⊢
  have hm0 := MI.out.cells.1
  have hm1 := MI.out.cells.2
  go_upto_region 11 with (go_at_call 12; refine (impl_SlotOf.calls k mh Am cm ml n a tier true _ MI.out.reads.1 MI.out.reads.2 A8.out).mono ?_; rintro e w11 ⟨rfl, hb⟩; have XJ := Aside0.mk (XI.out.below hb); have KJ := Aside0.mk (KI.out.below hb); have HBJ := Aside0.mk (below_step HBI.out hb); clear hb XI KI HBI MI hm0 hm1)
  have hb0 := XJ.out.cells.1
  have hb1 := XJ.out.cells.2
  have hk0 := KJ.out.cells.1
  have hk1 := KJ.out.cells.2
  go_upto_region 13 with (go_at_call 8; refine (laws_vBay.calls k h Ak ck l h Ab cb l true _ KJ.out.reads.1 KJ.out.reads.2 XJ.out.reads.1 XJ.out.reads.2 A9.out).mono ?_; rintro e w12 ⟨rfl, hb⟩; have XK := Aside0.mk (XJ.out.below hb); have HBK := Aside0.mk (below_step HBJ.out hb); clear hb XJ KJ HBJ hb0 hb1 hk0 hk1)
  cases v with
  | false =>
   have hb0 := XK.out.cells.1
   have hb1 := XK.out.cells.2
   go_upto_region 14 with (go_at_call 13; refine (impl_BayText.calls k h Ab cb l s false _ XK.out.reads.1 XK.out.reads.2 A10.out).mono ?_; rintro e w20 ⟨rfl, hb⟩; have XT := Aside0.mk (XK.out.below hb); have HBT := Aside0.mk (below_step HBK.out hb); clear hb XK HBK hb0 hb1)
   have hb0 := XT.out.cells.1
   have hb1 := XT.out.cells.2
   go_upto_region 15 with (go_at_call 14; refine (impl_ParseBay.calls k s xh xl fine _ A11.out (GGlob.below HG.out (Nat.le_refl _) HBT.out)).mono ?_; rintro e w21 ⟨vx, rfl, ho, hb⟩; have HOX := Aside0.mk (Kd.S_lower ho HBT.out.size); have XU := Aside0.mk (XT.out.below hb); have HBU := Aside0.mk (below_step HBT.out hb); clear ho hb XT HBT hb0 hb1; obtain ⟨Ax, cx, ex⟩ := Kd.S_slice HOX.out; subst ex)
   have KX := Aside0.mk (BxS.new (h := xh) HBU.out HOX.out)
   have XV := Aside0.mk (XU.out.below (below_alloc (Below.refl _ _) (.cells #[.int .i64 xh, .slice Ax xl.length cx] 26 (0, 0))))
   have HBV := Aside0.mk (below_alloc HBU.out (.cells #[.int .i64 xh, .slice Ax xl.length cx] 26 (0, 0)))
   clear HOX HBU XU
   generalize w21.alloc (.cells #[.int .i64 xh, .slice Ax xl.length cx] 26 (0, 0)) = w21b at KX XV HBV ⊢
   generalize w21.heap.size = gx at KX ⊢
   have hb0 := XV.out.cells.1
   have hb1 := XV.out.cells.2
   have hx0 := KX.out.cells.1
   have hx1 := KX.out.cells.2
   go_upto_region 17 with ((go_at_call 9; refine (impl_IsValidBay.calls h Ab cb l false _ XV.out.reads.1 XV.out.reads.2 A5.out).mono ?_; rintro e w22 ⟨rfl, hb⟩; have XW := Aside0.mk (XV.out.below hb); have KW := Aside0.mk (KX.out.below hb); have HBW := Aside0.mk (below_step HBV.out hb); clear hb XV KX HBV hb0 hb1 hx0 hx1; have hb0 := XW.out.cells.1; have hb1 := XW.out.cells.2; have hx0 := KW.out.cells.1; have hx1 := KW.out.cells.2))
   clear XW KW hb0 hb1 hx0 hx1
   go_upto_region 18 with (go_at_call 15; refine (spec_DrawParseBay.calls k A0 c0 l0 t _ (Kd.C_below HR0.out HBW.out) HC0.out A12.out).mono ?_; rintro e w24 ⟨rfl, hb⟩; have HBZ := Aside0.mk (below_step HBW.out hb); clear hb HBW)
   go_upto_region 19 with (go_at_call 14; refine (impl_ParseBay.calls k t yh yl rd _ A13.out (GGlob.below HG.out (Nat.le_refl _) HBZ.out)).mono ?_; rintro e w25 ⟨vy, rfl, ho, hb⟩; have HOY := Aside0.mk (Kd.S_lower ho HBZ.out.size); have HBA := Aside0.mk (below_step HBZ.out hb); clear ho hb HBZ; obtain ⟨Ay, cy, ey⟩ := Kd.S_slice HOY.out; subst ey)
   have KY := Aside0.mk (BxS.new (h := yh) HBA.out HOY.out)
   have HBB := Aside0.mk (below_alloc HBA.out (.cells #[.int .i64 yh, .slice Ay yl.length cy] 26 (0, 0)))
   clear HOY HBA 
   generalize w25.alloc (.cells #[.int .i64 yh, .slice Ay yl.length cy] 26 (0, 0)) = w25b at KY HBB ⊢
   generalize w25.heap.size = gy at KY ⊢
   have hy0 := KY.out.cells.1
   have hy1 := KY.out.cells.2
   go_upto_region 20 with (go_at_call 13; refine (impl_BayText.calls k yh Ay cy yl u again _ KY.out.reads.1 KY.out.reads.2 A14.out).mono ?_; rintro e w26 ⟨rfl, hb⟩; have HBC := Aside0.mk (below_step HBB.out hb); clear hb KY HBB hy0 hy1)
   cases rd with
   | false =>
    go_wp2
    go_ret
    exact ⟨rfl, HBC.out⟩
   | true =>
    obtain ⟨e1, e2⟩ := A15.out rfl
    subst again
    subst u
    go_wp2
    go_ret
    exact ⟨rfl, HBC.out⟩
  | true =>
   obtain ⟨e1, e2, e3⟩ := AV.out rfl
   subst xh
   subst xl
   subst fine
   have hb0 := XK.out.cells.1
   have hb1 := XK.out.cells.2
   go_upto_region 14 with (go_at_call 13; refine (impl_BayText.calls k h Ab cb l s true _ XK.out.reads.1 XK.out.reads.2 A10.out).mono ?_; rintro e w20 ⟨rfl, hb⟩; have XT := Aside0.mk (XK.out.below hb); have HBT := Aside0.mk (below_step HBK.out hb); clear hb XK HBK hb0 hb1)
   have hb0 := XT.out.cells.1
   have hb1 := XT.out.cells.2
   go_upto_region 15 with (go_at_call 14; refine (impl_ParseBay.calls k s h l true _ A11.out (GGlob.below HG.out (Nat.le_refl _) HBT.out)).mono ?_; rintro e w21 ⟨vx, rfl, ho, hb⟩; have HOX := Aside0.mk (Kd.S_lower ho HBT.out.size); have XU := Aside0.mk (XT.out.below hb); have HBU := Aside0.mk (below_step HBT.out hb); clear ho hb XT HBT hb0 hb1; obtain ⟨Ax, cx, ex⟩ := Kd.S_slice HOX.out; subst ex)
   have KX := Aside0.mk (BxS.new (h := h) HBU.out HOX.out)
   have XV := Aside0.mk (XU.out.below (below_alloc (Below.refl _ _) (.cells #[.int .i64 h, .slice Ax l.length cx] 26 (0, 0))))
   have HBV := Aside0.mk (below_alloc HBU.out (.cells #[.int .i64 h, .slice Ax l.length cx] 26 (0, 0)))
   clear HOX HBU XU
   generalize w21.alloc (.cells #[.int .i64 h, .slice Ax l.length cx] 26 (0, 0)) = w21b at KX XV HBV ⊢
   generalize w21.heap.size = gx at KX ⊢
   have hb0 := XV.out.cells.1
   have hb1 := XV.out.cells.2
   have hx0 := KX.out.cells.1
   have hx1 := KX.out.cells.2
   go_upto_region 17 with (first | (go_at_call 9; refine (impl_IsValidBay.calls h Ab cb l true _ XV.out.reads.1 XV.out.reads.2 A5.out).mono ?_; rintro e w22 ⟨rfl, hb⟩; have XW := Aside0.mk (XV.out.below hb); have KW := Aside0.mk (KX.out.below hb); have HBW := Aside0.mk (below_step HBV.out hb); clear hb XV KX HBV hb0 hb1 hx0 hx1; have hb0 := XW.out.cells.1; have hb1 := XW.out.cells.2; have hx0 := KW.out.cells.1; have hx1 := KW.out.cells.2) | (go_at_call 8; refine (laws_vBay.calls k h Ax cx l h Ab cb l true _ KW.out.reads.1 KW.out.reads.2 XW.out.reads.1 XW.out.reads.2 A9.out).mono ?_; rintro e w23 ⟨rfl, hb⟩; have HBY := Aside0.mk (below_step HBW.out hb); clear hb XW KW HBW hb0 hb1 hx0 hx1))
   go_upto_region 18 with (go_at_call 15; refine (spec_DrawParseBay.calls k A0 c0 l0 t _ (Kd.C_below HR0.out HBY.out) HC0.out A12.out).mono ?_; rintro e w24 ⟨rfl, hb⟩; have HBZ := Aside0.mk (below_step HBY.out hb); clear hb HBY)
   go_upto_region 19 with (go_at_call 14; refine (impl_ParseBay.calls k t yh yl rd _ A13.out (GGlob.below HG.out (Nat.le_refl _) HBZ.out)).mono ?_; rintro e w25 ⟨vy, rfl, ho, hb⟩; have HOY := Aside0.mk (Kd.S_lower ho HBZ.out.size); have HBA := Aside0.mk (below_step HBZ.out hb); clear ho hb HBZ; obtain ⟨Ay, cy, ey⟩ := Kd.S_slice HOY.out; subst ey)
   have KY := Aside0.mk (BxS.new (h := yh) HBA.out HOY.out)
   have HBB := Aside0.mk (below_alloc HBA.out (.cells #[.int .i64 yh, .slice Ay yl.length cy] 26 (0, 0)))
   clear HOY HBA 
   generalize w25.alloc (.cells #[.int .i64 yh, .slice Ay yl.length cy] 26 (0, 0)) = w25b at KY HBB ⊢
   generalize w25.heap.size = gy at KY ⊢
   have hy0 := KY.out.cells.1
   have hy1 := KY.out.cells.2
   go_upto_region 20 with (go_at_call 13; refine (impl_BayText.calls k yh Ay cy yl u again _ KY.out.reads.1 KY.out.reads.2 A14.out).mono ?_; rintro e w26 ⟨rfl, hb⟩; have HBC := Aside0.mk (below_step HBB.out hb); clear hb KY HBB hy0 hy1)
   cases rd with
   | false =>
    go_wp2
    go_ret
    exact ⟨rfl, HBC.out⟩
   | true =>
    obtain ⟨e1, e2⟩ := A15.out rfl
    subst again
    subst u
    go_wp2
    go_ret
    exact ⟨rfl, HBC.out⟩
theorem laws_FnBays.calls (k : Nat) (A0 : Option Addr) (c0 : Nat) (l0 : List Int) (w : World) (hr0 : Kd.C (Kd.int .u8) w A0 l0.length l0) (hc0 : l0.length ≤ c0) (H : laws_FnBays.Ok k l0) (hG : GGlob w) :
    Calls Tryz.prog 3 #[.slice A0 l0.length c0] w fun e w' => e = .returned (.bool true) ∧ Below w.heap.size w w' := by
 rcases H with hb | ⟨hb, h, l, a, n, h1, mh, ml, ok, h2, h3, h4, v, h5, h6, h7, h9, s, h10, xh, xl, fine, h11, hv, t, h12, yh, yl, rd, h13, u, again, h14, h15⟩
 ·have B0 := Aside0.mk hb
  have HR0 := Aside0.mk hr0
  have HC0 := Aside0.mk hc0
  clear hb hr0 hc0
  go_enter Tryz.func3, Tryz.ntmps3
  go_wp2_with (go_at_call 4; refine (laws_vBig.calls A0 c0 l0 true _ HR0.out HC0.out B0.out).mono ?_; rintro e w1 ⟨rfl, hd⟩; have HB1 := Aside0.mk hd.below; clear hd)
  go_ret
  exact ⟨rfl, HB1.out⟩
 exact laws_FnBays.walks k A0 c0 l0 w hr0 hc0 hb hG h l a n h1 mh ml ok h2 h3 h4 v h5 h6 h7 h9 s h10 xh xl fine h11 hv t h12 yh yl rd h13 u again h14 h15
/-- THE ONE PURE STATEMENT of laws_FnBays. -/
def laws_FnBays.Pure : Prop := ∀ (l0 : List Int), (l0.length ≤ maxLen ∧ ∀ z361, z361 ∈ l0 → (Lit.int .u8 z361).wf = true) → ∃ k, laws_FnBays.Ok k l0
theorem laws_FnBays.walk (P : laws_FnBays.Pure) (A0 : Option Addr) (c0 : Nat) (l0 : List Int) (w : World) (hr0 : Kd.C (Kd.int .u8) w A0 l0.length l0) (hc0 : l0.length ≤ c0) (g0 : (l0.length ≤ maxLen ∧ ∀ z362, z362 ∈ l0 → (Lit.int .u8 z362).wf = true)) (hG : GGlob w) :
    Calls Tryz.prog 3 #[.slice A0 l0.length c0] w fun e w' => e = .returned (.bool true) ∧ Below w.heap.size w w' := by
 obtain ⟨k, h⟩ := P l0 g0
 refine (laws_FnBays.calls k _ _ l0 w hr0 hc0 h hG).mono ?_
 rintro e w' ⟨rfl, hd⟩
 exact ⟨rfl, hd⟩
end Go.Proofs.YtnknojpijmfefaaGreatDoor.P
