-- Written by a program of this session over the translation (a variant of the printer, see wip/gen); Lean checks it.
import Derived.Test.YtemildnlfjijmaaVC
import Derived.Test.YtemildnlfjijmaaPx0
import Derived.Test.YtemildnlfjijmaaPx16
import Derived.Test.YtemildnlfjijmaaPx27
import Derived.Test.YtemildnlfjijmaaPx29
import Derived.Test.YtemildnlfjijmaaU
namespace Go.Proofs.Ytemildnlfjijmaa.P
open Go.RowKit Go.Proofs.YtemildnlfjijmaaW.PrintWords Go.Proofs.YtemildnlfjijmaaW.PrintLast Go.Proofs.YtemildnlfjijmaaW.PrintMore
attribute [local go_sem] Go.Proofs.Ytemildnlfjijmaa.V.isSome_setCell max2_int min2_int max_two min_two max_three min_three max_four min_four
set_option linter.unusedVariables false
set_option linter.unusedSimpArgs false
/-! ### impl_MoveTop: function 30 -/
def impl_MoveTop.g (f t : Nat) (tab : List (List Int)) : Option (List (List Int) × Int × Bool) :=
  if f < tab.length ∧ t < tab.length ∧ 0 < (tab.getD f []).length ∧ ∀ row, row ∈ tab → row.length ≤ 1000 then some (mvTab tab f t, mvTop tab f, true) else none
def impl_MoveTop.f (k : Nat) (l0_0 : List (List Int)) (a1 : Int) (a2 : Int) : Option (List (List Int) × Int × Bool) :=
  (impl_hasStack.f l0_0 [a1, a2]).bind fun v => if v = false then some ([], 0, false) else if 0 ≤ a1 ∧ a1 < (l0_0.length : Int) then (if 0 ≤ a2 ∧ a2 < (l0_0.length : Int) then (if a1 = a2 ∨ ((rd_L4 l0_0 a1).length : Int) = 0 ∨ ((rd_L4 l0_0 a2).length : Int) = 4 then some ([], 0, false) else (impl_ownYard.f k l0_0).bind (impl_MoveTop.g a1.toNat a2.toNat)) else none) else none
set_option maxHeartbeats 8000000 in
set_option maxRecDepth 100000 in
/-- THE CALL -/
theorem impl_MoveTop.calls (k : Nat) (A0_0 : Option Addr) (c0_0 : Nat) (l0_0 : List (List Int)) (a1 : Int) (a2 : Int) (r1 : List (List Int)) (r2 : Int) (r3 : Bool) (w : World) (hr0_0 : Kd.C (Kd.slice 3 (Kd.int .i64)) w A0_0 l0_0.length l0_0) (hc0_0 : l0_0.length ≤ c0_0) (h : impl_MoveTop.f k l0_0 a1 a2 = some (r1, r2, r3)) :
    Calls Try.prog 30 #[.agg #[.slice A0_0 l0_0.length c0_0], .int .i64 a1, .int .i64 a2] w fun e w' => ∃ v0_ : Value, e = .returned (.tuple #[.agg #[v0_], .int .i64 r2, .bool r3]) ∧ Kd.S (Kd.slice 3 (Kd.int .i64)) 30 w' w.heap.size (fun _ => True) v0_ r1 ∧ Below w.heap.size w w' := by
 have hu := Try.underlying26
 unfold impl_MoveTop.f at h
 obtain ⟨v, hv, h⟩ := Option.bind_eq_some_iff.1 h
 have HR0 := Aside0.mk hr0_0
 have HC0 := Aside0.mk hc0_0
 have HV := Aside0.mk hv
 have HH := Aside0.mk h
 have HB0 := Aside0.mk (Below.refl w.heap.size w)
 clear hr0_0 hc0_0 hv h
 go_enter Try.func30, Try.ntmps30
 go_upto_region 1 with (first | ((with_reducible refine gate_dst (N := 3) rfl ?_); (try (refine gate_guard (by rfl) ?_; dsimp only)); refine box_event ?hg (N := 3) ?hd (cs := #[.slice A0_0 l0_0.length c0_0]) (t := 26) ?hr ?_; (case hd | hg => rfl); (case hr => go_simp); intro gb hgb w1 hbox hb; have BK1 := Aside0.mk hbox; have HB1 := Aside0.mk (below_step (bel HB0) hb); clear hb hbox hgb) | ((with_reducible refine gate_dst (N := 6) rfl ?_); (try (refine gate_guard (by rfl) ?_; dsimp only)); refine box_event ?hg (N := 6) ?hd (cs := #[.slice none 0 0]) (t := 26) ?hr ?_; (case hd | hg => rfl); (case hr => go_simp); intro gr hgr w2 hbox hb; have BK2 := Aside0.mk (blk_below BK1.out hb); have BR2 := Aside0.mk hbox; have GR := Aside0.mk (show w.heap.size ≤ gr by rw [hgr]; exact below_size HB1.out); have HB2 := Aside0.mk (below_step HB1.out hb); clear hb hbox hgr))
 clear BK1 HB1 HB0
 go_cut [39] (fun v39 wc => ∃ x : Bool, v39 = .bool x ∧ Aside0 (if x = true then some (([] : List (List Int)), (0 : Int), false) = some (r1, r2, r3) else ∃ f t : Nat, a1 = (f : Int) ∧ a2 = (t : Int) ∧ (impl_ownYard.f k l0_0).bind (impl_MoveTop.g f t) = some (r1, r2, r3)) ∧ Aside0 (wc.heap[gb]? = some (.cells #[.slice A0_0 l0_0.length c0_0] 26 (0, 0))) ∧ Aside0 (wc.heap[gr]? = some (.cells #[.slice none 0 0] 26 (0, 0))) ∧ Aside0 (Below w.heap.size w wc))
 case first =>
  have hcb2 := bc BK2 0
  have H := HH.out
  clear HH
  cases v with
  | false =>
   rw [if_pos rfl] at H
   have HF := Aside0.mk H
   clear H
   go_wp2_with (first | ((with_reducible refine gate_dst (N := 14) rfl ?_); (try (refine gate_guard (by rfl) ?_; dsimp only)); refine Kd.R_lit (Kd.int .i64) _ 3 ?hg (N := 14) ?hd (xs := ([a1, a2] : List Int)) (inner := [.int .i64 a1, .int .i64 a2]) (ok := fun _ => True) (okp := fun _ => True) ?hr ?hp (fun _ hk => hk) trivial (Below.refl _ _) (Nat.le_refl _) (by simp) ?_; (case hd | hg => rfl); (case hr => go_simp); (case hp => exact (Reps.one (show Kd.M (Kd.int .i64) _ _ _ a1 [.int .i64 a1] from rfl) (Reps.one (show Kd.M (Kd.int .i64) _ _ _ a2 [.int .i64 a2] from rfl) (Reps.none _ _)))); intro vl w3 ho hb hg_ hnew_; clear hg_ hnew_; have HO3 := Aside0.mk ho; have BK3 := Aside0.mk (blk_below BK2.out hb); have BR3 := Aside0.mk (blk_below BR2.out hb); have HB3 := Aside0.mk (below_step HB2.out hb); clear hb ho; obtain ⟨Ao, co, eo⟩ := Kd.R_slice HO3.out; subst eo) | ((with_reducible refine gate_callee (f := 44) rfl ?_); refine goesL_ (some 15) rfl rfl Try.func44 (by kernel_rfl) rfl #[.agg #[.slice A0_0 l0_0.length c0_0], .slice Ao ([a1, a2] : List Int).length co] rfl gmp ?_; (with_reducible refine (impl_hasStack.calls _ _ l0_0 _ _ [a1, a2] _ _ ?side1 ?side2 ?side3 ?side4 HV.out).mono ?_); (case side1 => exact cdl (Kd.C_below HR0.out HB3.out)); (case side2 => exact HC0.out); (case side3 => repeat (exact (Kd.R_reads' HO3.out).2.2 )); (case side4 => exact (Kd.R_reads' HO3.out).2.1); rintro e w4 ⟨rfl, hb⟩; refine ⟨_, rfl, ?_⟩; have BK4 := Aside0.mk (blk_below BK3.out hb); have BR4 := Aside0.mk (blk_below BR3.out hb); have HB4 := Aside0.mk (below_step HB3.out hb); clear hb; have hcb4 := bc BK4 0))
   go_meet
   case rel => exact ⟨true, (by rfl ), ⟨by rw [if_pos rfl]; exact HF.out⟩, ⟨bkl BK4⟩, ⟨bkl BR4⟩, HB4⟩
  | true =>
  rw [if_neg (by decide)] at H
  split at H
  case isFalse => cases H
  case isTrue hpa =>
  split at H
  case isFalse => cases H
  case isTrue hpb =>
  have PA := Aside0.mk hpa
  have PB := Aside0.mk hpb
  clear hpa hpb
  by_cases c1 : a1 = a2
  ·rw [if_pos (Or.inl c1)] at H
   have HF := Aside0.mk H
   have c1b : (a1 == a2) = true := beq_iff_eq.mpr c1
   have c1c : decide (a1 = a2) = true := decide_eq_true c1
   clear H c1
   go_wp2_with (first | ((with_reducible refine gate_dst (N := 14) rfl ?_); (try (refine gate_guard (by rfl) ?_; dsimp only)); refine Kd.R_lit (Kd.int .i64) _ 3 ?hg (N := 14) ?hd (xs := ([a1, a2] : List Int)) (inner := [.int .i64 a1, .int .i64 a2]) (ok := fun _ => True) (okp := fun _ => True) ?hr ?hp (fun _ hk => hk) trivial (Below.refl _ _) (Nat.le_refl _) (by simp) ?_; (case hd | hg => rfl); (case hr => go_simp); (case hp => exact (Reps.one (show Kd.M (Kd.int .i64) _ _ _ a1 [.int .i64 a1] from rfl) (Reps.one (show Kd.M (Kd.int .i64) _ _ _ a2 [.int .i64 a2] from rfl) (Reps.none _ _)))); intro vl w3 ho hb hg_ hnew_; clear hg_ hnew_; have HO3 := Aside0.mk ho; have BK3 := Aside0.mk (blk_below BK2.out hb); have BR3 := Aside0.mk (blk_below BR2.out hb); have HB3 := Aside0.mk (below_step HB2.out hb); clear hb ho; obtain ⟨Ao, co, eo⟩ := Kd.R_slice HO3.out; subst eo) | ((with_reducible refine gate_callee (f := 44) rfl ?_); refine goesL_ (some 15) rfl rfl Try.func44 (by kernel_rfl) rfl #[.agg #[.slice A0_0 l0_0.length c0_0], .slice Ao ([a1, a2] : List Int).length co] rfl gmp ?_; (with_reducible refine (impl_hasStack.calls _ _ l0_0 _ _ [a1, a2] _ _ ?side1 ?side2 ?side3 ?side4 HV.out).mono ?_); (case side1 => exact cdl (Kd.C_below HR0.out HB3.out)); (case side2 => exact HC0.out); (case side3 => repeat (exact (Kd.R_reads' HO3.out).2.2 )); (case side4 => exact (Kd.R_reads' HO3.out).2.1); rintro e w4 ⟨rfl, hb⟩; refine ⟨_, rfl, ?_⟩; have BK4 := Aside0.mk (blk_below BK3.out hb); have BR4 := Aside0.mk (blk_below BR3.out hb); have HB4 := Aside0.mk (below_step HB3.out hb); clear hb; have hcb4 := bc BK4 0))
   go_meet
   case rel => exact ⟨true, (by rfl ), ⟨by rw [if_pos rfl]; exact HF.out⟩, ⟨bkl BK4⟩, ⟨bkl BR4⟩, HB4⟩
  have c1b : (a1 == a2) = false := beq_eq_false_iff_ne.mpr c1
  have c1c : decide (a1 = a2) = false := decide_eq_false c1
  by_cases c2 : ((rd_L4 l0_0 a1).length : Int) = 0
  ·rw [if_pos (Or.inr (Or.inl c2))] at H
   have HF := Aside0.mk H
   have c2b : (((rd_L4 l0_0 a1).length : Int) == 0) = true := beq_iff_eq.mpr c2
   have c2c : decide (((rd_L4 l0_0 a1).length : Int) = 0) = true := decide_eq_true c2
   clear H c2 c1
   go_wp2_with (first | ((with_reducible refine gate_dst (N := 14) rfl ?_); (try (refine gate_guard (by rfl) ?_; dsimp only)); refine Kd.R_lit (Kd.int .i64) _ 3 ?hg (N := 14) ?hd (xs := ([a1, a2] : List Int)) (inner := [.int .i64 a1, .int .i64 a2]) (ok := fun _ => True) (okp := fun _ => True) ?hr ?hp (fun _ hk => hk) trivial (Below.refl _ _) (Nat.le_refl _) (by simp) ?_; (case hd | hg => rfl); (case hr => go_simp); (case hp => exact (Reps.one (show Kd.M (Kd.int .i64) _ _ _ a1 [.int .i64 a1] from rfl) (Reps.one (show Kd.M (Kd.int .i64) _ _ _ a2 [.int .i64 a2] from rfl) (Reps.none _ _)))); intro vl w3 ho hb hg_ hnew_; clear hg_ hnew_; have HO3 := Aside0.mk ho; have BK3 := Aside0.mk (blk_below BK2.out hb); have BR3 := Aside0.mk (blk_below BR2.out hb); have HB3 := Aside0.mk (below_step HB2.out hb); clear hb ho; obtain ⟨Ao, co, eo⟩ := Kd.R_slice HO3.out; subst eo) | ((with_reducible refine gate_callee (f := 44) rfl ?_); refine goesL_ (some 15) rfl rfl Try.func44 (by kernel_rfl) rfl #[.agg #[.slice A0_0 l0_0.length c0_0], .slice Ao ([a1, a2] : List Int).length co] rfl gmp ?_; (with_reducible refine (impl_hasStack.calls _ _ l0_0 _ _ [a1, a2] _ _ ?side1 ?side2 ?side3 ?side4 HV.out).mono ?_); (case side1 => exact cdl (Kd.C_below HR0.out HB3.out)); (case side2 => exact HC0.out); (case side3 => repeat (exact (Kd.R_reads' HO3.out).2.2 )); (case side4 => exact (Kd.R_reads' HO3.out).2.1); rintro e w4 ⟨rfl, hb⟩; refine ⟨_, rfl, ?_⟩; have BK4 := Aside0.mk (blk_below BK3.out hb); have BR4 := Aside0.mk (blk_below BR3.out hb); have HB4 := Aside0.mk (below_step HB3.out hb); clear hb; have hcb4 := bc BK4 0; obtain ⟨ada, Aa, ca, ea, hxa, _, _⟩ := at_L4 HR0.out a1 PA.out.1 PA.out.2; cases ea; replace hxa := cel HB4 hxa; have pa1 := eq_true PA.out.1; have pa2 := eq_true PA.out.2))
   go_meet
   case rel => exact ⟨true, (by rfl ), ⟨by rw [if_pos rfl]; exact HF.out⟩, ⟨bkl BK4⟩, ⟨bkl BR4⟩, HB4⟩
  have c2b : (((rd_L4 l0_0 a1).length : Int) == 0) = false := beq_eq_false_iff_ne.mpr c2
  have c2c : ¬ (rd_L4 l0_0 a1 = []) := fun h_ => c2 (by rw [h_]; rfl)
  by_cases c3 : ((rd_L4 l0_0 a2).length : Int) = 4
  ·rw [if_pos (Or.inr (Or.inr c3))] at H
   have HF := Aside0.mk H
   have c3b : (((rd_L4 l0_0 a2).length : Int) == 4) = true := beq_iff_eq.mpr c3
   clear H c3 c2 c1
   go_wp2_with (first | ((with_reducible refine gate_dst (N := 14) rfl ?_); (try (refine gate_guard (by rfl) ?_; dsimp only)); refine Kd.R_lit (Kd.int .i64) _ 3 ?hg (N := 14) ?hd (xs := ([a1, a2] : List Int)) (inner := [.int .i64 a1, .int .i64 a2]) (ok := fun _ => True) (okp := fun _ => True) ?hr ?hp (fun _ hk => hk) trivial (Below.refl _ _) (Nat.le_refl _) (by simp) ?_; (case hd | hg => rfl); (case hr => go_simp); (case hp => exact (Reps.one (show Kd.M (Kd.int .i64) _ _ _ a1 [.int .i64 a1] from rfl) (Reps.one (show Kd.M (Kd.int .i64) _ _ _ a2 [.int .i64 a2] from rfl) (Reps.none _ _)))); intro vl w3 ho hb hg_ hnew_; clear hg_ hnew_; have HO3 := Aside0.mk ho; have BK3 := Aside0.mk (blk_below BK2.out hb); have BR3 := Aside0.mk (blk_below BR2.out hb); have HB3 := Aside0.mk (below_step HB2.out hb); clear hb ho; obtain ⟨Ao, co, eo⟩ := Kd.R_slice HO3.out; subst eo) | ((with_reducible refine gate_callee (f := 44) rfl ?_); refine goesL_ (some 15) rfl rfl Try.func44 (by kernel_rfl) rfl #[.agg #[.slice A0_0 l0_0.length c0_0], .slice Ao ([a1, a2] : List Int).length co] rfl gmp ?_; (with_reducible refine (impl_hasStack.calls _ _ l0_0 _ _ [a1, a2] _ _ ?side1 ?side2 ?side3 ?side4 HV.out).mono ?_); (case side1 => exact cdl (Kd.C_below HR0.out HB3.out)); (case side2 => exact HC0.out); (case side3 => repeat (exact (Kd.R_reads' HO3.out).2.2 )); (case side4 => exact (Kd.R_reads' HO3.out).2.1); rintro e w4 ⟨rfl, hb⟩; refine ⟨_, rfl, ?_⟩; have BK4 := Aside0.mk (blk_below BK3.out hb); have BR4 := Aside0.mk (blk_below BR3.out hb); have HB4 := Aside0.mk (below_step HB3.out hb); clear hb; have hcb4 := bc BK4 0; obtain ⟨ada, Aa, ca, ea, hxa, _, _⟩ := at_L4 HR0.out a1 PA.out.1 PA.out.2; cases ea; replace hxa := cel HB4 hxa; have pa1 := eq_true PA.out.1; have pa2 := eq_true PA.out.2; obtain ⟨adb, Ab, cb, eb, hxb, _, _⟩ := at_L4 HR0.out a2 PB.out.1 PB.out.2; cases eb; replace hxb := cel HB4 hxb; have pb1 := eq_true PB.out.1; have pb2 := eq_true PB.out.2))
   go_meet
   case rel => exact ⟨true, (by rfl ), ⟨by rw [if_pos rfl]; exact HF.out⟩, ⟨bkl BK4⟩, ⟨bkl BR4⟩, HB4⟩
  have c3b : (((rd_L4 l0_0 a2).length : Int) == 4) = false := beq_eq_false_iff_ne.mpr c3
  rw [if_neg (by rintro (h1 | h1 | h1); exact c1 h1; exact c2 h1; exact c3 h1)] at H
  have HF := Aside0.mk H
  clear H c3 c2 c1
  go_wp2_with (first | ((with_reducible refine gate_dst (N := 14) rfl ?_); (try (refine gate_guard (by rfl) ?_; dsimp only)); refine Kd.R_lit (Kd.int .i64) _ 3 ?hg (N := 14) ?hd (xs := ([a1, a2] : List Int)) (inner := [.int .i64 a1, .int .i64 a2]) (ok := fun _ => True) (okp := fun _ => True) ?hr ?hp (fun _ hk => hk) trivial (Below.refl _ _) (Nat.le_refl _) (by simp) ?_; (case hd | hg => rfl); (case hr => go_simp); (case hp => exact (Reps.one (show Kd.M (Kd.int .i64) _ _ _ a1 [.int .i64 a1] from rfl) (Reps.one (show Kd.M (Kd.int .i64) _ _ _ a2 [.int .i64 a2] from rfl) (Reps.none _ _)))); intro vl w3 ho hb hg_ hnew_; clear hg_ hnew_; have HO3 := Aside0.mk ho; have BK3 := Aside0.mk (blk_below BK2.out hb); have BR3 := Aside0.mk (blk_below BR2.out hb); have HB3 := Aside0.mk (below_step HB2.out hb); clear hb ho; obtain ⟨Ao, co, eo⟩ := Kd.R_slice HO3.out; subst eo) | ((with_reducible refine gate_callee (f := 44) rfl ?_); refine goesL_ (some 15) rfl rfl Try.func44 (by kernel_rfl) rfl #[.agg #[.slice A0_0 l0_0.length c0_0], .slice Ao ([a1, a2] : List Int).length co] rfl gmp ?_; (with_reducible refine (impl_hasStack.calls _ _ l0_0 _ _ [a1, a2] _ _ ?side1 ?side2 ?side3 ?side4 HV.out).mono ?_); (case side1 => exact cdl (Kd.C_below HR0.out HB3.out)); (case side2 => exact HC0.out); (case side3 => repeat (exact (Kd.R_reads' HO3.out).2.2 )); (case side4 => exact (Kd.R_reads' HO3.out).2.1); rintro e w4 ⟨rfl, hb⟩; refine ⟨_, rfl, ?_⟩; have BK4 := Aside0.mk (blk_below BK3.out hb); have BR4 := Aside0.mk (blk_below BR3.out hb); have HB4 := Aside0.mk (below_step HB3.out hb); clear hb; have hcb4 := bc BK4 0; obtain ⟨ada, Aa, ca, ea, hxa, _, _⟩ := at_L4 HR0.out a1 PA.out.1 PA.out.2; cases ea; replace hxa := cel HB4 hxa; have pa1 := eq_true PA.out.1; have pa2 := eq_true PA.out.2; obtain ⟨adb, Ab, cb, eb, hxb, _, _⟩ := at_L4 HR0.out a2 PB.out.1 PB.out.2; cases eb; replace hxb := cel HB4 hxb; have pb1 := eq_true PB.out.1; have pb2 := eq_true PB.out.2))
  go_meet
  case rel => exact ⟨false, (by rfl ), ⟨by rw [if_neg (by decide)]; exact ⟨a1.toNat, a2.toNat, (Int.toNat_of_nonneg PA.out.1).symm, (Int.toNat_of_nonneg PB.out.1).symm, HF.out⟩⟩, ⟨bkl BK4⟩, ⟨bkl BR4⟩, HB4⟩
 obtain ⟨x, rfl, HA, BK, BR, HB⟩ := hcut
 clear BK2 BR2 HB2 HH
 have H := HA.out
 clear HA
 have hcb : wc.cell? ⟨gb, 0, none⟩ = some (.slice A0_0 l0_0.length c0_0) := (blk_cell BK.out 0).trans rfl
 have hcr : wc.cell? ⟨gr, 0, none⟩ = some (.slice none 0 0) := (blk_cell BR.out 0).trans rfl
 have hfr := blk_frozen BR.out 0
 cases x with
 | true =>
  rw [if_pos rfl] at H
  injection H with H
  injection H with h1 H
  injection H with h2 h3
  subst h1 h2 h3
  go_wp2
  refine bodyPost_ret (results_ctt rfl _ _ gr 26 #[.slice none 0 0] (0, 0) _ rfl (blk_put BR.out 0 _ rfl) Try.underlying26 rfl (by kernel_rfl)) rfl ?_
  exact ⟨_, rfl, Kd.S_nil _ _ _ _ _, below_set HB.out GR.out⟩
 | false =>
 rw [if_neg (by decide)] at H
 obtain ⟨f, t, rfl, rfl, H⟩ := H
 obtain ⟨tab, hown, hg⟩ := Option.bind_eq_some_iff.1 H
 clear H
 unfold impl_MoveTop.g at hg
 split at hg
 case isFalse => cases hg
 case isTrue hc =>
 injection hg with hg
 injection hg with h1 hg
 injection hg with h2 h3
 subst h1 h2 h3
 have HOwn := Aside0.mk hown
 have HC := Aside0.mk hc
 clear hown hc
 obtain ⟨n, hn⟩ : ∃ n : Nat, tab.length = n := ⟨_, rfl⟩
 have HN := Aside0.mk hn
 clear hn
 go_upto_region 4 with (first | (go_at_call 22; refine (impl_ownYard.calls k _ _ l0_0 tab _ (Kd.C_below HR0.out HB.out) HC0.out HOwn.out).mono ?_; rintro e w4 ⟨v0, rfl, hS, hb⟩; obtain ⟨gt, cap, e15, hgb, hgl, _⟩ := Kd.S_form hS (by have := HC.out.1; omega); subst e15; have HS4 := Aside0.mk (Kd.S_lower hS (below_size HB.out)); have BR4 := Aside0.mk (blk_below BR.out hb); have HB4 := Aside0.mk (below_step HB.out hb); clear hS hb hgb hgl))
 rw [HN.out] at HS4 ⊢
 have HS5 := Aside0.mk (Kd.S_alloc HS4.out (.cells #[.slice (some ⟨gt, 0, none⟩) n cap] 26))
 have BY5 := Aside0.mk (blk_new w4 (.cells #[.slice (some ⟨gt, 0, none⟩) n cap] 26 (0, 0)))
 have BR5 := Aside0.mk (blk_alloc BR4.out (.cells #[.slice (some ⟨gt, 0, none⟩) n cap] 26))
 have HB5 := Aside0.mk (below_alloc HB4.out (.cells #[.slice (some ⟨gt, 0, none⟩) n cap] 26))
 have NRY := Aside0.mk (show gr ≠ w4.heap.size by have := blk_lt BR4.out; omega)
 have GY := Aside0.mk (show w.heap.size ≤ w4.heap.size from below_size HB4.out)
 clear HS4 BR4 HB4 hcb hcr hfr BK BR HB
 generalize w4.alloc (.cells #[.slice (some ⟨gt, 0, none⟩) n cap] 26) = w5 at HS5 BY5 BR5 HB5 ⊢
 generalize w4.heap.size = gy at BY5 NRY GY ⊢
 have HT5 := Aside0.mk (Kd.S_mono (Kd.S_types (Kd.S_types (Kd.S_bound HS5.out) BY5.out (by decide)) BR5.out (by decide)) (ok' := fun k => k ≠ gy ∧ k ≠ gr) (fun k hk => ⟨hk.1.2, hk.2⟩))
 have hcy5 : w5.cell? ⟨gy, 0, none⟩ = some (.slice (some ⟨gt, 0, none⟩) n cap) := (blk_cell BY5.out 0).trans rfl
 have HMv := Aside0.mk (impl_moveTop.calls gt n cap f t w.heap.size (fun k => k ≠ gy ∧ k ≠ gr) tab w5 HT5.out (below_size HB5.out) (fun k hk => ⟨fun e => absurd (blk_lt BY5.out) (by omega), fun e => absurd (blk_lt BR5.out) (by omega)⟩) (by have := HC.out.1; rw [← HN.out]; exact this) (by have := HC.out.2.1; rw [← HN.out]; exact this) HC.out.2.2.1 HC.out.2.2.2)
 clear HS5 HT5
 go_upto_region 5 with (first | (go_at_call 45; refine HMv.out.mono ?_; rintro e w6 ⟨rfl, hS, hb, hk⟩; have HT6 := Aside0.mk hS; have BY6 := Aside0.mk ((hk gy (blk_lt BY5.out) (fun h => h.1 rfl)).trans BY5.out); have BR6 := Aside0.mk ((hk gr (blk_lt BR5.out) (fun h => h.2 rfl)).trans BR5.out); have HB6 := Aside0.mk (HB5.out.trans hb); clear hS hb hk))
 clear HMv BY5 BR5 HB5 hcy5
 have hcy6 : w6.cell? ⟨gy, 0, none⟩ = some (.slice (some ⟨gt, 0, none⟩) n cap) := (blk_cell BY6.out 0).trans rfl
 have hcr6 : w6.cell? ⟨gr, 0, none⟩ = some (.slice none 0 0) := (blk_cell BR6.out 0).trans rfl
 have hfr6 := blk_frozen BR6.out 0
 go_wp2
 refine bodyPost_ret (results_ctt rfl _ _ gr 26 #[.slice (some ⟨gt, 0, none⟩) n cap] (0, 0) _ rfl (blk_put BR6.out 0 _ rfl) Try.underlying26 rfl (by kernel_rfl)) rfl ?_
 refine ⟨_, rfl, ?_, below_set HB6.out GR.out⟩
 exact Kd.S_mono (Kd.S_far (p := ⟨gr, 0, none⟩) HT6.out (fun k hk => hk.2) _) (fun k hk => trivial)
end Go.Proofs.Ytemildnlfjijmaa.P
