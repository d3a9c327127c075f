-- Written by a program of this session over the translation (a variant of the printer, see wip/gen); Lean checks it.
import Derived.Test.YtipahijdcgoemaaPx0
import Derived.Test.YtipahijdcgoemaaPx12
import Derived.Test.YtipahijdcgoemaaU
import Derived.Test.YtipahijdcgoemaaShelf3
import Derived.Sort.OwnSortedInts
import Derived.Shelf.SlSortCmp.Insertion
namespace Go.Proofs.Ytipahijdcgoemaa.P
open Go.RowKit Go.Proofs.YtipahijdcgoemaaW.PrintWords Go.Proofs.YtipahijdcgoemaaW.PrintLast Go.Proofs.YtipahijdcgoemaaW.PrintMore
attribute [local go_sem] Go.Proofs.Ytipahijdcgoemaa.V.isSome_setCell max2_int min2_int max_two min_two max_three min_three max_four min_four
set_option linter.unusedVariables false
set_option linter.unusedSimpArgs false
/-! ### impl_LoadOrder: function 11 -/
/-- The closure's comparison: by the ports, the greater one first; numbers outside are told as 1. -/
def ldCmp (a b : Int) : Int := if a < b then -1 else if a > b then 1 else 0
def ldCl (n : Nat) (x : Int) : Int := if 1 ≤ x ∧ x ≤ (n : Int) then x else 1
def ldEnc (n : Nat) (x : Int) : Value := .int .i64 (ldCl n x)
def ldCf (P : List Int) (x y : Int) : Int := ldCmp (P.getD (ldCl P.length y - 1).toNat 0) (P.getD (ldCl P.length x - 1).toNat 0)
def ldNums (n : Nat) : List Int := (List.range n).map fun i : Nat => (i : Int) + 1
def ldOrd (P : List Int) : List Int := (Go.Sort.insertionSort (Go.Proofs.ltOf (ldCf P)) (ldNums P.length).toArray 0 P.length).toList.map (ldCl P.length)
def impl_LoadOrder.f (a0_0 : Int) (a0_1 : Int) (l0_2 : List Int) : Option (List Int × Bool) := some (if okSt a0_0 a0_1 l0_2 = true then (ldOrd l0_2, true) else ([], false))
theorem ldNums_len (n : Nat) : (ldNums n).length = n := by simp [ldNums]
theorem ldNums_succ (n : Nat) : ldNums (n + 1) = ldNums n ++ [(n : Int) + 1] := by simp [ldNums, List.range_succ]
theorem ldNums_at (n i : Nat) (h : i < (ldNums n).length) : (ldNums n)[i] = (i : Int) + 1 := by simp [ldNums]
theorem ldCl_in (n : Nat) (hn : 1 ≤ n) (x : Int) : 1 ≤ ldCl n x ∧ ldCl n x ≤ (n : Int) := by
 unfold ldCl
 split <;> omega
set_option maxHeartbeats 8000000 in
set_option maxRecDepth 100000 in
theorem ld_nan (x : Int) (W : World) : Calls Try.prog 60 #[.int .i64 x] W fun e W' => e = .returned (.bool false) ∧ ∃ m, W' = W.drewN m := by
 have hx : (x != x) = false := by simp
 go_enter Try.func60, Try.ntmps60
 go_wp2
 go_ret
 exact ⟨by first | rfl | simp, 0, rfl⟩
set_option maxHeartbeats 8000000 in
set_option maxRecDepth 100000 in
theorem ld_cmp (a b : Int) (W : World) : Calls Try.prog 36 #[.int .i64 a, .int .i64 b] W fun e W' => e = .returned (.int .i64 (ldCmp a b)) ∧ ∃ m, W' = W.drewN m := by
 unfold ldCmp
 by_cases h1 : a < b
 ·have h1b : decide (a < b) = true := decide_eq_true h1
  rw [if_pos h1]
  go_enter Try.func36, Try.ntmps36
  go_wp2_with (first | (go_at_call 60; refine (ld_nan _ _).mono ?_; rintro e w' ⟨rfl, m, rfl⟩))
  go_ret
  exact ⟨rfl, by first | exact ⟨_, rfl⟩ | (refine ⟨_, ?_⟩; rw [World.drewN_drewN])⟩
 have h1b : decide (a < b) = false := decide_eq_false h1
 rw [if_neg h1]
 by_cases h2 : a > b
 ·have h2b : decide (b < a) = true := decide_eq_true h2
  rw [if_pos h2]
  go_enter Try.func36, Try.ntmps36
  go_wp2_with (first | (go_at_call 60; refine (ld_nan _ _).mono ?_; rintro e w' ⟨rfl, m, rfl⟩))
  go_ret
  exact ⟨rfl, by first | exact ⟨_, rfl⟩ | (refine ⟨_, ?_⟩; rw [World.drewN_drewN])⟩
 have h2b : decide (b < a) = false := decide_eq_false h2
 rw [if_neg h2]
 go_enter Try.func36, Try.ntmps36
 go_wp2_with (first | (go_at_call 60; refine (ld_nan _ _).mono ?_; rintro e w' ⟨rfl, m, rfl⟩))
 go_ret
 exact ⟨rfl, by first | exact ⟨_, rfl⟩ | (refine ⟨_, ?_⟩; rw [World.drewN_drewN])⟩
set_option maxHeartbeats 8000000 in
set_option maxRecDepth 100000 in
/-- The closure, wherever the stowage's variable and its ports lie as told. -/
theorem impl_LoadOrder.each (A2 : Option Addr) (c2 : Nat) (l2 : List Int) (gs : Nat) (x y : Int) (W : World) (hs : W.cell? ⟨gs, 2, none⟩ = some (.slice A2 l2.length c2)) (hC : Kd.C (Kd.int .i64) W A2 l2.length l2) (hx : 1 ≤ x ∧ x ≤ (l2.length : Int)) (hy : 1 ≤ y ∧ y ≤ (l2.length : Int)) :
    Calls Try.prog 35 #[.int .i64 x, .int .i64 y, .pointer (some ⟨gs, 0, none⟩)] W fun e W' => e = .returned (.int .i64 (ldCmp (l2.getD (y - 1).toNat 0) (l2.getD (x - 1).toNat 0))) ∧ ∃ q, W' = W.drewN q := by
 have hu := Try.underlying26
 have hln : l2.length ≤ 9223372036854775807 := hC.2.1
 obtain ⟨i, rfl⟩ : ∃ i : Nat, x = (i : Int) + 1 := ⟨(x - 1).toNat, by omega⟩
 obtain ⟨j, rfl⟩ : ∃ j : Nat, y = (j : Int) + 1 := ⟨(y - 1).toNat, by omega⟩
 have hi : i < l2.length := by omega
 have hj : j < l2.length := by omega
 have hwi : wrap64 ((i : Int) + 1 - 1) = (i : Int) := by rw [Go.Proofs.Ytipahijdcgoemaa.U.wr (by omega) (by omega)]; omega
 have hwj : wrap64 ((j : Int) + 1 - 1) = (j : Int) := by rw [Go.Proofs.Ytipahijdcgoemaa.U.wr (by omega) (by omega)]; omega
 have atInt : ∀ k : Nat, k < l2.length → ∃ ad, A2 = some ad ∧ W.cell? (ad.add k) = some (.int .i64 (l2.getD k 0)) := fun k hk => by
   obtain ⟨ad, c, e, _, hK, hc0⟩ := Kd.C_get hC (0 : Int) (k : Int) (by omega) (by omega)
   have hc : ∀ j u, c[j]? = some u → W.cell? (ad.add ((k : Int).toNat * 1 + j)) = some u := hc0
   have e1 : c = [.int .i64 (l2.getD (k : Int).toNat 0)] := hK
   subst e1
   have hq := hc 0 _ rfl
   rw [Nat.mul_one, Nat.add_zero, Int.toNat_natCast] at hq
   exact ⟨ad, e, hq⟩
 obtain ⟨ad, rfl, hci⟩ := atInt i hi
 obtain ⟨ad2, e2, hcj⟩ := atInt j hj
 cases e2
 have e1 : ((i : Int) + 1 - 1).toNat = i := by omega
 have e2 : ((j : Int) + 1 - 1).toNat = j := by omega
 rw [e1, e2]
 have hib : decide (i < l2.length) = true := decide_eq_true hi
 have hjb : decide (j < l2.length) = true := decide_eq_true hj
 have hi2 : (i : Int) < (l2.length : Int) := by omega
 have hj2 : (j : Int) < (l2.length : Int) := by omega
 clear hx hy hC e1 e2 atInt
 generalize l2.getD i 0 = a at *
 generalize l2.getD j 0 = b at *
 go_enter Try.func35, Try.ntmps35
 go_wp2
 go_quiet ((go_at_call 36; exact Calls.quiet_of (ld_cmp b a _)))
 go_wp2
 go_ret
 exact ⟨rfl, nq, rfl⟩
theorem impl_LoadOrder.rep {ps : List Int} {cs : List Value} (h : Reps (fun x cs => cs = [Value.int .i64 x]) 1 ps cs) : cs = ps.map (Value.int .i64) := by
 apply List.ext_getElem?
 intro j
 have hl : cs.length = ps.length := by rw [h.1, Nat.mul_one]
 by_cases hj : j < ps.length
 rotate_left
 ·rw [List.getElem?_eq_none (by omega), List.getElem?_eq_none (by rw [List.length_map]; omega)]
 have h1 := h.2 j ps[j] (List.getElem?_eq_getElem hj)
 rw [Nat.mul_one] at h1
 have hj2 : j < cs.length := by omega
 rw [List.drop_eq_getElem_cons hj2, List.take_succ_cons, List.take_zero] at h1
 rw [List.getElem?_eq_getElem hj2, List.getElem?_map, List.getElem?_eq_getElem hj]
 injection h1 with h2 _
 rw [h2]; rfl
theorem impl_LoadOrder.per (ps : List Int) : Reps (fun x cs => cs = [Value.int .i64 x]) 1 ps (ps.map (Value.int .i64)) := by
 refine ⟨by rw [List.length_map, Nat.mul_one], fun j p hj => ?_⟩
 obtain ⟨hl, rfl⟩ := List.getElem?_eq_some_iff.mp hj
 have h2 : j < (ps.map (Value.int .i64)).length := by rw [List.length_map]; exact hl
 rw [Nat.mul_one, List.drop_eq_getElem_cons h2, List.take_succ_cons, List.take_zero, List.getElem_map]
theorem ld_swo (P : List Int) : Go.Sort.SWO (Go.Proofs.ltOf (ldCf P)) := by
 have e : ∀ x y, Go.Proofs.ltOf (ldCf P) x y = decide (P.getD (ldCl P.length y - 1).toNat 0 < P.getD (ldCl P.length x - 1).toNat 0) := fun x y => by
   unfold Go.Proofs.ltOf ldCf ldCmp
   apply decide_eq_decide.mpr
   constructor
   · intro h; split at h
     · assumption
     · split at h <;> omega
   · intro h; rw [if_pos h]; omega
 refine ⟨fun x => ?_, fun x y z h1 h2 => ?_, fun x y z h1 h2 => ?_⟩
 ·rw [e]; simp
 ·rw [e, decide_eq_true_eq] at *; omega
 rw [e, decide_eq_false_iff_not] at *; omega
theorem ldOrd_len (P : List Int) : (ldOrd P).length = P.length := by
 have h := (Go.Sort.insertionSort_holds (ld_swo P) (ldNums P.length).toArray 0 P.length (Nat.zero_le _) (by simp [ldNums])).1.1
 unfold ldOrd
 rw [List.length_map, Array.length_toList, h]
 simp [ldNums]
theorem ld_putRow (n : Nat) (W : World) (g : Nat) (res : Array Int) : Go.Sort.putRow (ldEnc n) W g 0 res = Go.Sort.putRow (Value.int .i64) W g 0 (res.toList.map (ldCl n)).toArray := by
 unfold Go.Sort.putRow
 congr 1
 funext c
 unfold Go.Sort.putCells
 congr 1
 funext k x
 rw [show (res.toList.map (ldCl n)).toArray.size = res.size by simp]
 split
 ·rename_i h
  have hk : k - 0 < res.size := by omega
  rw [getElem!_pos res (k - 0) hk, getElem!_pos _ (k - 0) (by simpa using hk)]
  simp [ldEnc]
 rfl
theorem impl_LoadOrder.reads (A2 : Option Addr) (c2 : Nat) (l2 : List Int) (gs : Nat) (w0 w : World) (hB : Below w0.heap.size w0 w) (hC : Kd.C (Kd.int .i64) w0 A2 l2.length l2) (hs : w.cell? ⟨gs, 2, none⟩ = some (.slice A2 l2.length c2)) (g : Nat) (hg : w0.heap.size ≤ g) (hne : gs ≠ g) (hn : 1 ≤ l2.length) (size : Nat) :
    Go.Proofs.CmpReads Try.prog 35 #[.pointer (some ⟨gs, 0, none⟩)] (ldEnc l2.length) (ldCf l2) g 0 size w := by
 intro m os dk hsz x y
 have hgr : w.grownBy (Go.Proofs.sortWorld (ldEnc l2.length) w g 0 m dk os) (some g) := by
   unfold Go.Proofs.sortWorld
   refine ⟨rfl, rfl, rfl, by simp, fun k hk hne => ?_⟩
   rw [Go.Sort.heap_grow_old _ _ (by simpa using hk)]
   have : g ≠ k := fun e => hne (by rw [e])
   simp [Go.Sort.putRow, Go.Sort.mapBlock, Go.Sort.ahead, Array.getElem?_modify, this]
 exact impl_LoadOrder.each A2 c2 l2 gs (ldCl l2.length x) (ldCl l2.length y) _ (hgr.cell hs (fun e => hne (by injection e))) (Kd.C_below hC (hB.grown hgr hB.size (fun k hk => by cases hk; exact hg))) (ldCl_in _ hn x) (ldCl_in _ hn y)
set_option maxHeartbeats 8000000 in
set_option maxRecDepth 100000 in
theorem impl_LoadOrder.none_ (A : Option Addr) (c : Nat) (v : Value) (w : World) : Calls Try.prog 78 #[.slice A 0 c, .int .i64 0, .int .i64 0, v] w fun e w' => e = .returned (.tuple #[]) ∧ w' = w := by
 go_enter Try.func78, Try.ntmps78
 go_wp2
 go_loopw [8] (fun v8 wr => v8 = .int .i64 1 ∧ wr = w) (fun v8 wr => 0)
 case atStart => exact ⟨rfl, rfl⟩
 obtain ⟨rfl, rfl⟩ := hrel
 go_wp2
 go_end0
 exact ⟨rfl, rfl⟩
theorem impl_LoadOrder.ins (A2 : Option Addr) (c2 : Nat) (l2 : List Int) (gs : Nat) (w0 w : World) (hB : Below w0.heap.size w0 w) (hC : Kd.C (Kd.int .i64) w0 A2 l2.length l2) (hBS : ∃ cs, w.heap[gs]? = some (.cells cs 26 (0, 0))) (hs : w.cell? ⟨gs, 2, none⟩ = some (.slice A2 l2.length c2)) (hn : l2.length ≤ 1000) (v : Value) (ok : Nat → Prop) (hR : Kd.R (Kd.int .i64) 3 w w0.heap.size ok v (ldNums l2.length)) :
    Calls Try.prog 78 #[v, .int .i64 0, .int .i64 (l2.length : Int), .func (.func 35) #[] #[.pointer (some ⟨gs, 0, none⟩)]] w fun e w' => e = .returned (.tuple #[]) ∧ Kd.R (Kd.int .i64) 3 w' w0.heap.size ok v (ldOrd l2) ∧ w.grownBy w' v.ownBlock := by
 by_cases h0 : l2.length = 0
 ·have hl2 : l2 = [] := List.length_eq_zero_iff.1 h0
  subst hl2
  obtain ⟨A, c, rfl⟩ := Kd.R_slice hR
  refine (impl_LoadOrder.none_ A c _ w).mono ?_
  rintro e w' ⟨rfl, rfl⟩
  have e0 : ldOrd [] = ldNums ([] : List Int).length := List.length_eq_zero_iff.1 (by rw [ldOrd_len]; rfl)
  rw [e0]
  exact ⟨rfl, hR, World.grownBy.refl _ _⟩
 obtain ⟨hok, inner, ho, hr⟩ := hR
 obtain rfl := impl_LoadOrder.rep hr
 have hln := ldNums_len l2.length
 obtain ⟨hl, ⟨rfl, h00⟩ | ⟨g, cap, cur, rfl, hg, hb, h1, h2, h3, h4⟩⟩ := ho
 ·omega
 have hgs : gs ≠ g := fun e => by
   obtain ⟨cs, hcs⟩ := hBS
   rw [e, hb] at hcs
   injection hcs with hcs
   injection hcs with _ hcs
   exact absurd hcs (by decide)
 have h3 : cur.size = cap := by have h_ := h3; rw [show (Kd.int .i64).sz = 1 from rfl, Nat.mul_one] at h_; exact h_
 have h4 : cur.toList.take (ldNums l2.length).length = (ldNums l2.length).map (Value.int .i64) := by have h_ := h4; rw [show (Kd.int .i64).sz = 1 from rfl, Nat.mul_one] at h_; exact h_
 have hH0 : Go.Sort.Holds (Value.int .i64) w g 0 (ldNums l2.length).toArray := Go.holds_of_blockI hb h4
 have hH : Go.Sort.Holds (ldEnc l2.length) w g 0 (ldNums l2.length).toArray := fun j hj => by
   have h5 := hH0 j hj
   have hj2 : j < (ldNums l2.length).length := by simpa using hj
   have e : ldEnc l2.length (ldNums l2.length).toArray[j]! = Value.int .i64 (ldNums l2.length).toArray[j]! := by
     rw [getElem!_pos _ j hj]
     simp only [List.getElem_toArray]
     rw [ldNums_at _ _ hj2]
     unfold ldEnc ldCl
     rw [if_pos (by omega)]
   rw [e]
   exact h5
 have hc := Go.Proofs.Any.insertionSortCmpFunc_one Go.Proofs.Try.laysIns (ldEnc l2.length) (fun _ => rfl) (ldCf l2) 35 #[.pointer (some ⟨gs, 0, none⟩)] g 0 cap 0 l2.length (ldNums l2.length).toArray w (fun args W => enters_ Try.func35 (by kernel_rfl) rfl args W) (impl_LoadOrder.reads A2 c2 l2 gs w0 w hB hC hs g hg hgs (by omega) _) hH (Nat.zero_le _) (by simp [ldNums]) (by simp [ldNums]; omega)
 rw [List.size_toArray] at hc
 refine (show Calls Try.prog 78 #[.slice (some ⟨g, 0, none⟩) (ldNums l2.length).length cap, .int .i64 0, .int .i64 (l2.length : Int), .func (.func 35) #[] #[.pointer (some ⟨gs, 0, none⟩)]] w _ from hc).mono ?_
 rintro e w' ⟨rfl, m, rfl⟩
 rw [← Go.Proofs.sortWorld_none]
 unfold Go.Proofs.sortWorld
 rw [ld_putRow]
 have hlen : (ldOrd l2).length = (ldNums l2.length).length := by rw [ldOrd_len, ldNums_len]
 change _ ∧ Kd.R (Kd.int .i64) 3 (Go.Sort.grow (Go.Sort.putRow (Value.int .i64) (Go.Sort.ahead w m) g 0 (ldOrd l2).toArray) #[]) w0.heap.size ok _ (ldOrd l2) ∧ w.grownBy (Go.Sort.grow (Go.Sort.putRow (Value.int .i64) (Go.Sort.ahead w m) g 0 (ldOrd l2).toArray) #[]) _
 have hgr := Go.grownBy_sortedI (w := w) (g := g) (n := m) (os := #[]) (ldOrd l2).toArray
 have hown := Go.ownsRow_sortedI (n := m) (os := #[]) (cap := cap) hlen hg hb h1 h2 (by rw [Nat.mul_one]; exact h3)
 exact ⟨rfl, ⟨fun k hk => hok k hk, _, by rw [hlen]; exact hown, impl_LoadOrder.per _⟩, hgr⟩
set_option maxHeartbeats 8000000 in
set_option maxRecDepth 100000 in
theorem impl_LoadOrder.stable (A2 : Option Addr) (c2 : Nat) (l2 : List Int) (gs : Nat) (w0 w : World) (hB : Below w0.heap.size w0 w) (hC : Kd.C (Kd.int .i64) w0 A2 l2.length l2) (hBS : ∃ cs, w.heap[gs]? = some (.cells cs 26 (0, 0))) (hs : w.cell? ⟨gs, 2, none⟩ = some (.slice A2 l2.length c2)) (hn : l2.length ≤ 7) (v : Value) (ok : Nat → Prop) (hR : Kd.R (Kd.int .i64) 3 w w0.heap.size ok v (ldNums l2.length)) :
    Calls Try.prog 59 #[v, .int .i64 (l2.length : Int), .func (.func 35) #[] #[.pointer (some ⟨gs, 0, none⟩)]] w fun e w' => e = .returned (.tuple #[]) ∧ Kd.R (Kd.int .i64) 3 w' w0.heap.size ok v (ldOrd l2) ∧ w.grownBy w' v.ownBlock := by
 have HI := Aside0.mk (impl_LoadOrder.ins A2 c2 l2 gs w0 w hB hC hBS hs (by omega) v ok hR)
 have hn1 : decide (20 ≤ (l2.length : Int)) = false := decide_eq_false (by omega)
 have hn2 : decide (20 < (l2.length : Int)) = false := decide_eq_false (by omega)
 have hn3 : decide (20 ≤ l2.length) = false := decide_eq_false (by omega)
 have hn4 : decide (20 < l2.length) = false := decide_eq_false (by omega)
 clear hB hC hBS hs hR
 go_enter Try.func59, Try.ntmps59
 go_wp2
 go_loopw [7, 8] (fun v7 v8 wr => v7 = .int .i64 0 ∧ v8 = .int .i64 20 ∧ wr = w) (fun v7 v8 wr => 0)
 case atStart => exact ⟨rfl, rfl, rfl⟩
 obtain ⟨rfl, rfl, rfl⟩ := hrel
 go_wp2_with (first | (go_at_call 78; refine HI.out.mono ?_; rintro e w2 ⟨rfl, hR2, hg2⟩; have HR2 := Aside0.mk hR2; have HG2 := Aside0.mk hg2; clear hR2 hg2))
 go_loopw [6] (fun v6 wr => v6 = .int .i64 20 ∧ wr = w2) (fun v6 wr => 0)
 case atStart => exact ⟨rfl, rfl⟩
 obtain ⟨rfl, rfl⟩ := hrel
 go_wp2
 go_end0
 exact ⟨rfl, HR2.out, HG2.out⟩
set_option maxHeartbeats 8000000 in
set_option maxRecDepth 100000 in
theorem impl_LoadOrder.sort (A2 : Option Addr) (c2 : Nat) (l2 : List Int) (gs : Nat) (w0 w : World) (hB : Below w0.heap.size w0 w) (hC : Kd.C (Kd.int .i64) w0 A2 l2.length l2) (hBS : ∃ cs, w.heap[gs]? = some (.cells cs 26 (0, 0))) (hs : w.cell? ⟨gs, 2, none⟩ = some (.slice A2 l2.length c2)) (hn : l2.length ≤ 7) (A : Option Addr) (c : Nat) (ok : Nat → Prop) (hR : Kd.R (Kd.int .i64) 3 w w0.heap.size ok (.slice A l2.length c) (ldNums l2.length)) :
    Calls Try.prog 34 #[.slice A l2.length c, .func (.func 35) #[] #[.pointer (some ⟨gs, 0, none⟩)]] w fun e w' => e = .returned (.tuple #[]) ∧ Kd.R (Kd.int .i64) 3 w' w0.heap.size ok (.slice A l2.length c) (ldOrd l2) ∧ w.grownBy w' (Value.slice A l2.length c).ownBlock := by
 have HI := Aside0.mk (impl_LoadOrder.stable A2 c2 l2 gs w0 w hB hC hBS hs hn _ ok hR)
 clear hB hC hBS hs hR
 go_enter Try.func34, Try.ntmps34
 go_wp2_with (first | (go_at_call 59; refine HI.out.mono ?_; rintro e w2 ⟨rfl, hR2, hg2⟩; have HR2 := Aside0.mk hR2; have HG2 := Aside0.mk hg2; clear hR2 hg2))
 go_end0
 exact ⟨rfl, HR2.out, HG2.out⟩
set_option maxHeartbeats 8000000 in
set_option maxRecDepth 100000 in
theorem impl_LoadOrder.calls (a0_0 : Int) (a0_1 : Int) (A0_2 : Option Addr) (c0_2 : Nat) (l0_2 : List Int) (r1 : List Int) (r2 : Bool) (w : World) (hr0_2 : Kd.C (Kd.int .i64) w A0_2 l0_2.length l0_2) (hc0_2 : l0_2.length ≤ c0_2) (h : impl_LoadOrder.f a0_0 a0_1 l0_2 = some (r1, r2)) :
    Calls Try.prog 11 #[.agg #[.int .i64 a0_0, .int .i64 a0_1, .slice A0_2 l0_2.length c0_2]] w fun e w' => ∃ v0_ : Value, e = .returned (.tuple #[v0_, .bool r2]) ∧ Kd.R (Kd.int .i64) 3 w' w.heap.size (fun _ => True) v0_ r1 ∧ Below w.heap.size w w' := by
 have hu := Try.underlying26
 have hln : l0_2.length ≤ 9223372036854775807 := hr0_2.2.1
 unfold impl_LoadOrder.f at h
 have h := Option.some.inj h
 have HR0 := Aside0.mk hr0_2
 have HC0 := Aside0.mk hc0_2
 have HB0 := Aside0.mk (Below.refl w.heap.size w)
 clear hr0_2 hc0_2
 have HB1 := Aside0.mk (below_alloc HB0.out (.cells #[.int .i64 a0_0, .int .i64 a0_1, .slice A0_2 l0_2.length c0_2] 26))
 have BS1 := Aside0.mk (show (w.alloc (.cells #[.int .i64 a0_0, .int .i64 a0_1, .slice A0_2 l0_2.length c0_2] 26)).heap[w.heap.size]? = some (.cells #[.int .i64 a0_0, .int .i64 a0_1, .slice A0_2 l0_2.length c0_2] 26 (0, 0)) from blk_new w _)
 have hlt1 : w.heap.size < (w.alloc (.cells #[.int .i64 a0_0, .int .i64 a0_1, .slice A0_2 l0_2.length c0_2] 26)).heap.size := by simp
 have hv : impl_IsValidStowage.f a0_0 a0_1 l0_2 = some (okSt a0_0 a0_1 l0_2) := rfl
 cases hok : okSt a0_0 a0_1 l0_2
 ·rw [hok] at h hv
  injection h with h1 h2
  subst h1 h2
  have HV := Aside0.mk hv
  clear hv hok
  go_enter Try.func11, Try.ntmps11
  go_wp2_with (first | (go_at_call 17; refine (impl_IsValidStowage.calls a0_0 a0_1 A0_2 c0_2 l0_2 _ _ (Kd.C_below HR0.out HB1.out) HC0.out HV.out).mono ?_; rintro e w2 ⟨rfl, hbl⟩; have HB2 := Aside0.mk (HB1.out.trans (hbl.mono (Nat.le_of_lt hlt1))); have BS2 := Aside0.mk (blk_below (g := w.heap.size) (o := .cells #[.int .i64 a0_0, .int .i64 a0_1, .slice A0_2 l0_2.length c0_2] 26 (0, 0)) BS1.out hbl); clear hbl; have hcz2 : w2.cell? ⟨w.heap.size, 2, none⟩ = some (.slice A0_2 l0_2.length c0_2) := (blk_cell BS2.out 2).trans rfl))
  go_ret2
  exact ⟨_, rfl, Kd.R_nil _ _ _ _ _, HB2.out⟩
 have h7 : l0_2.length ≤ 7 := by
   have h5 := hok
   unfold okSt at h5
   simp only [Bool.and_eq_true, decide_eq_true_eq] at h5
   omega
 rw [hok] at h hv
 injection h with h1 h2
 subst h1 h2
 have HV := Aside0.mk hv
 clear hv hok
 go_enter Try.func11, Try.ntmps11
 go_wp2_with (first | (go_at_call 17; refine (impl_IsValidStowage.calls a0_0 a0_1 A0_2 c0_2 l0_2 _ _ (Kd.C_below HR0.out HB1.out) HC0.out HV.out).mono ?_; rintro e w2 ⟨rfl, hbl⟩; have HB2 := Aside0.mk (HB1.out.trans (hbl.mono (Nat.le_of_lt hlt1))); have BS2 := Aside0.mk (blk_below (g := w.heap.size) (o := .cells #[.int .i64 a0_0, .int .i64 a0_1, .slice A0_2 l0_2.length c0_2] 26 (0, 0)) BS1.out hbl); clear hbl; have hcz2 : w2.cell? ⟨w.heap.size, 2, none⟩ = some (.slice A0_2 l0_2.length c0_2) := (blk_cell BS2.out 2).trans rfl) | ((with_reducible refine gate_dst (N := 9) rfl ?_); refine Kd.R_lit (Kd.int .i64) _ 3 ?hg (N := 9) ?hd (xs := ([] : List Int)) (inner := []) (ok := fun _ => True) (okp := fun _ => True) ?hr ?hp (fun _ hk => hk) trivial (Below.refl _ _) (Nat.le_refl _) (by simp) ?_; (case hd => rfl); (case hg => rfl); (case hr => first | (go_simp; done) | (go_simp; rfl)); (case hp => exact (Reps.none _ _)); intro v9 w3 ho hb hg_ hnew_; clear hg_ hnew_; (try simp only [Int.reduceToNat] at ho); have HO := Aside0.mk (Kd.R_lower ho (below_size (bel HB2))); have BS3 := Aside0.mk (blk_below (g := w.heap.size) (o := .cells #[.int .i64 a0_0, .int .i64 a0_1, .slice A0_2 l0_2.length c0_2] 26 (0, 0)) (bkl BS2) hb); have HB3 := Aside0.mk (below_step (bel HB2) hb); clear ho hb; have hcz3 : w3.cell? ⟨w.heap.size, 2, none⟩ = some (.slice A0_2 l0_2.length c0_2) := (blk_cell BS3.out 2).trans rfl))
 go_loopw [4, 13] (fun v4 v13 wr => ∃ i : Nat, v13 = .int .i64 (i : Int) ∧ Aside0 (i ≤ l0_2.length) ∧ Aside0 (Kd.R (Kd.int .i64) 3 wr w.heap.size (fun _ => True) v4 (ldNums i)) ∧ Aside0 (wr.heap[w.heap.size]? = some (.cells #[.int .i64 a0_0, .int .i64 a0_1, .slice A0_2 l0_2.length c0_2] 26 (0, 0))) ∧ Aside0 (Below w.heap.size w wr))
   (fun v4 v13 wr => l0_2.length - (intOf v13).toNat)
 case atStart => exact ⟨0, rfl, ⟨Nat.zero_le _⟩, HO, BS3, HB3⟩
 try clear hcz2
 try clear hcz3
 clear HO BS3 HB3 HB2 BS2
 obtain ⟨i, rfl, HLe, HO, BS, HB⟩ := hrel
 have hcb : wr.cell? ⟨w.heap.size, 2, none⟩ = some (.slice A0_2 l0_2.length c0_2) := (blk_cell BS.out 2).trans rfl
 by_cases hlt : i < l0_2.length
 rotate_left
 ·have hltb : decide (i < l0_2.length) = false := decide_eq_false hlt
  have hil : i = l0_2.length := by have := HLe.out; omega
  subst hil
  have HS := Aside0.mk hcb
  obtain ⟨A4, c4, e4⟩ := Kd.R_slice HO.out
  rw [ldNums_len] at e4
  subst e4
  go_wp2_with (first | (go_at_call 34; refine (impl_LoadOrder.sort A0_2 c0_2 l0_2 w.heap.size w _ (bel HB) HR0.out ⟨_, bkl BS⟩ HS.out h7 A4 c4 (fun _ => True) (rdl HO)).mono ?_; rintro e w5 ⟨rfl, hR5, hg5⟩; have HR5 := Aside0.mk hR5; have HB5 := Aside0.mk (HB.out.grown hg5 HB.out.size (fun k hk => Kd.R_base HO.out k hk)); clear hR5 hg5))
  go_ret2
  exact ⟨_, rfl, HR5.out, HB5.out⟩
 have hltb : decide (i < l0_2.length) = true := decide_eq_true hlt
 go_wp2_with (first | ((with_reducible refine gate_builtin (b := .append) (xs := #[.tmp 16, .tmp 19]) rfl ?_); at_builtin; refine Kd.R_append (Kd.int .i64) (w0 := w) w.heap.size rfl (.tmp 16) (.tmp 19) 24 3 (.int .i64 0) 8 rfl Try.underlying24 info3 rfl (by decide) (by omega) u4 (ldNums i) ((i : Int) + 1) [.int .i64 ((i : Int) + 1)] (fun _ => True) (fun _ => False) rfl rfl ?aP (fun _ hk => hk.elim) ?aF ?aO ?aB ?aS ?aL ?_; (case aP => exact rfl); (case aB => exact (bel HB)); (case aF => exact (fun _ _ => trivial)); (case aO => exact (rdl HO)); (case aS => exact (below_size (bel HB))); (case aL => rw [ldNums_len]; omega); intro v20 w15 ho hb hg hat; have BS2 := Aside0.mk (blk_grown (g := w.heap.size) (o := .cells #[.int .i64 a0_0, .int .i64 a0_1, .slice A0_2 l0_2.length c0_2] 26 (0, 0)) (bkl BS) hg (Kd.R_ne HO.out BS.out (by decide))); have HB2 := Aside0.mk hb; have HO2 := Aside0.mk ho; clear ho hb hg hat))
 go_roundw
 case rel => exact ⟨i + 1, by go_num, ⟨hlt⟩, ⟨by rw [ldNums_succ]; exact HO2.out⟩, BS2, HB2⟩
 case measure => simp [intOf]; omega
end Go.Proofs.Ytipahijdcgoemaa.P
