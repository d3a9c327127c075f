-- Written by a program of this session over the translation (a variant of the printer, see wip/gen); Lean checks it.
import Derived.Test.YtipahijdcgoemaaPx0
import Derived.Test.YtipahijdcgoemaaPx2
import Derived.Test.YtipahijdcgoemaaPx3
import Derived.Test.YtipahijdcgoemaaPx4
import Derived.Test.YtipahijdcgoemaaPx8
import Derived.Test.YtipahijdcgoemaaU
namespace Go.Proofs.Ytipahijdcgoemaa.P
open Go.RowKit Go.Proofs.YtipahijdcgoemaaW.PrintWords Go.Proofs.YtipahijdcgoemaaW.PrintLast Go.Proofs.YtipahijdcgoemaaW.PrintMore
attribute [local go_sem] Go.Proofs.Ytipahijdcgoemaa.V.isSome_setCell max2_int min2_int max_two min_two max_three min_three max_four min_four
set_option linter.unusedVariables false
set_option linter.unusedSimpArgs false
/-! ### impl_GreedyStowage: function 19 -/
theorem impl_GreedyStowage.atRow {w : World} {A : Option Addr} {n : Nat} {xs : List (List Int)} (h : Kd.C (Kd.slice 3 (Kd.int .i64)) w A n xs) (i : Nat) (h1 : i < n) : ∃ ad A0 c0, A = some ad ∧ w.cell? (ad.add i) = some (.slice A0 (xs.getD i []).length c0) ∧ (xs.getD i []).length ≤ c0 ∧ Kd.C (Kd.int .i64) w A0 (xs.getD i []).length (xs.getD i []) := by
 obtain ⟨ad, c, e, _, hK, hc0⟩ := Kd.C_get h ([] : List Int) (i : Int) (by omega) (by omega)
 have hc : ∀ j u, c[j]? = some u → w.cell? (ad.add ((i : Int).toNat * 1 + j)) = some u := hc0
 obtain ⟨A0, c0, rfl, l0, g0⟩ := hK
 have hq := hc 0 _ rfl
 rw [Nat.mul_one, Nat.add_zero, Int.toNat_natCast] at hq
 exact ⟨ad, A0, c0, e, hq, l0, g0⟩
/-- The first row for which a predicate holds, from place i on; -1 if there is none. -/
def idxR (p : List Int → Bool) : List (List Int) → Nat → Int
  | [], _ => -1
  | x :: l, i => if p x then (i : Int) else idxR p l (i + 1)
set_option maxHeartbeats 8000000 in
set_option maxRecDepth 100000 in
/-- slices.IndexFunc at rows of numbers and a function value that captures something. -/
theorem idxRows (g : FuncId) (cap : Array Value) (p : List Int → Bool) (A0 : Option Addr) (c0 : Nat) (tab : List (List Int)) (w : World) (hr0 : Kd.C (Kd.slice 3 (Kd.int .i64)) w A0 tab.length tab) (hcf : ∀ (args : Array Value) (W : World), (callFunc g args).run Try.prog W = .ok (.enter g args) W)
    (hp : ∀ (row : List Int), row ∈ tab → ∀ (A : Option Addr) (c : Nat) (W : World), Drawn0 w W → Kd.C (Kd.int .i64) W A row.length row → row.length ≤ c → Calls Try.prog g (#[.slice A row.length c] ++ cap) W fun e W' => e = .returned (.bool (p row)) ∧ Drawn0 W W') :
    Calls Try.prog 46 #[.slice A0 tab.length c0, .func (.func g) #[] cap] w fun e w' => e = .returned (.int .i64 (idxR p tab 0)) ∧ Drawn0 w w' := by
 have hln : tab.length ≤ 9223372036854775807 := hr0.2.1
 have HR := Aside0.mk hr0
 have HP := Aside0.mk hp
 clear hr0 hp
 go_enter Try.func46, Try.ntmps46
 go_wp2
 go_loopw [8] (fun v8 wr => ∃ i : Nat, v8 = .int .i64 (i : Int) ∧ Aside0 (i ≤ tab.length) ∧ Aside0 (idxR p (tab.drop i) i = idxR p tab 0) ∧ Drawn0 w wr) (fun v8 wr => tab.length - (intOf v8).toNat)
 case atStart => exact ⟨0, rfl, ⟨Nat.zero_le _⟩, ⟨rfl⟩, Drawn0.refl _⟩
 obtain ⟨i, rfl, HLe, HI, HD⟩ := hrel
 have HD2 := Aside0.mk HD
 clear HD
 by_cases hlt : i < tab.length
 rotate_left
 ·have hltb : decide (i < tab.length) = false := decide_eq_false hlt
  have H3 := Aside0.mk (show (-1 : Int) = idxR p tab 0 by
    have h1 := HI.out
    rw [List.drop_of_length_le (by omega)] at h1
    exact h1)
  clear HI
  go_wp2
  go_ret
  exact ⟨by first | (rw [← H3.out]; done) | (rw [← H3.out]; rfl), HD2.out⟩
 have hltb : decide (i < tab.length) = true := decide_eq_true hlt
 obtain ⟨ad, A1, c1, eA, hcell, hcr, hCr⟩ := impl_GreedyStowage.atRow HR.out i hlt
 cases eA
 replace hcell := (HD2.out.below.cell (World.block_lt_of_cell? w _ hcell)).trans hcell
 have hdrop : tab.drop i = tab.getD i [] :: tab.drop (i + 1) := by rw [List.drop_eq_getElem_cons hlt, Go.Proofs.Ytipahijdcgoemaa.U.getD_at _ _ _ hlt]
 have HDr := Aside0.mk hdrop
 have HMem := Aside0.mk (show tab.getD i [] ∈ tab by rw [Go.Proofs.Ytipahijdcgoemaa.U.getD_at _ _ _ hlt]; exact List.getElem_mem hlt)
 clear hdrop
 generalize hx : tab.getD i [] = x at *
 clear hx
 have HCr := Aside0.mk (Kd.C_below hCr HD2.out.below)
 have Hcr := Aside0.mk hcr
 clear hCr hcr
 cases hpx : p x
 ·have HPx := Aside0.mk hpx
  clear hpx
  have H3 := Aside0.mk (show idxR p (tab.drop (i + 1)) (i + 1) = idxR p tab 0 by
    have h1 := HI.out
    rw [HDr.out, idxR, HPx.out] at h1
    exact h1)
  clear HI HDr
  go_wp2_with (first | (refine (HP.out x HMem.out A1 c1 _ HD2.out HCr.out Hcr.out).mono ?_; rw [HPx.out]; rintro e w' ⟨rfl, ⟨nd, rfl⟩⟩))
  go_roundw
  case rel => exact ⟨i + 1, by go_num, ⟨hlt⟩, H3, HD2.out.step nd⟩
  case measure => simp [intOf]; omega
 have HPx := Aside0.mk hpx
 clear hpx
 have H3 := Aside0.mk (show (i : Int) = idxR p tab 0 by
   have h1 := HI.out
   rw [HDr.out, idxR, HPx.out] at h1
   exact h1)
 clear HI HDr
 go_wp2_with (first | (refine (HP.out x HMem.out A1 c1 _ HD2.out HCr.out Hcr.out).mono ?_; rw [HPx.out]; rintro e w' ⟨rfl, ⟨nd, rfl⟩⟩))
 go_ret
 exact ⟨by first | (rw [← H3.out]; done) | (rw [← H3.out]; rfl), HD2.out.step nd⟩
set_option maxHeartbeats 8000000 in
set_option maxRecDepth 100000 in
theorem impl_GreedyStowage.each (A2 : Option Addr) (c2 : Nat) (l2 : List Int) (gs gp : Nat) (x q : Int) (W : World) (hs : W.cell? ⟨gs, 2, none⟩ = some (.slice A2 l2.length c2)) (hq : W.cell? ⟨gp, 0, none⟩ = some (.int .i64 q)) (hC : Kd.C (Kd.int .i64) W A2 l2.length l2) (hx : 1 ≤ x ∧ x ≤ (l2.length : Int)) :
    Calls Try.prog 48 #[.int .i64 x, .pointer (some ⟨gs, 0, none⟩), .pointer (some ⟨gp, 0, none⟩)] W fun e W' => e = .returned (.bool (decide (l2.getD (x - 1).toNat 0 < q))) ∧ Drawn0 W W' := by
 have hu := Try.underlying26
 have hln : l2.length ≤ 9223372036854775807 := hC.2.1
 obtain ⟨i, rfl⟩ : ∃ i : Nat, x = (i : Int) + 1 := ⟨(x - 1).toNat, by omega⟩
 have hi : i < l2.length := by omega
 have hwi : wrap64 ((i : Int) + 1 - 1) = (i : Int) := by rw [Go.Proofs.Ytipahijdcgoemaa.U.wr (by omega) (by omega)]; omega
 obtain ⟨ad, rfl, hci⟩ := indexFunc.atInt hC i hi
 have e1 : ((i : Int) + 1 - 1).toNat = i := by omega
 rw [e1]
 have hib : decide (i < l2.length) = true := decide_eq_true hi
 have hi2 : (i : Int) < (l2.length : Int) := by omega
 clear hx hC e1
 generalize l2.getD i 0 = a at *
 go_enter Try.func48, Try.ntmps48
 go_wp2
 go_quiet (fail)
 go_wp2
 go_ret
 exact ⟨rfl, (Drawn0.refl _).step _⟩
def grH (high : Int) (row : List Int) : Bool := decide ((row.length : Int) < high)
def grR (P : List Int) (high q : Int) (row : List Int) : Bool := grH high row && !(row.any fun n => decide (P.getD (n - 1).toNat 0 < q))
set_option maxHeartbeats 8000000 in
set_option maxRecDepth 100000 in
theorem impl_GreedyStowage.two (gs : Nat) (h : Int) (A : Option Addr) (c : Nat) (row : List Int) (W : World) (hs : W.cell? ⟨gs, 1, none⟩ = some (.int .i64 h)) (hln : row.length ≤ 9223372036854775807) :
    Calls Try.prog 49 #[.slice A row.length c, .pointer (some ⟨gs, 0, none⟩)] W fun e W' => e = .returned (.bool (grH h row)) ∧ Drawn0 W W' := by
 have hu := Try.underlying26
 unfold grH
 go_enter Try.func49, Try.ntmps49
 go_wp2
 go_ret
 exact ⟨by first | rfl | simp, Drawn0.refl _⟩
set_option maxHeartbeats 8000000 in
set_option maxRecDepth 100000 in
theorem impl_GreedyStowage.one (A2 : Option Addr) (c2 : Nat) (l2 : List Int) (gs gp : Nat) (h q : Int) (A : Option Addr) (c : Nat) (row : List Int) (W : World) (hs : W.cell? ⟨gs, 2, none⟩ = some (.slice A2 l2.length c2)) (hh : W.cell? ⟨gs, 1, none⟩ = some (.int .i64 h)) (hq : W.cell? ⟨gp, 0, none⟩ = some (.int .i64 q)) (hC : Kd.C (Kd.int .i64) W A2 l2.length l2) (hrow : Kd.C (Kd.int .i64) W A row.length row) (hx : ∀ x, x ∈ row → 1 ≤ x ∧ x ≤ (l2.length : Int)) :
    Calls Try.prog 47 #[.slice A row.length c, .pointer (some ⟨gs, 0, none⟩), .pointer (some ⟨gp, 0, none⟩)] W fun e W' => e = .returned (.bool (grR l2 h q row)) ∧ Drawn0 W W' := by
 have hu := Try.underlying26
 have hln : row.length ≤ 9223372036854775807 := hrow.2.1
 have HS := Aside0.mk hs
 have HQ := Aside0.mk hq
 have HC := Aside0.mk hC
 have HRw := Aside0.mk hrow
 have HX := Aside0.mk hx
 clear hs hq hC hrow hx
 unfold grR grH
 by_cases h1 : (row.length : Int) < h
 rotate_left
 ·have h1b : decide ((row.length : Int) < h) = false := decide_eq_false h1
  rw [h1b]
  go_enter Try.func47, Try.ntmps47
  go_wp2
  go_ret
  exact ⟨by first | rfl | simp, Drawn0.refl _⟩
 have h1b : decide ((row.length : Int) < h) = true := decide_eq_true h1
 rw [h1b]
 go_enter Try.func47, Try.ntmps47
 go_wp2_with (first | (go_at_call 43; refine (containsFuncM 48 #[.pointer (some ⟨gs, 0, none⟩), .pointer (some ⟨gp, 0, none⟩)] (fun n => decide (l2.getD (n - 1).toNat 0 < q)) A c row _ HRw.out (fun args W => enters_ Try.func48 (by kernel_rfl) rfl args W) (fun x hx W hd => impl_GreedyStowage.each A2 c2 l2 gs gp x q W ((hd.below.cell (World.block_lt_of_cell? _ _ HS.out)).trans HS.out) ((hd.below.cell (World.block_lt_of_cell? _ _ HQ.out)).trans HQ.out) (Kd.C_below HC.out hd.below) (HX.out x hx))).mono ?_; rintro e w' ⟨rfl, ⟨nd, rfl⟩⟩))
 go_ret
 exact ⟨by first | rfl | simp, (Drawn0.refl _).step nd⟩
/-- An element of a table of the call's own: its row, and the table with a grown row stored back. -/
theorem impl_GreedyStowage.elem {W : World} {base gt n cap : Nat} {ok : Nat → Prop} {tab : List (List Int)} (h : Kd.S (Kd.slice 3 (Kd.int .i64)) 24 W base ok (.slice (some ⟨gt, 0, none⟩) n cap) tab) (t : Nat) (ht : t < tab.length) :
    ∃ A0 c0 oki, W.cell? ⟨gt, t, none⟩ = some (.slice A0 (tab.getD t []).length c0) ∧ Kd.R (Kd.int .i64) 3 W base oki (.slice A0 (tab.getD t []).length c0) (tab.getD t []) ∧ (∀ k, oki k → ok k ∧ k ≠ gt) ∧
      ∀ (W1 : World) (v1 : Value) (y : List Int), W.grownBy W1 (Value.slice A0 (tab.getD t []).length c0).ownBlock → Kd.R (Kd.int .i64) 3 W1 base (fun k => oki k ∨ ok k ∧ W.heap.size ≤ k) v1 y →
        W1.cell? ⟨gt, t, none⟩ = some (.slice A0 (tab.getD t []).length c0) ∧ W1.frozen? ⟨gt, t, none⟩ = false ∧ Kd.S (Kd.slice 3 (Kd.int .i64)) 24 (W1.setCell ⟨gt, t, none⟩ v1) base ok (.slice (some ⟨gt, 0, none⟩) n cap) (tab.set t y) := by
 have hn := (Kd.S_reads' h).1
 obtain ⟨ad, A0, c0, eA, hcell, hcr, hCr⟩ := impl_GreedyStowage.atRow (Kd.S_reads' h).2.2 t ht
 injection eA with eA
 subst eA
 obtain ⟨oki, c, hcl, hM, hcc, _, hoki, hH⟩ := Kd.S_elem h [] (t : Int) (by omega) (by omega)
 obtain ⟨v, rfl, hR⟩ := hM
 have hv := hcc 0 v rfl
 rw [show (Kd.slice 3 (Kd.int .i64)).sz = 1 from rfl, Nat.mul_one, Nat.add_zero, Int.toNat_natCast] at hv
 have hadd : (⟨gt, 0, none⟩ : Addr).add t = ⟨gt, t, none⟩ := by unfold Addr.add; split <;> simp_all
 rw [hadd] at hcell
 rw [hcell] at hv
 injection hv with hv
 subst hv
 rw [Int.toNat_natCast] at hR
 refine ⟨A0, c0, oki, hcell, hR, hoki, fun W1 v1 y hg hR1 => ?_⟩
 have hH1 := Kd.H_grown (Kd.H_widen hH) hg (fun k e_ => .inl (hR.1 k e_))
 obtain ⟨hc1, hf1⟩ := Kd.H_at hH1 (by omega) (by omega)
 have hc1 := hc1 0 _ rfl
 have hf1 := hf1 0
 have hs := (Kd.S_seg0 hH1 (by omega) (by omega) (seg := [v1]) (j := 0) (Nat.le_refl 1) (x' := y) (Kd.M_row hR1) (fun _ hk => hk)).1
 rw [show (Kd.slice 3 (Kd.int .i64)).sz = 1 from rfl, Nat.mul_one, Nat.add_zero, Int.toNat_natCast] at hc1 hf1 hs
 exact ⟨hc1, hf1, hs⟩
def grAt (P : List Int) (high q : Int) (tab : List (List Int)) : Int := if idxR (grR P high q) tab 0 < 0 then idxR (grH high) tab 0 else idxR (grR P high q) tab 0
def grGo (P : List Int) (high : Int) : Nat → Nat → List (List Int) → List Int → Option (List (List Int) × List Int)
  | 0, _, tab, plan => some (tab, plan)
  | d + 1, i, tab, plan => if 0 ≤ grAt P high (P.getD i 0) tab ∧ grAt P high (P.getD i 0) tab < (tab.length : Int) then grGo P high d (i + 1) (tab.set (grAt P high (P.getD i 0) tab).toNat (tab.getD (grAt P high (P.getD i 0) tab).toNat [] ++ [(i : Int) + 1])) (plan ++ [grAt P high (P.getD i 0) tab]) else none
def impl_GreedyStowage.f (a0_0 : Int) (a0_1 : Int) (l0_2 : List Int) : Option (List Int × Int × Bool) :=
  if okSt a0_0 a0_1 l0_2 = true then (grGo l0_2 a0_1 l0_2.length 0 (List.replicate a0_0.toNat []) []).bind fun q => (impl_shiftedBoxes.f a0_0 a0_1 l0_2 a0_1 q.1).bind fun r => some (q.2, (r.length : Int), true) else some ([], 0, false)
set_option maxHeartbeats 8000000 in
set_option maxRecDepth 100000 in
/-- THE CALL -/
theorem impl_GreedyStowage.sh (a0_0 a0_1 : Int) (A0 : Option Addr) (c0 : Nat) (l0 : List Int) (A1 : Option Addr) (n c1 : Nat) (l1 : List (List Int)) (r : List Int) (w : World) (hn : l1.length = n) (h0 : Kd.C (Kd.int .i64) w A0 l0.length l0) (hc0 : l0.length ≤ c0) (h1 : Kd.C (Kd.slice 3 (Kd.int .i64)) w A1 l1.length l1) (hc1 : l1.length ≤ c1) (h : impl_shiftedBoxes.f a0_0 a0_1 l0 a0_1 l1 = some r) :
    Calls Try.prog 33 #[.agg #[.int .i64 a0_0, .int .i64 a0_1, .slice A0 l0.length c0], .agg #[.int .i64 a0_1, .slice A1 n c1]] w fun e w' => ∃ v0_ : Value, e = .returned v0_ ∧ Kd.R (Kd.int .i64) 3 w' w.heap.size (fun _ => True) v0_ r ∧ Below w.heap.size w w' := by
 subst hn
 exact impl_shiftedBoxes.calls a0_0 a0_1 A0 c0 l0 a0_1 A1 c1 l1 r w h0 hc0 h1 hc1 h
set_option maxHeartbeats 8000000 in
set_option maxRecDepth 100000 in
theorem impl_GreedyStowage.calls (a0_0 : Int) (a0_1 : Int) (A0_2 : Option Addr) (c0_2 : Nat) (l0_2 : List Int) (r1 : List Int) (r2 : Int) (r3 : Bool) (w : World) (hr0_2 : Kd.C (Kd.int .i64) w A0_2 l0_2.length l0_2) (hc0_2 : l0_2.length ≤ c0_2) (h : impl_GreedyStowage.f a0_0 a0_1 l0_2 = some (r1, r2, r3)) :
    Calls Try.prog 19 #[.agg #[.int .i64 a0_0, .int .i64 a0_1, .slice A0_2 l0_2.length c0_2]] w fun e w' => ∃ v0_ : Value, e = .returned (.tuple #[v0_, .int .i64 r2, .bool r3]) ∧ Kd.R (Kd.int .i64) 3 w' w.heap.size (fun _ => True) v0_ r1 ∧ Below w.heap.size w w' := by
 have hu := Try.underlying26
 have hln : l0_2.length ≤ 9223372036854775807 := hr0_2.2.1
 unfold impl_GreedyStowage.f at h
 have HR0 := Aside0.mk hr0_2
 have HC0 := Aside0.mk hc0_2
 have HB0 := Aside0.mk (Below.refl w.heap.size w)
 clear hr0_2 hc0_2
 have HB1 := Aside0.mk (below_alloc HB0.out (.cells #[.int .i64 a0_0, .int .i64 a0_1, .slice A0_2 l0_2.length c0_2] 26))
 have BS1 := Aside0.mk (show (w.alloc (.cells #[.int .i64 a0_0, .int .i64 a0_1, .slice A0_2 l0_2.length c0_2] 26)).heap[w.heap.size]? = some (.cells #[.int .i64 a0_0, .int .i64 a0_1, .slice A0_2 l0_2.length c0_2] 26 (0, 0)) from blk_new w _)
 have hlt1 : w.heap.size < (w.alloc (.cells #[.int .i64 a0_0, .int .i64 a0_1, .slice A0_2 l0_2.length c0_2] 26)).heap.size := by simp
 have hv : impl_IsValidStowage.f a0_0 a0_1 l0_2 = some (okSt a0_0 a0_1 l0_2) := rfl
 cases hok : okSt a0_0 a0_1 l0_2
 ·rw [hok, if_neg (by decide)] at h
  rw [hok] at hv
  injection h with h
  injection h with h1 h
  injection h with h2 h3
  subst h1 h2 h3
  have HV := Aside0.mk hv
  clear hv hok
  go_enter Try.func19, Try.ntmps19
  go_wp2_with (first | (go_at_call 17; refine (impl_IsValidStowage.calls a0_0 a0_1 A0_2 c0_2 l0_2 _ _ (Kd.C_below HR0.out HB1.out) HC0.out HV.out).mono ?_; rintro e w2 ⟨rfl, hbl⟩; have HB2 := Aside0.mk (HB1.out.trans (hbl.mono (Nat.le_of_lt hlt1))); have BS2 := Aside0.mk (blk_below (g := w.heap.size) (o := (.cells #[.int .i64 a0_0, .int .i64 a0_1, .slice A0_2 l0_2.length c0_2] 26 (0, 0))) BS1.out hbl); clear hbl; have hcz20 : w2.cell? ⟨w.heap.size, 0, none⟩ = some (.int .i64 a0_0) := (blk_cell BS2.out 0).trans rfl))
  go_ret3
  exact ⟨_, rfl, Kd.R_nil _ _ _ _ _, HB2.out⟩
 have hok5 := hok
 unfold okSt at hok5
 simp only [Bool.and_eq_true, decide_eq_true_eq, Go.Proofs.Ytipahijdcgoemaa.U.inr] at hok5
 have h7 : l0_2.length ≤ 7 := by omega
 have h5 : 1 ≤ a0_0 ∧ a0_0 ≤ 5 := by omega
 clear hok5
 rw [hok, if_pos rfl] at h
 rw [hok] at hv
 have h_ := h
 clear h
 obtain ⟨⟨tabF, planF⟩, hG, h⟩ := Option.bind_eq_some_iff.1 h_
 obtain ⟨rF, hS, h⟩ := Option.bind_eq_some_iff.1 h
 clear h_
 injection h with h
 injection h with h1 h
 injection h with h2 h3
 subst h1 h2 h3
 have HV := Aside0.mk hv
 have HG := Aside0.mk hG
 have HSb := Aside0.mk hS
 clear hv hok hG hS
 try clear h
 obtain ⟨n, hrl⟩ : ∃ n : Nat, (List.replicate a0_0.toNat ([] : List Int)).length = n := ⟨_, rfl⟩
 have hn5 : n ≤ 9223372036854775807 := by rw [← hrl, List.length_replicate]; omega
 go_enter Try.func19, Try.ntmps19
 go_wp2_with (first | (go_at_call 17; refine (impl_IsValidStowage.calls a0_0 a0_1 A0_2 c0_2 l0_2 _ _ (Kd.C_below HR0.out HB1.out) HC0.out HV.out).mono ?_; rintro e w2 ⟨rfl, hbl⟩; have HB2 := Aside0.mk (HB1.out.trans (hbl.mono (Nat.le_of_lt hlt1))); have BS2 := Aside0.mk (blk_below (g := w.heap.size) (o := (.cells #[.int .i64 a0_0, .int .i64 a0_1, .slice A0_2 l0_2.length c0_2] 26 (0, 0))) BS1.out hbl); clear hbl; have hcz20 : w2.cell? ⟨w.heap.size, 0, none⟩ = some (.int .i64 a0_0) := (blk_cell BS2.out 0).trans rfl) | ((with_reducible refine gate_dst (N := 15) rfl ?_); refine Kd.S_make (Kd.slice 3 (Kd.int .i64)) (w0 := w) w.heap.size 24 rfl (N := 15) rfl 35 _ _ rfl a0_0 rfl rfl Try.underlying35 (.slice none 0 0) 24 info24 rfl (by decide) (by omega) ([] : List Int) (ok := fun _ => True) (okp := fun _ => True) ⟨_, rfl, Kd.R_nil _ _ _ _ _⟩ (fun _ hk => hk) trivial (by omega) (by omega) (bel HB2) (below_size (bel HB2)) ?_; intro v15 w3 ht hb hg_ hnew_; clear hnew_; obtain ⟨gt, cap, e15, hgb, hgl, hgc_⟩ := Kd.S_form ht (by rw [List.length_replicate]; omega); rw [hrl] at e15; subst e15; have HT := Aside0.mk ht; have HB3 := Aside0.mk hb; have BS3 := Aside0.mk (blk_grown (g := w.heap.size) (o := (.cells #[.int .i64 a0_0, .int .i64 a0_1, .slice A0_2 l0_2.length c0_2] 26 (0, 0))) (bkl BS2) hg_ (by simp)); have HGB := Aside0.mk hgb; clear ht hb hg_ hgl hgb hgc_) | ((with_reducible refine gate_dst (N := 16) rfl ?_); refine Kd.R_lit (Kd.int .i64) (w0 := w) w.heap.size 3 ?hg (N := 16) ?hd (xs := ([] : List Int)) (inner := []) (ok := fun _ => True) (okp := fun _ => True) ?hr ?hp (fun _ hk => hk) trivial (bel HB3) (below_size (bel HB3)) (by simp) ?_; (case hd => rfl); (case hg => rfl); (case hr => first | (go_simp; done) | (go_simp; rfl)); (case hp => exact (Reps.none _ _)); intro v16 w4 ho hb hg_ hnew_; have HT4 := Aside0.mk (Kd.S_mono (Kd.S_grown (Kd.S_bound HT.out) hg_ (fun _ _ => by simp)) (ok' := fun k => True ∧ some k ≠ v16.ownBlock) (fun k hk => ⟨trivial, fun e => by obtain ⟨b, hb1, hb2⟩ := hnew_; rw [hb1] at e; injection e with e; have h3 := hk.2.2.1; omega⟩)); have HO4 := Aside0.mk ho; have HB4 := Aside0.mk hb; have BS4 := Aside0.mk (blk_grown (g := w.heap.size) (o := (.cells #[.int .i64 a0_0, .int .i64 a0_1, .slice A0_2 l0_2.length c0_2] 26 (0, 0))) (bkl BS3) hg_ (by simp)); clear ho hb hg_ hnew_; have hcz42 : w4.cell? ⟨w.heap.size, 2, none⟩ = some (.slice A0_2 l0_2.length c0_2) := (blk_cell BS4.out 2).trans rfl))
 try clear hcz20
 try clear hcz42
 have HTL0 := Aside0.mk (show (∀ row, row ∈ List.replicate a0_0.toNat ([] : List Int) → row.length ≤ 0) ∧ ∀ row, row ∈ List.replicate a0_0.toNat ([] : List Int) → ∀ x, x ∈ row → 1 ≤ x ∧ x ≤ (l0_2.length : Int) from ⟨fun row hr => by rw [List.eq_of_mem_replicate hr]; simp, fun row hr x hx => by rw [List.eq_of_mem_replicate hr] at hx; simp at hx⟩)
 clear HT HB1 BS1 HB2 BS2 HB3 BS3
 go_loopw [6, 20] (fun v6 v20 wr => ∃ (i : Nat) (tab : List (List Int)) (plan : List Int), v20 = .int .i64 (i : Int) ∧ Aside0 (i ≤ l0_2.length) ∧ Aside0 (grGo l0_2 a0_1 (l0_2.length - i) i tab plan = some (tabF, planF)) ∧ Aside0 (tab.length = n ∧ (∀ row, row ∈ tab → row.length ≤ i) ∧ ∀ row, row ∈ tab → ∀ x, x ∈ row → 1 ≤ x ∧ x ≤ (l0_2.length : Int)) ∧ Aside0 (plan.length = i) ∧ Aside0 (Kd.S (Kd.slice 3 (Kd.int .i64)) 24 wr w.heap.size (fun k => True ∧ some k ≠ v6.ownBlock) (.slice (some ⟨gt, 0, none⟩) n cap) tab) ∧ Aside0 (Kd.R (Kd.int .i64) 3 wr w.heap.size (fun _ => True) v6 plan) ∧ Aside0 (wr.heap[w.heap.size]? = some (.cells #[.int .i64 a0_0, .int .i64 a0_1, .slice A0_2 l0_2.length c0_2] 26 (0, 0))) ∧ Aside0 (Below w.heap.size w wr))
   (fun v6 v20 wr => l0_2.length - (intOf v20).toNat)
 case atStart => exact ⟨0, List.replicate a0_0.toNat [], [], rfl, ⟨Nat.zero_le _⟩, HG, ⟨hrl, HTL0.out⟩, ⟨rfl⟩, HT4, HO4, BS4, HB4⟩
 clear HT4 HO4 BS4 HB4 HG HTL0 hrl HB0 HV hlt1
 obtain ⟨i, tab, plan, rfl, HLe, HG, HTL, HPL, HT, HO, BS, HB⟩ := hrel
 by_cases hlt : i < l0_2.length
 rotate_left
 ·have hltb : decide (i < l0_2.length) = false := decide_eq_false hlt
  have hG := HG.out
  rw [show l0_2.length - i = 0 by omega] at hG
  injection hG with hG
  injection hG with h1 h2
  subst h1 h2
  have hcb0 : wr.cell? ⟨w.heap.size, 0, none⟩ = some (.int .i64 a0_0) := (blk_cell BS.out 0).trans rfl
  have hcb1 : wr.cell? ⟨w.heap.size, 1, none⟩ = some (.int .i64 a0_1) := (blk_cell BS.out 1).trans rfl
  have hcb2 : wr.cell? ⟨w.heap.size, 2, none⟩ = some (.slice A0_2 l0_2.length c0_2) := (blk_cell BS.out 2).trans rfl
  have HSh := Aside0.mk (impl_GreedyStowage.sh a0_0 a0_1 A0_2 c0_2 l0_2 (some ⟨gt, 0, none⟩) n cap tab rF wr HTL.out.1 (Kd.C_below HR0.out HB.out) HC0.out (Kd.S_reads' HT.out).2.2 (by have := (Kd.S_reads' HT.out).2.1; have := HTL.out.1; omega) HSb.out)
  clear HTL
  go_wp2_with (first | (go_at_call 33; refine HSh.out.mono ?_; rintro e w6 ⟨v0, rfl, hR, hb⟩; obtain ⟨A6, c6, rfl⟩ := Kd.R_slice hR; have n1_ := Aside0.mk (Kd.R_below HO.out hb); have n3_ := Aside0.mk (below_step (bel HB) hb); clear hR hb))
  go_ret3
  exact ⟨_, rfl, n1_.out, n3_.out⟩
 have hltb : decide (i < l0_2.length) = true := decide_eq_true hlt
 obtain ⟨ad, rfl, hcell⟩ := indexFunc.atInt HR0.out i hlt
 replace hcell := (HB.out.cell (World.block_lt_of_cell? w _ hcell)).trans hcell
 have hgo := HG.out
 rw [show l0_2.length - i = (l0_2.length - (i + 1)) + 1 by omega, grGo] at hgo
 split at hgo
 case isFalse => cases hgo
 case isTrue hat =>
 obtain ⟨t, ht⟩ : ∃ t : Nat, grAt l0_2 a0_1 (l0_2.getD i 0) tab = (t : Int) := ⟨_, (Int.toNat_of_nonneg hat.1).symm⟩
 rw [ht, Int.toNat_natCast] at hgo
 have htl : t < tab.length := by rw [ht] at hat; omega
 have htn : t < n := by rw [← HTL.out.1]; exact htl
 have htnb : decide (t < n) = true := decide_eq_true htn
 obtain ⟨row, hrow⟩ : ∃ row : List Int, row = tab.getD t [] := ⟨_, rfl⟩
 have HRow := Aside0.mk hrow
 have HGo := Aside0.mk hgo
 have HTt := Aside0.mk htl
 have HMem := Aside0.mk (show row ∈ tab by rw [hrow, Go.Proofs.Ytipahijdcgoemaa.U.getD_at _ _ _ htl]; exact List.getElem_mem htl)
 have HRL := Aside0.mk (HTL.out.2.1 row HMem.out)
 obtain ⟨row2, hr2⟩ : ∃ r : List Int, r = row ++ [(i : Int) + 1] := ⟨_, rfl⟩
 obtain ⟨tab2, ht2⟩ : ∃ r : List (List Int), r = tab.set t row2 := ⟨_, rfl⟩
 have HR2 := Aside0.mk hr2
 have HT2 := Aside0.mk ht2
 have HTL2 := Aside0.mk (show tab2.length = n ∧ (∀ row, row ∈ tab2 → row.length ≤ i + 1) ∧ ∀ row, row ∈ tab2 → ∀ x, x ∈ row → 1 ≤ x ∧ x ≤ (l0_2.length : Int) by
   have e2 : row2.length = row.length + 1 := by rw [hr2]; simp
   refine ⟨by rw [ht2, List.length_set]; exact HTL.out.1, fun r hr => ?_, fun r hr x hx => ?_⟩
   · rw [ht2] at hr
     rcases List.mem_or_eq_of_mem_set hr with hr | hr
     · have := HTL.out.2.1 r hr; omega
     · have := HRL.out; rw [hr]; omega
   · rw [ht2] at hr
     rcases List.mem_or_eq_of_mem_set hr with hr | hr
     · exact HTL.out.2.2 r hr x hx
     · rw [hr, hr2] at hx
       rcases List.mem_append.1 hx with hx | hx
       · exact HTL.out.2.2 row HMem.out x hx
       · rw [List.mem_singleton.1 hx]; omega)
 clear hgo HG hat hrow htl hr2 ht2
 unfold grAt at ht
 generalize hq : l0_2.getD i 0 = q at *
 clear hq
 by_cases h1 : idxR (grR l0_2 a0_1 q) tab 0 < 0
 rotate_left
 ·rw [if_neg h1] at ht
  have h1b : decide ((t : Int) < 0) = false := decide_eq_false (by omega)
  clear h1
  go_wp2_with (first | (go_at_call 46; have HSa := Aside0.mk (show (wr.alloc (.cells #[.int .i64 q] 3)).heap[w.heap.size]? = some (.cells #[.int .i64 a0_0, .int .i64 a0_1, .slice (some ad) l0_2.length c0_2] 26 (0, 0)) from bkl BS); have HS1 := Aside0.mk (show (wr.alloc (.cells #[.int .i64 q] 3)).cell? ⟨w.heap.size, 1, none⟩ = some (Value.int .i64 a0_1) from (blk_cell HSa.out 1).trans rfl); have HS2 := Aside0.mk (show (wr.alloc (.cells #[.int .i64 q] 3)).cell? ⟨w.heap.size, 2, none⟩ = some (Value.slice (some ad) l0_2.length c0_2) from (blk_cell HSa.out 2).trans rfl); have HQ := Aside0.mk (show (wr.alloc (.cells #[.int .i64 q] 3)).cell? ⟨wr.heap.size, 0, none⟩ = some (Value.int .i64 q) from (blk_cell (blk_new wr _) 0).trans rfl); refine (Go.Proofs.Ytipahijdcgoemaa.V.calls_len (n := n) (m := tab.length) HTL.out.1.symm (idxRows 47 #[.pointer (some ⟨w.heap.size, 0, none⟩), .pointer (some ⟨wr.heap.size, 0, none⟩)] (grR l0_2 a0_1 q) (some ⟨gt, 0, none⟩) cap tab (wr.alloc (.cells #[.int .i64 q] 3)) (Kd.S_reads' (Kd.S_alloc HT.out _)).2.2 (fun args W => enters_ Try.func47 (by kernel_rfl) rfl args W) (fun row hrow A c W hd hC hc => impl_GreedyStowage.one (some ad) c0_2 l0_2 w.heap.size wr.heap.size a0_1 q A c row W ((hd.below.cell (World.block_lt_of_cell? _ _ HS2.out)).trans HS2.out) ((hd.below.cell (World.block_lt_of_cell? _ _ HS1.out)).trans HS1.out) ((hd.below.cell (World.block_lt_of_cell? _ _ HQ.out)).trans HQ.out) (Kd.C_below (Kd.C_below HR0.out (below_alloc HB.out _)) hd.below) hC (HTL.out.2.2 row hrow)))).mono ?_; (try rw [ht]); rintro e w6 ⟨rfl, hd⟩; have n0_ := Aside0.mk (Kd.S_below (Kd.S_alloc HT.out _) hd.below); have n1_ := Aside0.mk (Kd.R_below (Kd.R_alloc HO.out _) hd.below); have n2_ := Aside0.mk (blk_below HSa.out hd.below); have n3_ := Aside0.mk (below_step (below_alloc HB.out _) hd.below); clear HT HO BS HB HSa HS1 HS2; (try clear HQ); have HT := n0_; have HO := n1_; have BS := n2_; have HB := n3_; clear n0_ n1_ n2_ n3_ hd; obtain ⟨A1, c1, oki, hcel, hR1, hoki, hst⟩ := impl_GreedyStowage.elem HT.out t HTt.out; rw [← HRow.out] at hcel hR1 hst; have HRr := Aside0.mk hR1; have HOk := Aside0.mk hoki; have HSt := Aside0.mk hst; clear hR1 hoki hst) | ((with_reducible refine gate_builtin (b := .append) (xs := #[.tmp 38, .tmp 41]) rfl ?_); at_builtin; refine Kd.R_append (Kd.int .i64) (w0 := w) w.heap.size rfl (.tmp 38) (.tmp 41) 24 3 (.int .i64 0) 8 rfl Try.underlying24 info3 rfl (by decide) (by omega) (.slice A1 row.length c1) row ((i : Int) + 1) [.int .i64 ((i : Int) + 1)] (fun k => oki k ∨ (True ∧ some k ≠ u6.ownBlock) ∧ w6.heap.size ≤ k) (fun _ => False) rfl rfl ?aP (fun _ hk => hk.elim) ?aF ?aO ?aB ?aS ?aL ?_; (case aP => exact rfl); (case aB => exact bel HB); (case aF => exact fun k hk => Or.inr ⟨⟨trivial, fun e => absurd (Kd.R_lt HO.out k e.symm) (Nat.not_lt.mpr hk)⟩, hk⟩); (case aO => exact Kd.R_mono HRr.out (fun _ hk => Or.inl hk)); (case aS => exact below_size (bel HB)); (case aL => have := HRL.out; omega); intro v42 w8 ho hb hg hat; rw [← HR2.out] at ho; obtain ⟨A8, c8, rfl⟩ := Kd.R_slice ho; obtain ⟨hcz8, hfz8, hS8⟩ := HSt.out w8 _ row2 hg ho; rw [← HT2.out] at hS8; obtain ⟨cgt, hgt_⟩ := Kd.S_typed HT.out gt (by simp [Value.ownBlock]); have hne_ := Kd.R_ne HO.out hgt_ (by decide); have hnes_ := Kd.S_ne HT.out BS.out (by decide); have hgs_ : w.heap.size ≠ gt := (fun e => hnes_ (by rw [e]; simp [Value.ownBlock])); have n0_ := Aside0.mk hS8; have n1_ := Aside0.mk (Kd.R_mono (Kd.R_far (p := ⟨gt, t, none⟩) (Kd.R_grown (Kd.R_tight rfl HO.out) hg (fun k hk e => (HOk.out k (HRr.out.1 k e.symm)).1.2 hk)) (fun k hk e => hne_ (by rw [← hk]; exact congrArg some e.symm)) (.slice A8 row2.length c8)) (ok' := fun _ => True) (fun _ _ => trivial)); have n2_ := Aside0.mk (blk_far (p := ⟨gt, t, none⟩) (blk_grown BS.out hg (Kd.R_ne HRr.out BS.out (by decide))) hgs_ (.slice A8 row2.length c8)); have n3_ := Aside0.mk (below_set hb HGB.out (j := t) (v := .slice A8 row2.length c8)); clear HT HO BS HB HRr HOk HSt; have HT := n0_; have HO := n1_; have BS := n2_; have HB := n3_; clear n0_ n1_ n2_ n3_ hne_ hnes_ hgs_ hgt_ hS8 ho hb hg hat) | ((with_reducible refine gate_builtin (b := .append) (xs := #[.tmp 44, .tmp 46]) rfl ?_); at_builtin; refine Kd.R_append (Kd.int .i64) (w0 := w) w.heap.size rfl (.tmp 44) (.tmp 46) 24 3 (.int .i64 0) 8 rfl Try.underlying24 info3 rfl (by decide) (by omega) u6 plan (t : Int) [.int .i64 (t : Int)] (fun _ => True) (fun _ => False) rfl (by show Value.slice (some ⟨w8.heap.size, 0, none⟩) 1 1 = _; simp) ?aP (fun _ hk => hk.elim) ?aF ?aO ?aB ?aS ?aL ?_; (case aP => exact rfl); (case aB => exact bel HB); (case aF => exact fun _ _ => trivial); (case aO => exact HO.out); (case aS => exact below_size (bel HB)); (case aL => have := HPL.out; omega); intro v47 w9 ho hb hg hat; have n0_ := Aside0.mk (Kd.S_after HT.out hg hat); have n2_ := Aside0.mk (blk_grown (g := w.heap.size) (o := (.cells #[.int .i64 a0_0, .int .i64 a0_1, .slice (some ad) l0_2.length c0_2] 26 (0, 0))) BS.out hg (Kd.R_ne HO.out BS.out (by decide))); have n1_ := Aside0.mk ho; have n3_ := Aside0.mk hb; clear HT HO BS HB; have HT := n0_; have HO := n1_; have BS := n2_; have HB := n3_; clear n0_ n1_ n2_ n3_ ho hb hg hat))
  go_roundw
  case rel => exact ⟨i + 1, tab2, plan ++ [(t : Int)], by go_num, ⟨hlt⟩, ⟨by rw [HT2.out, HR2.out, HRow.out]; exact HGo.out⟩, HTL2, ⟨by rw [List.length_append, HPL.out]; rfl⟩, HT, HO, BS, HB⟩
  case measure => simp [intOf]; omega
 rw [if_pos h1] at ht
 have h1b : decide (idxR (grR l0_2 a0_1 q) tab 0 < 0) = true := decide_eq_true h1
 go_wp2_with (first | (go_at_call 46; have HSa := Aside0.mk (show (wr.alloc (.cells #[.int .i64 q] 3)).heap[w.heap.size]? = some (.cells #[.int .i64 a0_0, .int .i64 a0_1, .slice (some ad) l0_2.length c0_2] 26 (0, 0)) from bkl BS); have HS1 := Aside0.mk (show (wr.alloc (.cells #[.int .i64 q] 3)).cell? ⟨w.heap.size, 1, none⟩ = some (Value.int .i64 a0_1) from (blk_cell HSa.out 1).trans rfl); have HS2 := Aside0.mk (show (wr.alloc (.cells #[.int .i64 q] 3)).cell? ⟨w.heap.size, 2, none⟩ = some (Value.slice (some ad) l0_2.length c0_2) from (blk_cell HSa.out 2).trans rfl); have HQ := Aside0.mk (show (wr.alloc (.cells #[.int .i64 q] 3)).cell? ⟨wr.heap.size, 0, none⟩ = some (Value.int .i64 q) from (blk_cell (blk_new wr _) 0).trans rfl); refine (Go.Proofs.Ytipahijdcgoemaa.V.calls_len (n := n) (m := tab.length) HTL.out.1.symm (idxRows 47 #[.pointer (some ⟨w.heap.size, 0, none⟩), .pointer (some ⟨wr.heap.size, 0, none⟩)] (grR l0_2 a0_1 q) (some ⟨gt, 0, none⟩) cap tab (wr.alloc (.cells #[.int .i64 q] 3)) (Kd.S_reads' (Kd.S_alloc HT.out _)).2.2 (fun args W => enters_ Try.func47 (by kernel_rfl) rfl args W) (fun row hrow A c W hd hC hc => impl_GreedyStowage.one (some ad) c0_2 l0_2 w.heap.size wr.heap.size a0_1 q A c row W ((hd.below.cell (World.block_lt_of_cell? _ _ HS2.out)).trans HS2.out) ((hd.below.cell (World.block_lt_of_cell? _ _ HS1.out)).trans HS1.out) ((hd.below.cell (World.block_lt_of_cell? _ _ HQ.out)).trans HQ.out) (Kd.C_below (Kd.C_below HR0.out (below_alloc HB.out _)) hd.below) hC (HTL.out.2.2 row hrow)))).mono ?_; (try rw [ht]); rintro e w6 ⟨rfl, hd⟩; have n0_ := Aside0.mk (Kd.S_below (Kd.S_alloc HT.out _) hd.below); have n1_ := Aside0.mk (Kd.R_below (Kd.R_alloc HO.out _) hd.below); have n2_ := Aside0.mk (blk_below HSa.out hd.below); have n3_ := Aside0.mk (below_step (below_alloc HB.out _) hd.below); clear HT HO BS HB HSa HS1 HS2; (try clear HQ); have HT := n0_; have HO := n1_; have BS := n2_; have HB := n3_; clear n0_ n1_ n2_ n3_ hd) | (go_at_call 46; have HSa := Aside0.mk (show (w6).heap[w.heap.size]? = some (.cells #[.int .i64 a0_0, .int .i64 a0_1, .slice (some ad) l0_2.length c0_2] 26 (0, 0)) from bkl BS); have HS1 := Aside0.mk (show (w6).cell? ⟨w.heap.size, 1, none⟩ = some (Value.int .i64 a0_1) from (blk_cell HSa.out 1).trans rfl); have HS2 := Aside0.mk (show (w6).cell? ⟨w.heap.size, 2, none⟩ = some (Value.slice (some ad) l0_2.length c0_2) from (blk_cell HSa.out 2).trans rfl); refine (Go.Proofs.Ytipahijdcgoemaa.V.calls_len (n := n) (m := tab.length) HTL.out.1.symm (idxRows 49 #[.pointer (some ⟨w.heap.size, 0, none⟩)] (grH a0_1) (some ⟨gt, 0, none⟩) cap tab (w6) (Kd.S_reads' (HT.out)).2.2 (fun args W => enters_ Try.func49 (by kernel_rfl) rfl args W) (fun row hrow A c W hd hC hc => impl_GreedyStowage.two w.heap.size a0_1 A c row W ((hd.below.cell (World.block_lt_of_cell? _ _ HS1.out)).trans HS1.out) hC.2.1))).mono ?_; rw [ht]; rintro e w7 ⟨rfl, hd⟩; have n0_ := Aside0.mk (Kd.S_below (HT.out) hd.below); have n1_ := Aside0.mk (Kd.R_below (HO.out) hd.below); have n2_ := Aside0.mk (blk_below HSa.out hd.below); have n3_ := Aside0.mk (below_step (HB.out) hd.below); clear HT HO BS HB HSa HS1 HS2; (try clear HQ); have HT := n0_; have HO := n1_; have BS := n2_; have HB := n3_; clear n0_ n1_ n2_ n3_ hd; obtain ⟨A1, c1, oki, hcel, hR1, hoki, hst⟩ := impl_GreedyStowage.elem HT.out t HTt.out; rw [← HRow.out] at hcel hR1 hst; have HRr := Aside0.mk hR1; have HOk := Aside0.mk hoki; have HSt := Aside0.mk hst; clear hR1 hoki hst) | ((with_reducible refine gate_builtin (b := .append) (xs := #[.tmp 38, .tmp 41]) rfl ?_); at_builtin; refine Kd.R_append (Kd.int .i64) (w0 := w) w.heap.size rfl (.tmp 38) (.tmp 41) 24 3 (.int .i64 0) 8 rfl Try.underlying24 info3 rfl (by decide) (by omega) (.slice A1 row.length c1) row ((i : Int) + 1) [.int .i64 ((i : Int) + 1)] (fun k => oki k ∨ (True ∧ some k ≠ u6.ownBlock) ∧ w7.heap.size ≤ k) (fun _ => False) rfl rfl ?aP (fun _ hk => hk.elim) ?aF ?aO ?aB ?aS ?aL ?_; (case aP => exact rfl); (case aB => exact bel HB); (case aF => exact fun k hk => Or.inr ⟨⟨trivial, fun e => absurd (Kd.R_lt HO.out k e.symm) (Nat.not_lt.mpr hk)⟩, hk⟩); (case aO => exact Kd.R_mono HRr.out (fun _ hk => Or.inl hk)); (case aS => exact below_size (bel HB)); (case aL => have := HRL.out; omega); intro v42 w8 ho hb hg hat; rw [← HR2.out] at ho; obtain ⟨A8, c8, rfl⟩ := Kd.R_slice ho; obtain ⟨hcz8, hfz8, hS8⟩ := HSt.out w8 _ row2 hg ho; rw [← HT2.out] at hS8; obtain ⟨cgt, hgt_⟩ := Kd.S_typed HT.out gt (by simp [Value.ownBlock]); have hne_ := Kd.R_ne HO.out hgt_ (by decide); have hnes_ := Kd.S_ne HT.out BS.out (by decide); have hgs_ : w.heap.size ≠ gt := (fun e => hnes_ (by rw [e]; simp [Value.ownBlock])); have n0_ := Aside0.mk hS8; have n1_ := Aside0.mk (Kd.R_mono (Kd.R_far (p := ⟨gt, t, none⟩) (Kd.R_grown (Kd.R_tight rfl HO.out) hg (fun k hk e => (HOk.out k (HRr.out.1 k e.symm)).1.2 hk)) (fun k hk e => hne_ (by rw [← hk]; exact congrArg some e.symm)) (.slice A8 row2.length c8)) (ok' := fun _ => True) (fun _ _ => trivial)); have n2_ := Aside0.mk (blk_far (p := ⟨gt, t, none⟩) (blk_grown BS.out hg (Kd.R_ne HRr.out BS.out (by decide))) hgs_ (.slice A8 row2.length c8)); have n3_ := Aside0.mk (below_set hb HGB.out (j := t) (v := .slice A8 row2.length c8)); clear HT HO BS HB HRr HOk HSt; have HT := n0_; have HO := n1_; have BS := n2_; have HB := n3_; clear n0_ n1_ n2_ n3_ hne_ hnes_ hgs_ hgt_ hS8 ho hb hg hat) | ((with_reducible refine gate_builtin (b := .append) (xs := #[.tmp 44, .tmp 46]) rfl ?_); at_builtin; refine Kd.R_append (Kd.int .i64) (w0 := w) w.heap.size rfl (.tmp 44) (.tmp 46) 24 3 (.int .i64 0) 8 rfl Try.underlying24 info3 rfl (by decide) (by omega) u6 plan (t : Int) [.int .i64 (t : Int)] (fun _ => True) (fun _ => False) rfl (by show Value.slice (some ⟨w8.heap.size, 0, none⟩) 1 1 = _; simp) ?aP (fun _ hk => hk.elim) ?aF ?aO ?aB ?aS ?aL ?_; (case aP => exact rfl); (case aB => exact bel HB); (case aF => exact fun _ _ => trivial); (case aO => exact HO.out); (case aS => exact below_size (bel HB)); (case aL => have := HPL.out; omega); intro v47 w9 ho hb hg hat; have n0_ := Aside0.mk (Kd.S_after HT.out hg hat); have n2_ := Aside0.mk (blk_grown (g := w.heap.size) (o := (.cells #[.int .i64 a0_0, .int .i64 a0_1, .slice (some ad) l0_2.length c0_2] 26 (0, 0))) BS.out hg (Kd.R_ne HO.out BS.out (by decide))); have n1_ := Aside0.mk ho; have n3_ := Aside0.mk hb; clear HT HO BS HB; have HT := n0_; have HO := n1_; have BS := n2_; have HB := n3_; clear n0_ n1_ n2_ n3_ ho hb hg hat))
 go_roundw
 case rel => exact ⟨i + 1, tab2, plan ++ [(t : Int)], by go_num, ⟨hlt⟩, ⟨by rw [HT2.out, HR2.out, HRow.out]; exact HGo.out⟩, HTL2, ⟨by rw [List.length_append, HPL.out]; rfl⟩, HT, HO, BS, HB⟩
 case measure => simp [intOf]; omega
end Go.Proofs.Ytipahijdcgoemaa.P
