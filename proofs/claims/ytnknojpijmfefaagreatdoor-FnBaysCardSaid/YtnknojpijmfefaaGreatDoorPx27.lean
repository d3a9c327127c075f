-- Written by a program of this session over the translation (a variant of the printer, see wip/gen); Lean checks it.
import Derived.Test.YtnknojpijmfefaaGreatDoorPx0
import Derived.Test.YtnknojpijmfefaaGreatDoorPx6
import Derived.Test.YtnknojpijmfefaaGreatDoorPx15
import Derived.Test.YtnknojpijmfefaaGreatDoorPx20
import Derived.Test.YtnknojpijmfefaaGreatDoorPx21
import Derived.Test.YtnknojpijmfefaaGreatDoorPx25
import Derived.Test.YtnknojpijmfefaaGreatDoorPx26
import Derived.Test.YtnknojpijmfefaaGreatDoorU
import Derived.Test.YtnknojpijmfefaaGreatDoorPbCom
namespace Go.Proofs.YtnknojpijmfefaaGreatDoor.P
open Go.RowKit Go.Proofs.YtnknojpijmfefaaGreatDoorW.PrintWords Go.Proofs.YtnknojpijmfefaaGreatDoorW.PrintLast Go.Proofs.YtnknojpijmfefaaGreatDoorW.PrintMore
attribute [local go_sem] Go.Proofs.YtnknojpijmfefaaGreatDoor.V.isSome_setCell max2_int min2_int max_two min_two max_three min_three max_four min_four
set_option linter.unusedVariables false
set_option linter.unusedSimpArgs false
/-! ### impl_ParseBay: function 14 -/
/-- The numbers of a line, put on their rows from row i on. -/
def pbAdd : List ByteArray → Nat → List (List Int) → Option (List (List Int))
  | [], _, t => some t
  | p :: ps, i, t => if p.data.toList = [46, 46] then pbAdd ps (i + 1) t else (strings_TrimPrefix.f p ⟨#[48]⟩).bind fun q => (impl_ParseInt.f q).bind fun n => if (t.getD i []).length ≤ 1000 then pbAdd ps (i + 1) (t.set i (t.getD i [] ++ [n.1])) else none
theorem pbAdd_len : ∀ (ps : List ByteArray) (i : Nat) (t t2 : List (List Int)), pbAdd ps i t = some t2 → t2.length = t.length
  | [], i, t, t2, h => by rw [← Option.some.inj h]
  | p :: ps, i, t, t2, h => by
    rw [pbAdd] at h
    split at h
    · exact pbAdd_len ps (i + 1) t t2 h
    · obtain ⟨q, _, h⟩ := Option.bind_eq_some_iff.1 h
      obtain ⟨n, _, h⟩ := Option.bind_eq_some_iff.1 h
      split at h
      · exact (pbAdd_len ps (i + 1) _ t2 h).trans (List.length_set ..)
      · cases h
/-- The lines, from the last one on. -/
def pbRows : List ByteArray → List (List Int) → Option (Option (List (List Int)))
  | [], t => some (some t)
  | l :: ls, t => if l.size ≤ 1048576 then (if (wordsB l 32).length = t.length then (pbAdd (wordsB l 32) 0 t).bind fun t2 => pbRows ls t2 else some none) else none
def pbFin (k : Nat) (s : ByteArray) (H : Int) : Option (List (List Int)) → Option (Int × List (List Int) × Bool)
  | none => some (0, [], false)
  | some t => (impl_IsValidBay.f H t).bind fun v => if v = true then (impl_bayText.f k H t).bind fun u => if u = s then some (H, t, true) else some (0, [], false) else some (0, [], false)
def impl_ParseBay.g (k : Nat) (s : ByteArray) (ls : List ByteArray) : Option (Int × List (List Int) × Bool) :=
  if (ls.getD 0 ⟨#[]⟩).size ≤ 1048576 then (pbRows ls.reverse (List.replicate (wordsB (ls.getD 0 ⟨#[]⟩) 32).length [])).bind (pbFin k s (ls.length : Int)) else none
def impl_ParseBay.f (k : Nat) (s : ByteArray) : Option (Int × List (List Int) × Bool) :=
  if s.size ≤ 1048576 then (if (linesF s).2 = false ∨ (linesF s).1.length = 0 ∨ 4 < (linesF s).1.length then some (0, [], false) else impl_ParseBay.g k s (linesF s).1) else none
theorem pbFin_mono (k : Nat) (s : ByteArray) (H : Int) : ∀ o, LeO (pbFin k s H o) (pbFin (k + 1) s H o)
  | none => LeO.refl _
  | some t => by
    unfold pbFin
    exact LeO.bind (LeO.refl _) fun v => LeO.ite (LeO.bind (impl_bayText.mono _ _ _) fun u => LeO.refl _) (LeO.refl _)
theorem impl_ParseBay.mono : ∀ a0 k, LeO (impl_ParseBay.f k a0) (impl_ParseBay.f (k + 1) a0) := fun a0 k => LeO.ite (LeO.ite (LeO.refl _) (LeO.ite (LeO.bind (LeO.refl _) fun o => pbFin_mono k a0 _ o) (LeO.refl _))) (LeO.refl _)
def impl_ParseBay.T20 : Bool × List (List Nat × List Nat) := (true, [([], []), ([0], [0]), ([], []), ([], []), ([3], [3]), ([], []), ([4, 5], [4, 5]), ([6], [6]), ([], []), ([8], [8]), ([7, 9], [7, 9]), ([1, 2, 0, 1, 2, 3, 4, 5, 6, 7, 8, 9, 10], [1, 2]), ([11, 10, 10, 0, 1, 2, 3, 4, 5, 6, 7, 8, 9, 10], [10, 11])])
def impl_ParseBay.B20 : List Nat := [0, 1, 0, 0, 8, 0, 56, 120, 0, 256, 1016, 2047, 4095]
theorem impl_ParseBay.tab20 : rtab .any (opsOf Tryz.f14 20) = impl_ParseBay.T20 := by kernel_rfl
theorem impl_ParseBay.bits20 : waitsOk impl_ParseBay.T20.2 impl_ParseBay.B20 = true := by kernel_rfl
theorem impl_ParseBay.valid (a0_0 : Int) (A : Option Addr) (n c : Nat) (tab : List (List Int)) (r : Bool) (w : World) (hn : tab.length = n) (h0 : Kd.C (Kd.slice 3 (Kd.int .i64)) w A tab.length tab) (hc : tab.length ≤ c) (h : impl_IsValidBay.f a0_0 tab = some r) :
    Calls Tryz.prog 9 #[.agg #[.int .i64 a0_0, .slice A n c]] w fun e w' => e = .returned (.bool r) ∧ Below w.heap.size w w' := by
 subst hn
 exact impl_IsValidBay.calls a0_0 A c tab r w h0 hc h
theorem impl_ParseBay.text (k : Nat) (a0_0 : Int) (A : Option Addr) (n c : Nat) (tab : List (List Int)) (r : ByteArray) (w : World) (hn : tab.length = n) (h0 : Kd.C (Kd.slice 3 (Kd.int .i64)) w A tab.length tab) (hc : tab.length ≤ c) (h : impl_bayText.f k a0_0 tab = some r) :
    Calls Tryz.prog 28 #[.agg #[.int .i64 a0_0, .slice A n c]] w fun e w' => e = .returned (.string r) ∧ Below w.heap.size w w' := by
 subst hn
 exact impl_bayText.calls k a0_0 A c tab r w h0 hc h
set_option maxHeartbeats 8000000 in
set_option maxRecDepth 100000 in
/-- THE CALL -/
theorem impl_ParseBay.calls (k : Nat) (a0 : ByteArray) (r1 : Int) (r2 : List (List Int)) (r3 : Bool) (w : World) (h : impl_ParseBay.f k a0 = some (r1, r2, r3)) (hG : GGlob w) :
    Calls Tryz.prog 14 #[.string a0] w fun e w' => ∃ v1_ : Value, e = .returned (.tuple #[.agg #[.int .i64 r1, v1_], .bool r3]) ∧ Kd.S (Kd.slice 3 (Kd.int .i64)) 48 w' w.heap.size (fun _ => True) v1_ r2 ∧ Below w.heap.size w w' := by
 have hub := Tryz.underlying26
 unfold impl_ParseBay.f at h
 split at h
 case isFalse => cases h
 case isTrue hs =>
 have HLc := Aside0.mk (fun W (hb : Below w.heap.size w W) => impl_linesOf.calls a0 W hs (hG.below (Nat.le_refl _) hb))
 obtain ⟨ls, hls⟩ : ∃ l, l = (linesF a0).1 := ⟨_, rfl⟩
 obtain ⟨ok, hok⟩ : ∃ b, b = (linesF a0).2 := ⟨_, rfl⟩
 rw [← hls, ← hok] at h HLc
 have HG := Aside0.mk hG
 have HH := Aside0.mk h
 have HS := Aside0.mk hs
 clear hls hok hG h hs
 go_enter Tryz.func14, Tryz.ntmps14
 go_upto_region 2 with (first | ((with_reducible refine gate_dst (N := 2) rfl ?_); refine box_event ?hg (N := 2) ?hd (cs := #[.int .i64 0, .slice none 0 0]) (t := 26) ?hr ?_; (case hd => rfl); (case hg => rfl); (case hr => first | (go_simp; done) | (go_simp; rfl)); intro gr hgr w1 hbox hb; have BR1 := Aside0.mk hbox; have GR1 := Aside0.mk hgr; have HB1 := Aside0.mk hb; clear hbox hgr hb) | (go_at_call 29; refine (HLc.out _ HB1.out).mono ?_; rintro e w2 ⟨vl, rfl, hL, hb⟩; have HL2 := Aside0.mk (show Kd.R Kd.string 9 w2 w.heap.size (fun _ => True) vl ls from Kd.R_lower hL HB1.out.size); have BR2 := Aside0.mk (blk_below BR1.out hb); have HB2 := Aside0.mk (below_step HB1.out hb); clear hL hb HB1 BR1))
 obtain ⟨A, c, e⟩ := Kd.R_slice HL2.out
 subst e
 obtain ⟨ln, hln⟩ : ∃ n : Nat, ls.length = n := ⟨_, rfl⟩
 rw [hln] at HL2 HH ⊢
 have HLn := Aside0.mk hln
 clear HLc hln
 have hh := HH.out
 cases ok with
 | false =>
  rw [if_pos (Or.inl rfl)] at hh
  injection hh with hh
  injection hh with e1 e2
  injection e2 with e2 e3
  subst e1 e2 e3
  have hz0 : w2.cell? ⟨gr, 0, none⟩ = some (.int .i64 0) := (blk_cell BR2.out 0).trans rfl
  have hz1 : w2.cell? ⟨gr, 1, none⟩ = some (.slice none 0 0) := (blk_cell BR2.out 1).trans rfl
  have hf0 := blk_frozen BR2.out 0
  have hf1 := blk_frozen BR2.out 1
  go_wp2
  refine bodyPost_ret (results_ct rfl _ _ gr 26 #[.int .i64 0, .slice none 0 0] (0, 0) _ rfl (by refine blk_put (cs := #[.int .i64 0, .slice none 0 0]) ?_ 1 _ rfl; refine blk_put (cs := #[.int .i64 0, .slice none 0 0]) ?_ 0 _ rfl; exact BR2.out) hub rfl (by kernel_rfl)) rfl ?_
  exact ⟨_, rfl, Kd.S_nil _ _ _ _ _, (HB2.out.setCell (p := ⟨gr, 0, none⟩) (by rw [GR1.out]; exact Nat.le_refl _) _).setCell (p := ⟨gr, 1, none⟩) (by rw [GR1.out]; exact Nat.le_refl _) _⟩
 | true =>
 by_cases hl0 : ln = 0
 ·rw [if_pos (Or.inr (Or.inl hl0))] at hh
  injection hh with hh
  injection hh with e1 e2
  injection e2 with e2 e3
  subst e1 e2 e3
  have q1 : ((ln : Int) == 0) = true := beq_iff_eq.mpr (by omega)
  have q2 : decide ((ln : Int) = 0) = true := decide_eq_true (by omega)
  have q3 : decide (ln = 0) = true := decide_eq_true hl0
  have hz0 : w2.cell? ⟨gr, 0, none⟩ = some (.int .i64 0) := (blk_cell BR2.out 0).trans rfl
  have hz1 : w2.cell? ⟨gr, 1, none⟩ = some (.slice none 0 0) := (blk_cell BR2.out 1).trans rfl
  have hf0 := blk_frozen BR2.out 0
  have hf1 := blk_frozen BR2.out 1
  go_wp2
  refine bodyPost_ret (results_ct rfl _ _ gr 26 #[.int .i64 0, .slice none 0 0] (0, 0) _ rfl (by refine blk_put (cs := #[.int .i64 0, .slice none 0 0]) ?_ 1 _ rfl; refine blk_put (cs := #[.int .i64 0, .slice none 0 0]) ?_ 0 _ rfl; exact BR2.out) hub rfl (by kernel_rfl)) rfl ?_
  exact ⟨_, rfl, Kd.S_nil _ _ _ _ _, (HB2.out.setCell (p := ⟨gr, 0, none⟩) (by rw [GR1.out]; exact Nat.le_refl _) _).setCell (p := ⟨gr, 1, none⟩) (by rw [GR1.out]; exact Nat.le_refl _) _⟩
 have q1 : ((ln : Int) == 0) = false := beq_eq_false_iff_ne.mpr (by omega)
 have q2 : decide ((ln : Int) = 0) = false := decide_eq_false (by omega)
 have q3 : decide (ln = 0) = false := decide_eq_false hl0
 by_cases hl4 : 4 < ln
 ·rw [if_pos (Or.inr (Or.inr hl4))] at hh
  injection hh with hh
  injection hh with e1 e2
  injection e2 with e2 e3
  subst e1 e2 e3
  have q4 : decide ((4 : Int) < (ln : Int)) = true := decide_eq_true (by omega)
  have q5 : decide (4 < ln) = true := decide_eq_true hl4
  have hz0 : w2.cell? ⟨gr, 0, none⟩ = some (.int .i64 0) := (blk_cell BR2.out 0).trans rfl
  have hz1 : w2.cell? ⟨gr, 1, none⟩ = some (.slice none 0 0) := (blk_cell BR2.out 1).trans rfl
  have hf0 := blk_frozen BR2.out 0
  have hf1 := blk_frozen BR2.out 1
  go_wp2
  refine bodyPost_ret (results_ct rfl _ _ gr 26 #[.int .i64 0, .slice none 0 0] (0, 0) _ rfl (by refine blk_put (cs := #[.int .i64 0, .slice none 0 0]) ?_ 1 _ rfl; refine blk_put (cs := #[.int .i64 0, .slice none 0 0]) ?_ 0 _ rfl; exact BR2.out) hub rfl (by kernel_rfl)) rfl ?_
  exact ⟨_, rfl, Kd.S_nil _ _ _ _ _, (HB2.out.setCell (p := ⟨gr, 0, none⟩) (by rw [GR1.out]; exact Nat.le_refl _) _).setCell (p := ⟨gr, 1, none⟩) (by rw [GR1.out]; exact Nat.le_refl _) _⟩
 have q4 : decide ((4 : Int) < (ln : Int)) = false := decide_eq_false (by omega)
 have q5 : decide (4 < ln) = false := decide_eq_false hl4
 rw [if_neg (by rintro (h | h | h); cases h; exact hl0 h; exact hl4 h)] at hh
 unfold impl_ParseBay.g at hh
 split at hh
 case isFalse => cases hh
 case isTrue hs0 =>
 rw [HLn.out] at hh
 have HH2 := Aside0.mk hh
 have HS0 := Aside0.mk hs0
 clear hh hs0 HH
 have hl0p : 0 < ln := by omega
 obtain ⟨x0, hx0e⟩ : ∃ x, x = ls.getD 0 (⟨#[]⟩ : ByteArray) := ⟨_, rfl⟩
 obtain ⟨gl, _, eA, _⟩ := Kd.R_form HL2.out (by rw [HLn.out]; exact hl0p)
 injection eA with eA h1 h2
 subst eA
 clear h1 h2
 obtain ⟨ad, eA, hx0⟩ := Kd.at_string (by have h1 := (Kd.R_reads' HL2.out).2.2; rw [HLn.out] at h1; exact h1) 0 (by omega) (by omega)
 injection eA with eA
 subst eA
 replace hx0 : w2.cell? ⟨gl, 0, none⟩ = some (.string x0) := by rw [hx0e]; exact hx0
 have hx1 : (w2.alloc (.cells #[.int .i64 (ln : Int), .slice none 0 0] 26)).cell? ⟨gl, 0, none⟩ = some (.string x0) := ((below_alloc (Below.refl w2.heap.size w2) _).cell (World.block_lt_of_cell? _ _ hx0)).trans hx0
 rw [← hx0e] at HH2 HS0
 obtain ⟨n0, hn0⟩ : ∃ n : Nat, (wordsB x0 32).length = n := ⟨_, rfl⟩
 have HN0 := Aside0.mk hn0
 have hn0p : 0 < n0 := by have := wordsB_len x0 32; omega
 have hn0l : n0 ≤ 1048577 := by have := wordsB_le x0 32; have := HS0.out; omega
 rw [hn0] at HH2
 obtain ⟨gb, hgb⟩ : ∃ g, g = w2.heap.size := ⟨_, rfl⟩
 have HP3 := Aside0.mk (show PbT w gr gb (ln : Int) (.slice none 0 0) [] (w2.alloc (.cells #[.int .i64 (ln : Int), .slice none 0 0] 26)) from ⟨Kd.S_nil _ _ _ _ _, by rw [hgb]; exact blk_new _ _, blk_alloc BR2.out _, ⟨by rw [GR1.out]; exact Nat.le_refl _, by rw [hgb]; exact HB2.out.size, by rw [hgb]; exact Nat.ne_of_lt (blk_lt BR2.out)⟩, below_alloc HB2.out _⟩)
 have HL3 := Aside0.mk (Kd.R_alloc HL2.out (.cells #[.int .i64 (ln : Int), .slice none 0 0] 26))
 clear hn0 hx0e HL2
 go_wp2_with (first | (go_at_call 30; refine (strings_Split.calls x0 32 _ HS0.out (HG.out.below (Nat.le_refl _) HP3.out.2.2.2.2)).mono ?_; rintro e w4 ⟨rfl, _, hb⟩; have HP4 := Aside0.mk (HP3.out.below hb); have HL4 := Aside0.mk (Kd.R_below HL3.out hb); rw [HN0.out]; clear hb HP3 HL3))
 (try rw [← hgb])
 clear hx0 hx1 q1 q2 q3 q4 q5 BR2 HB2 hgb
 go_loopw [39] (fun v39 wr => ∃ (i : Nat) (v : Value) (tab : List (List Int)), v39 = .int .i64 (i : Int) ∧ Aside0 (i ≤ n0) ∧ Aside0 (tab = List.replicate i [] ∧ tab.length = i) ∧ Aside0 (PbT w gr gb (ln : Int) v tab wr) ∧ Aside0 (Kd.R Kd.string 9 wr w.heap.size (fun _ => True) (.slice (some ⟨gl, 0, none⟩) ln c) ls)) (fun v39 wr => n0 - (intOf v39).toNat)
 case atStart => exact ⟨0, _, [], rfl, ⟨Nat.zero_le _⟩, ⟨rfl, rfl⟩, HP4, HL4⟩
 clear HP4 HL4
 obtain ⟨i, v, tab, rfl, HLe, HTab, HP, HL⟩ := hrel
 have htl := HTab.out.2
 obtain ⟨Av, cv, ev⟩ := Kd.S_slice HP.out.1
 rw [htl] at ev
 subst ev
 clear htl
 have hbx := HP.out.box.2
 by_cases hlt : i < n0
 ·have hltb : decide (i < n0) = true := decide_eq_true hlt
  have hlti : (i : Int) < (n0 : Int) := by omega
  obtain ⟨tab2, ht2⟩ : ∃ t, t = tab ++ [[]] := ⟨_, rfl⟩
  have HT2 := Aside0.mk ht2
  clear ht2
  go_wp2_with (first | ((with_reducible refine gate_builtin (b := .append) (xs := #[.tmp 42, .tmp 43]) rfl ?_); at_builtin; refine Kd.S_append (Kd.slice 3 (Kd.int .i64)) (w0 := w) w.heap.size rfl (.tmp 42) (.tmp 43) 24 48 (.slice none 0 0) 24 rfl Tryz.underlying24 pb_info rfl (by decide) (by omega) (.slice Av i cv) tab [] [.slice none 0 0] (fun _ => True) (fun _ => False) rfl (by first | (go_simp; done) | (go_simp; rfl)) ?aP (fun _ hk => hk.elim) (fun _ _ => trivial) ?aO ?aB ?aS ?aL ?_; (case aP => exact Kd.M_row (Kd.R_nil _ _ _ _ _)); (case aB => exact HP.out.2.2.2.2); (case aO => exact Kd.S_mono HP.out.1 (fun _ _ => ⟨trivial, id⟩)); (case aS => exact below_size HP.out.2.2.2.2); (case aL => have := HTab.out.2; omega); intro v44 w5 ho hb hg hat; rw [← HT2.out] at ho; obtain ⟨A1, c1, e1⟩ := Kd.S_slice ho; subst e1; have HP5 := Aside0.mk (HP.out.put ho hb hg); have HL5 := Aside0.mk (HP.out.putR HL.out hg (v1 := .slice A1 tab2.length c1)); have hz5 : w5.cell? ⟨gb, 1, none⟩ = some (.slice Av i cv) := (blk_cell (blk_grown HP.out.2.1 hg (Kd.S_ne HP.out.1 HP.out.2.1 (by decide))) 1).trans rfl; have hf5 := blk_frozen (blk_grown HP.out.2.1 hg (Kd.S_ne HP.out.1 HP.out.2.1 (by decide))) 1; clear ho hb hg hat hbx))
  go_roundw
  case rel => exact ⟨i + 1, _, tab2, by go_num, ⟨hlt⟩, ⟨by rw [HT2.out, HTab.out.1, ← List.replicate_succ'], by rw [HT2.out, List.length_append, HTab.out.2]; rfl⟩, HP5, HL5⟩
  case measure => simp [intOf]; omega
 have hltb : decide (i < n0) = false := decide_eq_false hlt
 obtain rfl : n0 = i := by have := HLe.out; omega
 obtain ⟨gt, _, ev, _⟩ := Kd.S_form HP.out.1 (by have := HTab.out.2; omega)
 injection ev with ev h1 h2
 subst ev
 clear h1 h2
 have hh := HH2.out
 rw [← HTab.out.1] at hh
 have HG3 := Aside0.mk (show (pbRows (ls.take ln).reverse tab).bind (pbFin k a0 (ln : Int)) = some (r1, r2, r3) by rw [← HLn.out, List.take_length]; rw [HLn.out]; exact hh)
 have HTl := Aside0.mk HTab.out.2
 clear hh HH2 HTab HN0 hbx
 obtain ⟨wo, rfl⟩ : ∃ wo : World, wo = wr := ⟨_, rfl⟩
 go_wp2
 go_loopw [7] (fun v7 wr => ∃ (j : Nat) (z : Int) (tab : List (List Int)), v7 = .int .i64 z ∧ Aside0 (z = (j : Int) - 1) ∧ Aside0 (j ≤ ln) ∧ Aside0 (tab.length = n0) ∧ Aside0 ((pbRows (ls.take j).reverse tab).bind (pbFin k a0 (ln : Int)) = some (r1, r2, r3)) ∧ Aside0 (PbT w gr gb (ln : Int) (.slice (some ⟨gt, 0, none⟩) n0 cv) tab wr) ∧ Aside0 (Kd.R Kd.string 9 wr w.heap.size (fun _ => True) (.slice (some ⟨gl, 0, none⟩) ln c) ls)) (fun v7 wr => (intOf v7 + 1).toNat)
 case atStart => exact ⟨ln, _, tab, rfl, ⟨by omega⟩, ⟨Nat.le_refl _⟩, HTl, HG3, HP, HL⟩
 clear HP HL HG3 HTl
 obtain ⟨j, z, tab, rfl, HZ, HJ, HTl, HG3, HP, HL⟩ := hrel
 cases j with
 | succ q =>
  obtain rfl : z = (q : Int) := by have := HZ.out; omega
  have hq : q < ln := by have := HJ.out; omega
  have hqb : decide (q < ln) = true := decide_eq_true hq
  have hqi : (q : Int) < (ln : Int) := by omega
  have hq0 : decide ((0 : Int) ≤ (q : Int)) = true := decide_eq_true (by omega)
  have hg := HG3.out
  rw [show (ls.take (q + 1)).reverse = ls.getD q (⟨#[]⟩ : ByteArray) :: (ls.take q).reverse by rw [List.take_succ_eq_append_getElem (by rw [HLn.out]; exact hq), List.reverse_append, Go.Proofs.YtnknojpijmfefaaGreatDoor.U.getD_at _ _ _ (by rw [HLn.out]; exact hq)]; rfl, pbRows] at hg
  obtain ⟨x, hxe⟩ : ∃ x, x = ls.getD q (⟨#[]⟩ : ByteArray) := ⟨_, rfl⟩
  obtain ⟨ad, eA, hx0⟩ := Kd.at_string (by have h1 := (Kd.R_reads' HL.out).2.2; rw [HLn.out] at h1; exact h1) (q : Int) (by omega) (by omega)
  injection eA with eA
  subst eA
  rw [Int.toNat_natCast, show (⟨gl, 0, none⟩ : Addr).add q = ⟨gl, q, none⟩ by unfold Addr.add; split <;> simp_all] at hx0
  replace hx0 : wr.cell? ⟨gl, q, none⟩ = some (.string x) := by rw [hxe]; exact hx0
  rw [← hxe] at hg
  clear hxe HG3
  split at hg
  case isFalse => cases hg
  case isTrue hxs =>
  have HXs := Aside0.mk hxs
  have HGa := Aside0.mk hg
  clear hg hxs
  obtain ⟨ps, hps⟩ : ∃ p, p = wordsB x 32 := ⟨_, rfl⟩
  obtain ⟨np, hnp⟩ : ∃ n : Nat, ps.length = n := ⟨_, rfl⟩
  have hnpl : np ≤ 1048577 := by have := wordsB_le x 32; rw [← hps] at this; have := HXs.out; omega
  rw [← hps] at HGa
  rw [HTl.out] at HGa
  have HSp := Aside0.mk (fun W (hb : Below w.heap.size w W) => strings_Split.calls x 32 W HXs.out (HG.out.below (Nat.le_refl _) hb))
  rw [← hps, hnp] at HSp
  rw [hnp] at HGa
  have HNp := Aside0.mk hnp
  clear hps hnp HXs
  go_upto_region 13 with (first | (go_at_call 30; refine (HSp.out _ HP.out.2.2.2.2).mono ?_; rintro e w4 ⟨rfl, hQ, hb⟩; have HP4 := Aside0.mk (HP.out.below hb); have HL4 := Aside0.mk (Kd.R_below HL.out hb); have HQ4 := Aside0.mk (show Kd.R Kd.string 9 w4 w.heap.size (fun _ => True) (.slice (some ⟨wr.heap.size, 0, none⟩) np np) ps from Kd.R_lower hQ (below_size HP.out.2.2.2.2)); clear hb hQ HP HL HSp))
  generalize wr.heap.size = gp at HQ4 ⊢
  have hbx4 := HP4.out.box.2
  clear hx0
  by_cases hne : np = n0
  case neg =>
   have hg := HGa.out
   rw [if_neg hne] at hg
   injection hg with hg
   injection hg with e1 e2
   injection e2 with e2 e3
   subst e1 e2 e3
   have p1 : ((np : Int) != (n0 : Int)) = true := bne_iff_ne.mpr (by omega)
   have p2 : (np != n0) = true := bne_iff_ne.mpr hne
   have p3 : decide ((np : Int) = (n0 : Int)) = false := decide_eq_false (by omega)
   have p4 : decide (np = n0) = false := decide_eq_false hne
   have hz0 : w4.cell? ⟨gr, 0, none⟩ = some (.int .i64 0) := (blk_cell HP4.out.2.2.1 0).trans rfl
   have hz1 : w4.cell? ⟨gr, 1, none⟩ = some (.slice none 0 0) := (blk_cell HP4.out.2.2.1 1).trans rfl
   have hf0 := blk_frozen HP4.out.2.2.1 0
   have hf1 := blk_frozen HP4.out.2.2.1 1
   go_wp2
   refine bodyPost_ret (results_ct rfl _ _ gr 26 #[.int .i64 0, .slice none 0 0] (0, 0) _ rfl (by refine blk_put (cs := #[.int .i64 0, .slice none 0 0]) ?_ 1 _ rfl; refine blk_put (cs := #[.int .i64 0, .slice none 0 0]) ?_ 0 _ rfl; exact HP4.out.2.2.1) hub rfl (by kernel_rfl)) rfl ?_
   exact ⟨_, rfl, Kd.S_nil _ _ _ _ _, (HP4.out.2.2.2.2.setCell (p := ⟨gr, 0, none⟩) (by rw [GR1.out]; exact Nat.le_refl _) _).setCell (p := ⟨gr, 1, none⟩) (by rw [GR1.out]; exact Nat.le_refl _) _⟩
  obtain rfl : n0 = np := hne.symm
  have p1 : ((n0 : Int) != (n0 : Int)) = false := by simp
  have p2 : (n0 != n0) = false := by simp
  have hg := HGa.out
  rw [if_pos rfl] at hg
  have HGb := Aside0.mk hg
  clear hg HGa hne
  go_wp2
  clear p1 p2 hbx4
  obtain ⟨wo, rfl⟩ : ∃ wo : World, wo = wr := ⟨_, rfl⟩
  have HCs := Aside0.mk (show ((pbAdd (ps.drop 0) 0 tab).bind fun t2 => pbRows (ls.take q).reverse t2).bind (pbFin k a0 (ln : Int)) = some (r1, r2, r3) by rw [List.drop_zero]; exact HGb.out)
  clear HGb
  go_loopw [68] (fun v68 wr => ∃ (i : Nat) (tab : List (List Int)), v68 = .int .i64 (i : Int) ∧ Aside0 (i ≤ n0) ∧ Aside0 (((pbAdd (ps.drop i) i tab).bind fun t2 => pbRows (ls.take q).reverse t2).bind (pbFin k a0 (ln : Int)) = some (r1, r2, r3)) ∧ Aside0 (tab.length = n0) ∧ Aside0 (PbT w gr gb (ln : Int) (.slice (some ⟨gt, 0, none⟩) n0 cv) tab wr) ∧ Aside0 (Kd.R Kd.string 9 wr w.heap.size (fun _ => True) (.slice (some ⟨gl, 0, none⟩) ln c) ls) ∧ Aside0 (Kd.R Kd.string 9 wr w.heap.size (fun _ => True) (.slice (some ⟨gp, 0, none⟩) n0 n0) ps)) (fun v68 wr => n0 - (intOf v68).toNat)
  case atStart => exact ⟨0, tab, rfl, ⟨Nat.zero_le _⟩, HCs, HTl, HP4, HL4, HQ4⟩
  clear HP4 HL4 HQ4 HCs HTl
  obtain ⟨i, tab, rfl, HLe2, HCs, HTl, HP, HL, HQ⟩ := hrel
  by_cases hit : i < n0
  rotate_left
  ·have hitb : decide (i < n0) = false := decide_eq_false hit
   have hcs := HCs.out
   rw [List.drop_of_length_le (by rw [HNp.out]; omega), pbAdd] at hcs
   have HC2 := Aside0.mk (show (pbRows (ls.take q).reverse tab).bind (pbFin k a0 (ln : Int)) = some (r1, r2, r3) from hcs)
   clear hcs HCs
   go_wp2
   go_roundw
   case rel => exact ⟨q, (q : Int) - 1, tab, by first | rfl | go_num, ⟨rfl⟩, ⟨by omega⟩, HTl, HC2, HP, HL⟩
   case measure => first | (simp [intOf]; done) | (simp [intOf]; omega)
  have hitb : decide (i < n0) = true := decide_eq_true hit
  have hiti : (i : Int) < (n0 : Int) := by omega
  have hcs := HCs.out
  obtain ⟨p, hpe⟩ : ∃ p, p = ps.getD i (⟨#[]⟩ : ByteArray) := ⟨_, rfl⟩
  rw [show ps.drop i = p :: ps.drop (i + 1) by rw [hpe, Go.Proofs.YtnknojpijmfefaaGreatDoor.U.getD_at _ _ _ (by rw [HNp.out]; exact hit), List.drop_eq_getElem_cons (by rw [HNp.out]; exact hit)], pbAdd] at hcs
  obtain ⟨ad, eA, hx0⟩ := Kd.at_string (by have h1 := (Kd.R_reads' HQ.out).2.2; rw [HNp.out] at h1; exact h1) (i : Int) (by omega) (by omega)
  injection eA with eA
  subst eA
  rw [Int.toNat_natCast, show (⟨gp, 0, none⟩ : Addr).add i = ⟨gp, i, none⟩ by unfold Addr.add; split <;> simp_all] at hx0
  replace hx0 : wr.cell? ⟨gp, i, none⟩ = some (.string p) := by rw [hpe]; exact hx0
  clear hpe HCs
  by_cases hdot : p.data.toList = [46, 46]
  ·rw [if_pos hdot] at hcs
   have HC2 := Aside0.mk hcs
   have d1 : p.toList = [46, 46] := by rw [str_empty]; exact hdot
   have d2 : (p.toList == [46, 46]) = true := by rw [d1]; rfl
   have d3 : decide (p.toList = [46, 46]) = true := decide_eq_true d1
   clear hcs hdot
   go_wp2
   go_roundw
   case rel => exact ⟨i + 1, tab, by go_num, ⟨hit⟩, HC2, HTl, HP, HL, HQ⟩
   case measure => simp [intOf]; omega
  rw [if_neg hdot] at hcs
  have d1 : ¬ p.toList = [46, 46] := by rw [str_empty]; exact hdot
  have d2 : (p.toList == [46, 46]) = false := by simpa using d1
  have d3 : decide (p.toList = [46, 46]) = false := decide_eq_false d1
  obtain ⟨t9, ht9, hc9⟩ := Option.bind_eq_some_iff.1 hcs
  obtain ⟨t8, ht8, hc8⟩ := Option.bind_eq_some_iff.1 ht9
  obtain ⟨tq, htq, ht7⟩ := Option.bind_eq_some_iff.1 ht8
  obtain ⟨⟨nn, nb⟩, hnn, ht6⟩ := Option.bind_eq_some_iff.1 ht7
  dsimp only at ht6
  split at ht6
  case isFalse => cases ht6
  case isTrue hrow =>
  have HTq := Aside0.mk htq
  have HNn := Aside0.mk hnn
  have HT8 := Aside0.mk ht6
  have HC9 := Aside0.mk (show pbRows (ls.take q).reverse t8 = some t9 ∧ pbFin k a0 (ln : Int) t9 = some (r1, r2, r3) from ⟨hc8, hc9⟩)
  have HRow := Aside0.mk hrow
  clear hcs hdot ht9 hc9 ht8 hc8 htq ht7 hnn ht6 hrow
  go_upto_region 20 with (first | (go_at_call 32; refine (strings_TrimPrefix.calls p ⟨#[48]⟩ tq _ HTq.out).mono ?_; rintro e w5 ⟨rfl, hd⟩; have n0_ := Aside0.mk (HP.out.below hd.below); have n1_ := Aside0.mk (Kd.R_below HL.out hd.below); have n2_ := Aside0.mk (Kd.R_below HQ.out hd.below); clear HP HL HQ hd hx0; have HP := n0_; have HL := n1_; have HQ := n2_; clear n0_ n1_ n2_) | (go_at_call 31; refine (impl_ParseInt.calls tq nn nb _ HNn.out (HG.out.below (Nat.le_refl _) HP.out.2.2.2.2)).mono ?_; rintro e w6 ⟨rfl, hb⟩; have n0_ := Aside0.mk (HP.out.below hb); have n1_ := Aside0.mk (Kd.R_below HL.out hb); have n2_ := Aside0.mk (Kd.R_below HQ.out hb); clear HP HL HQ hb; have HP := n0_; have HL := n1_; have HQ := n2_; clear n0_ n1_ n2_))
  have HP5 := Aside0.mk HP.out.drew
  have HL5 := Aside0.mk (Kd.R_drew HL.out)
  have HQ5 := Aside0.mk (Kd.R_drew HQ.out)
  obtain ⟨row, hrow⟩ : ∃ r : List Int, r = tab.getD i [] := ⟨_, rfl⟩
  obtain ⟨A5, c5, oki5, hcel5, hR5, hoki5, hst5⟩ := pb_elem HP5.out.1 i (by rw [HTl.out]; exact hit)
  rw [← hrow] at hcel5 hR5 hst5
  have hrl : row.length ≤ 1000 := by rw [hrow]; exact HRow.out
  have HRw := Aside0.mk hrow
  have HR5 := Aside0.mk hR5
  have HO5 := Aside0.mk hoki5
  have HSt5 := Aside0.mk hst5
  obtain ⟨row5, hrow5⟩ : ∃ r : List Int, r = row ++ [nn] := ⟨_, rfl⟩
  have HR6 := Aside0.mk hrow5
  have hS0 : w6.drew.cell? ⟨gb, 1, none⟩ = some (.slice (some ⟨gt, 0, none⟩) n0 cv) ∧ w6.drew.cell? ⟨gt, i, none⟩ = some (.slice A5 row.length c5) := ⟨HP5.out.box.2, hcel5⟩
  clear hcel5 hR5 hoki5 hst5 hrow hrow5 HP HL HQ d1 d2 d3
  refine start_ (n := 13) (S := fun w' => w'.cell? ⟨gb, 1, none⟩ = some (.slice (some ⟨gt, 0, none⟩) n0 cv) ∧ w'.cell? ⟨gt, i, none⟩ = some (.slice A5 row.length c5)) (ds := [12]) #[false, false, false, false, false, false, false, false, false, false, false, false, false] (by kernel_rfl) rfl rfl hS0 (fun hHeld => ?_)
  refine with_tabW impl_ParseBay.tab20 impl_ParseBay.bits20 (fun HT_ HW_ => ?_)
  generalize w6.drew = w5 at HP5 HL5 HQ5 HR5 HO5 HSt5 hS0 hHeld ⊢
  refine pure_ (i := 0) (N := some 81) (v := ?_) (a' := ?_) #[true, false, false, false, false, false, false, false, false, false, false, false, false] rfl rfl (any_of HT_.out (by kernel_rfl)) (fun _ _ _ h => h) (Or.inl ⟨by rfl, ?_⟩) ?_ ?_
  rotate_left
  ·intro w'
   go_simp
   with_reducible rfl
  rotate_left
  ·simp only [putS]
   rfl
  refine pure_ (i := 2) (N := some 83) (v := ?_) (a' := ?_) #[true, false, true, false, false, false, false, false, false, false, false, false, false] rfl rfl (any_of HT_.out (by kernel_rfl)) (fun _ _ _ h => h) (Or.inl ⟨by rfl, ?_⟩) ?_ ?_
  rotate_left
  ·intro w'
   go_simp
   with_reducible rfl
  rotate_left
  ·simp only [putS]
   rfl
  refine pure_ (i := 3) (N := some 84) (v := ?_) (a' := ?_) #[true, false, true, true, false, false, false, false, false, false, false, false, false] rfl rfl (any_of HT_.out (by kernel_rfl)) (fun _ _ _ h => h) (Or.inl ⟨by rfl, ?_⟩) ?_ ?_
  rotate_left
  ·intro w'
   go_simp
   with_reducible rfl
  rotate_left
  ·simp only [putS]
   rfl
  refine pure_ (i := 5) (N := some 86) (v := ?_) (a' := ?_) #[true, false, true, true, false, true, false, false, false, false, false, false, false] rfl rfl (any_of HT_.out (by kernel_rfl)) (fun _ _ _ h => h) (Or.inl ⟨by rfl, ?_⟩) ?_ ?_
  rotate_left
  ·intro w'
   go_simp
   with_reducible rfl
  rotate_left
  ·simp only [putS]
   rfl
  refine pure_ (i := 8) (N := some 89) (v := ?_) (a' := ?_) #[true, false, true, true, false, true, false, false, true, false, false, false, false] rfl rfl (any_of HT_.out (by kernel_rfl)) (fun _ _ _ h => h) (Or.inl ⟨by rfl, ?_⟩) ?_ ?_
  rotate_left
  ·intro w'
   go_simp
   with_reducible rfl
  rotate_left
  ·simp only [putS]
   rfl
  refine take_ (i := 1) (N := some 82) (v := ?_) (a' := ?_) #[true, true, true, true, false, true, false, false, true, false, false, false, false] rfl rfl (take_ofW HT_.out HW_.out (by kernel_rfl)) (fun _ _ _ h => h) (Or.inl ⟨by rfl, ?_⟩) hHeld ?_ ?_
  rotate_left
  ·rintro w' ⟨s0, s1⟩
   go_simp
   with_reducible rfl
  rotate_left
  ·simp only [putS]
   rfl
  refine take_ (i := 4) (N := some 85) (v := ?_) (a' := ?_) #[true, true, true, true, true, true, false, false, true, false, false, false, false] rfl rfl (take_ofW HT_.out HW_.out (by kernel_rfl)) (fun _ _ _ h => h) (Or.inl ⟨by rfl, ?_⟩) hHeld ?_ ?_
  rotate_left
  ·rintro w' ⟨s0, s1⟩
   go_simp
   with_reducible rfl
  rotate_left
  ·simp only [putS]
   rfl
  refine take_ (i := 6) (N := some 87) (v := ?_) (a' := ?_) #[true, true, true, true, true, true, true, false, true, false, false, false, false] rfl rfl (take_ofW HT_.out HW_.out (by kernel_rfl)) (fun _ _ _ h => h) (Or.inl ⟨by rfl, ?_⟩) hHeld ?_ ?_
  rotate_left
  ·rintro w' ⟨s0, s1⟩
   go_simp
   with_reducible rfl
  rotate_left
  ·simp only [putS]
   rfl
  refine take_ (i := 7) (N := some 88) (v := ?_) (a' := ?_) #[true, true, true, true, true, true, true, true, true, false, false, false, false] rfl rfl (take_ofW HT_.out HW_.out (by kernel_rfl)) (fun _ _ _ h => h) (Or.inl ⟨by rfl, ?_⟩) hHeld ?_ ?_
  rotate_left
  ·rintro w' ⟨s0, s1⟩
   go_simp
   with_reducible rfl
  rotate_left
  ·simp only [putS]
   rfl
  refine one_ (i := 9) (N := some 90) #[true, true, true, true, true, true, true, true, true, true, false, false, false] rfl rfl (one_of HT_.out (by kernel_rfl)) (by decide) (fun K hK => ?_)
  refine value_ (w1 := ?_) (v := ?_) (by rfl) rfl ?_ ?_
  rotate_left 2
  ·go_simp
   constructor
   ·rfl
   rfl
  refine hK.out _ _ ⟨((below_alloc (Below.refl w5.heap.size w5) _).cell (World.block_lt_of_cell? _ _ hS0.1)).trans hS0.1, ((below_alloc (Below.refl w5.heap.size w5) _).cell (World.block_lt_of_cell? _ _ hS0.2)).trans hS0.2⟩ (fun hHeld => ?_)
  clear hK K
  refine norm_ (a' := ?_) ?_ ?_
  rotate_left
  ·show Act.put _ (some 90) _ = _
   simp only [putS]
   rfl
  refine one_ (i := 10) (N := some 91) #[true, true, true, true, true, true, true, true, true, true, true, false, false] rfl rfl (one_of HT_.out (by kernel_rfl)) (by decide) (fun K hK => ?_)
  refine Kd.R_append_step (Kd.int .i64) (w0 := w) w.heap.size (by rfl) (.tmp 88) (.tmp 90) 48 3 (.int .i64 0) 8 rfl Tryz.underlying48 info3 rfl (by decide) (by omega) (.slice A5 row.length c5) row nn [.int .i64 nn] (fun k => oki5 k ∨ True ∧ w5.heap.size ≤ k) (fun _ => False) rfl rfl ?aP (fun _ hk => hk.elim) ?aF ?aO ?aB ?aS ?aL ?_
  (case aP => exact rfl)
  (case aB => exact HP5.out.2.2.2.2)
  (case aF => exact fun k hk => Or.inr ⟨trivial, hk⟩)
  (case aO => exact Kd.R_mono HR5.out (fun _ hk => Or.inl hk))
  (case aS => exact below_size HP5.out.2.2.2.2)
  (case aL => omega)
  intro v91 w8 ho hb hg hat
  rw [← HR6.out] at ho
  obtain ⟨A8, c8, rfl⟩ := Kd.R_slice ho
  obtain ⟨hcz8, hfz8, hS8⟩ := HSt5.out w8 _ row5 hg ho
  have HP8 := Aside0.mk (PbT.set HP5.out HR5.out hS8 hb hg)
  have HL8 := Aside0.mk (PbT.setR (i := i) (v1 := .slice A8 row5.length c8) HP5.out HR5.out HL5.out hg)
  have HQ8 := Aside0.mk (PbT.setR (i := i) (v1 := .slice A8 row5.length c8) HP5.out HR5.out HQ5.out hg)
  have hz8 : w8.cell? ⟨gb, 1, none⟩ = some (.slice (some ⟨gt, 0, none⟩) n0 cv) := (blk_cell (blk_grown HP5.out.2.1 hg (Kd.R_ne HR5.out HP5.out.2.1 (by decide))) 1).trans rfl
  clear hS8 ho hb hg hat hS0
  refine hK.out _ _ ⟨hz8, hcz8⟩ (fun hHeld => ?_)
  clear hK K
  refine norm_ (a' := ?_) ?_ ?_
  rotate_left
  ·show Act.put _ (some 91) _ = _
   simp only [putS]
   rfl
  refine pure_ (i := 11) (N := some 92) (v := ?_) (a' := ?_) #[true, true, true, true, true, true, true, true, true, true, true, true, false] rfl rfl (any_of HT_.out (by kernel_rfl)) (fun _ _ _ h => h) (Or.inl ⟨by rfl, ?_⟩) ?_ ?_
  rotate_left
  ·intro w'
   go_simp
   with_reducible rfl
  rotate_left
  ·simp only [putS]
   rfl
  refine last_ (i := 12) (N := none) #[true, true, true, true, true, true, true, true, true, true, true, true, true] rfl rfl (one_of HT_.out (by kernel_rfl)) (by decide) (fun K hK => ?_)
  refine skip_ (w1 := ?_) (by rfl) rfl ?_ ?_
  rotate_left
  ·go_simp
   rfl
  refine hK.out _ _ ?_
  clear hK K
  refine done_ (done_of HT_.out (by kernel_rfl)) ?_
  go_wp2
  go_roundw
  case rel => exact ⟨i + 1, tab.set i row5, by go_num, ⟨hit⟩, ⟨Option.bind_eq_some_iff.2 ⟨t9, Option.bind_eq_some_iff.2 ⟨t8, by rw [HR6.out, HRw.out]; exact HT8.out, HC9.out.1⟩, HC9.out.2⟩⟩, ⟨by rw [List.length_set]; exact HTl.out⟩, HP8, HL8, HQ8⟩
  case measure => simp [intOf]; omega
 | zero =>
  obtain rfl : z = -1 := by have := HZ.out; omega
  have hg : pbFin k a0 (ln : Int) (some tab) = some (r1, r2, r3) := HG3.out
  unfold pbFin at hg
  obtain ⟨v, hv, hg2⟩ := Option.bind_eq_some_iff.1 hg
  have HV := Aside0.mk hv
  have hb0 : wr.cell? ⟨gb, 0, none⟩ = some (.int .i64 (ln : Int)) := HP.out.box.1
  have hb1 : wr.cell? ⟨gb, 1, none⟩ = some (.slice (some ⟨gt, 0, none⟩) n0 cv) := HP.out.box.2
  clear hg hv HG3
  cases v with
  | false =>
   rw [if_neg (by decide)] at hg2
   injection hg2 with hg2
   injection hg2 with e1 e2
   injection e2 with e2 e3
   subst e1 e2 e3
   go_wp2_with (first | (go_at_call 9; refine (impl_ParseBay.valid (ln : Int) _ n0 _ tab false _ HTl.out (Kd.S_reads' HP.out.1).2.2 (by rw [HTl.out]; exact (Kd.S_reads' HP.out.1).2.1) HV.out).mono ?_; rintro e w7 ⟨rfl, hb⟩; have HP7 := Aside0.mk (HP.out.below hb); clear hb HP; have hb0 : w7.cell? ⟨gb, 0, none⟩ = some (.int .i64 (ln : Int)) := HP7.out.box.1; have hb1 : w7.cell? ⟨gb, 1, none⟩ = some (.slice (some ⟨gt, 0, none⟩) n0 cv) := HP7.out.box.2; have hz0 : w7.cell? ⟨gr, 0, none⟩ = some (.int .i64 0) := (blk_cell HP7.out.2.2.1 0).trans rfl; have hz1 : w7.cell? ⟨gr, 1, none⟩ = some (.slice none 0 0) := (blk_cell HP7.out.2.2.1 1).trans rfl; have hf0 := blk_frozen HP7.out.2.2.1 0; have hf1 := blk_frozen HP7.out.2.2.1 1))
   refine bodyPost_ret (results_ct rfl _ _ gr 26 #[.int .i64 0, .slice none 0 0] (0, 0) _ rfl (by refine blk_put (cs := #[.int .i64 0, .slice none 0 0]) ?_ 1 _ rfl; refine blk_put (cs := #[.int .i64 0, .slice none 0 0]) ?_ 0 _ rfl; exact HP7.out.2.2.1) hub rfl (by kernel_rfl)) rfl ?_
   exact ⟨_, rfl, Kd.S_nil _ _ _ _ _, (HP7.out.2.2.2.2.setCell (p := ⟨gr, 0, none⟩) (by rw [GR1.out]; exact Nat.le_refl _) _).setCell (p := ⟨gr, 1, none⟩) (by rw [GR1.out]; exact Nat.le_refl _) _⟩
  | true =>
   rw [if_pos rfl] at hg2
   obtain ⟨u, hu, hg3⟩ := Option.bind_eq_some_iff.1 hg2
   have HU := Aside0.mk hu
   clear hg2 hu
   by_cases hus : u = a0
   rotate_left
   ·rw [if_neg hus] at hg3
    injection hg3 with hg3
    injection hg3 with e1 e2
    injection e2 with e2 e3
    subst e1 e2 e3
    have hul : ¬ u.toList = a0.toList := fun h => hus (by rw [str_empty, str_empty] at h; obtain ⟨⟨a⟩⟩ := u; obtain ⟨⟨b⟩⟩ := a0; simp at h; rw [h])
    have u1 : (u.toList == a0.toList) = false := by simpa using hul
    have u2 : (u.toList != a0.toList) = true := by simpa using hul
    have u3 : decide (u.toList = a0.toList) = false := decide_eq_false hul
    go_wp2_with (first | (go_at_call 9; refine (impl_ParseBay.valid (ln : Int) _ n0 _ tab true _ HTl.out (Kd.S_reads' HP.out.1).2.2 (by rw [HTl.out]; exact (Kd.S_reads' HP.out.1).2.1) HV.out).mono ?_; rintro e w7 ⟨rfl, hb⟩; have HP7 := Aside0.mk (HP.out.below hb); clear hb HP; have hb0 : w7.cell? ⟨gb, 0, none⟩ = some (.int .i64 (ln : Int)) := HP7.out.box.1; have hb1 : w7.cell? ⟨gb, 1, none⟩ = some (.slice (some ⟨gt, 0, none⟩) n0 cv) := HP7.out.box.2) | (go_at_call 28; refine (impl_ParseBay.text k (ln : Int) _ n0 _ tab u _ HTl.out (Kd.S_reads' HP7.out.1).2.2 (by rw [HTl.out]; exact (Kd.S_reads' HP7.out.1).2.1) HU.out).mono ?_; rintro e w8 ⟨rfl, hb⟩; have HP8 := Aside0.mk (HP7.out.below hb); clear hb HP7 hb0 hb1; have hb0 : w8.cell? ⟨gb, 0, none⟩ = some (.int .i64 (ln : Int)) := HP8.out.box.1; have hb1 : w8.cell? ⟨gb, 1, none⟩ = some (.slice (some ⟨gt, 0, none⟩) n0 cv) := HP8.out.box.2; have hz0 : w8.cell? ⟨gr, 0, none⟩ = some (.int .i64 0) := (blk_cell HP8.out.2.2.1 0).trans rfl; have hz1 : w8.cell? ⟨gr, 1, none⟩ = some (.slice none 0 0) := (blk_cell HP8.out.2.2.1 1).trans rfl; have hf0 := blk_frozen HP8.out.2.2.1 0; have hf1 := blk_frozen HP8.out.2.2.1 1))
    refine bodyPost_ret (results_ct rfl _ _ gr 26 #[.int .i64 0, .slice none 0 0] (0, 0) _ rfl (by refine blk_put (cs := #[.int .i64 0, .slice none 0 0]) ?_ 1 _ rfl; refine blk_put (cs := #[.int .i64 0, .slice none 0 0]) ?_ 0 _ rfl; exact HP8.out.2.2.1) hub rfl (by kernel_rfl)) rfl ?_
    exact ⟨_, rfl, Kd.S_nil _ _ _ _ _, (HP8.out.2.2.2.2.setCell (p := ⟨gr, 0, none⟩) (by rw [GR1.out]; exact Nat.le_refl _) _).setCell (p := ⟨gr, 1, none⟩) (by rw [GR1.out]; exact Nat.le_refl _) _⟩
   rw [if_pos hus] at hg3
   injection hg3 with hg3
   injection hg3 with e1 e2
   injection e2 with e2 e3
   subst e1 e2 e3
   have u1 : (u.toList == a0.toList) = true := by rw [hus]; simp
   have u2 : (u.toList != a0.toList) = false := by rw [hus]; simp
   have u3 : decide (u.toList = a0.toList) = true := decide_eq_true (by rw [hus])
   subst hus
   go_wp2_with (first | (go_at_call 9; refine (impl_ParseBay.valid (ln : Int) _ n0 _ tab true _ HTl.out (Kd.S_reads' HP.out.1).2.2 (by rw [HTl.out]; exact (Kd.S_reads' HP.out.1).2.1) HV.out).mono ?_; rintro e w7 ⟨rfl, hb⟩; have HP7 := Aside0.mk (HP.out.below hb); clear hb HP; have hb0 : w7.cell? ⟨gb, 0, none⟩ = some (.int .i64 (ln : Int)) := HP7.out.box.1; have hb1 : w7.cell? ⟨gb, 1, none⟩ = some (.slice (some ⟨gt, 0, none⟩) n0 cv) := HP7.out.box.2) | (go_at_call 28; refine (impl_ParseBay.text k (ln : Int) _ n0 _ tab u _ HTl.out (Kd.S_reads' HP7.out.1).2.2 (by rw [HTl.out]; exact (Kd.S_reads' HP7.out.1).2.1) HU.out).mono ?_; rintro e w8 ⟨rfl, hb⟩; have HP8 := Aside0.mk (HP7.out.below hb); clear hb HP7 hb0 hb1; have hb0 : w8.cell? ⟨gb, 0, none⟩ = some (.int .i64 (ln : Int)) := HP8.out.box.1; have hb1 : w8.cell? ⟨gb, 1, none⟩ = some (.slice (some ⟨gt, 0, none⟩) n0 cv) := HP8.out.box.2; have hz0 : w8.cell? ⟨gr, 0, none⟩ = some (.int .i64 0) := (blk_cell HP8.out.2.2.1 0).trans rfl; have hz1 : w8.cell? ⟨gr, 1, none⟩ = some (.slice none 0 0) := (blk_cell HP8.out.2.2.1 1).trans rfl; have hf0 := blk_frozen HP8.out.2.2.1 0; have hf1 := blk_frozen HP8.out.2.2.1 1))
   refine bodyPost_ret (results_ct rfl _ _ gr 26 #[.int .i64 (ln : Int), .slice (some ⟨gt, 0, none⟩) n0 cv] (0, 0) _ rfl (by refine blk_put (cs := #[.int .i64 (ln : Int), .slice none 0 0]) ?_ 1 _ rfl; refine blk_put (cs := #[.int .i64 0, .slice none 0 0]) ?_ 0 _ rfl; exact HP8.out.2.2.1) hub rfl (by kernel_rfl)) rfl ?_
   have hS8 := Kd.S_set HP8.out.1 HP8.out.2.2.1 (by decide) 0 (.int .i64 (ln : Int))
   have hS9 := Kd.S_set hS8 (blk_put HP8.out.2.2.1 0 (.int .i64 (ln : Int)) rfl) (by decide) 1 (.slice (some ⟨gt, 0, none⟩) n0 cv)
   exact ⟨_, rfl, hS9, (HP8.out.2.2.2.2.setCell (p := ⟨gr, 0, none⟩) (by rw [GR1.out]; exact Nat.le_refl _) _).setCell (p := ⟨gr, 1, none⟩) (by rw [GR1.out]; exact Nat.le_refl _) _⟩
end Go.Proofs.YtnknojpijmfefaaGreatDoor.P
