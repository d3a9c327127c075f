-- Written by a program of this session over the translation (a variant of the printer, see wip/gen); Lean checks it.
import Derived.Test.YtdooakhjaffcdaaPx0
import Derived.Test.YtdooakhjaffcdaaPx1
import Derived.Test.YtdooakhjaffcdaaPx4
import Derived.Test.YtdooakhjaffcdaaU
namespace Go.Proofs.Ytdooakhjaffcdaa.P
open Go.RowKit Go.Proofs.YtdooakhjaffcdaaW.PrintWords Go.Proofs.YtdooakhjaffcdaaW.PrintLast Go.Proofs.YtdooakhjaffcdaaW.PrintMore
attribute [local go_sem] Go.Proofs.Ytdooakhjaffcdaa.V.isSome_setCell max2_int min2_int max_two min_two max_three min_three max_four min_four
set_option linter.unusedVariables false
set_option linter.unusedSimpArgs false
/-! ### spec_l1Cur_orderOf: function 14 -/
/-- A row's numbers, from the top, each put at a place that is drawn, or left out. -/
def ooRow (c row : List Int) : Nat → List Int → Int → Int → Option (List Int × Int × Int)
  | 0, out, i, s => some (out, i, s)
  | m + 1, out, i, s => (spec_l1Cur_one.f c i s 4).bind fun q => if q.1 = true then ooRow c row m out q.2.1 q.2.2 else
    (spec_l1Cur_pick.f c q.2.1 q.2.2 (wrap64 ((out.length : Int) + 1))).bind fun p => if 0 ≤ p.1 ∧ p.1 ≤ (out.length : Int) ∧ out.length < 1000 then ooRow c row m (out.take p.1.toNat ++ [row.getD m 0] ++ out.drop p.1.toNat) p.2.1 p.2.2 else none
def ooAll (c : List Int) : List (List Int) → List Int → Int → Int → Option (List Int × Int × Int)
  | [], out, i, s => some (out, i, s)
  | r :: l, out, i, s => (ooRow c r r.length out i s).bind fun x => ooAll c l x.1 x.2.1 x.2.2
def spec_l1Cur_orderOf.f (c : List Int) (i s : Int) (h : Int) (tab : List (List Int)) : Option (List Int × Int × Int) :=
  (ooAll c tab [] i s).bind fun x => (spec_l1Cur_one.f c x.2.1 x.2.2 10).bind fun q => if q.1 = true then (spec_l1Cur_pick.f c q.2.1 q.2.2 9).bind fun p => if x.1.length < 1000 then some (x.1 ++ [p.1], p.2.1, p.2.2) else none else some (x.1, q.2.1, q.2.2)
/-- What stands while an order is drawn: the cursor, the bay's box. -/
def OrW (w0 w W : World) (g gb : Nat) (c : List Int) (i s : Int) (cs : Array Value) : Prop :=
  IsS39 w0 W g c i s ∧ Below w0.heap.size w0 W ∧ KeepBut w W g none ∧ W.heap[gb]? = some (.cells cs 26 (0, 0)) ∧ w.heap.size ≤ gb
theorem OrW.pick {w0 w W W1 : World} {g gb : Nat} {c : List Int} {i s i1 s1 : Int} {cs : Array Value} (h : OrW w0 w W g gb c i s cs) (hi : IsS39 w0 W1 g c i1 s1) (hb : Below w0.heap.size w0 W1) (hk : KeepBut W W1 g none) : OrW w0 w W1 g gb c i1 s1 cs := by
 obtain ⟨h1, h2, h3, h4, h5⟩ := h
 exact ⟨hi, hb, h3.trans hk (.inl rfl), hk.blk h4 (Ne.symm (h1.ne_blk h4 (by decide))) (by simp), h5⟩
theorem OrW.below {w0 w W W1 : World} {g gb : Nat} {c : List Int} {i s : Int} {cs : Array Value} (h : OrW w0 w W g gb c i s cs) (hb : Below W.heap.size W W1) : OrW w0 w W1 g gb c i s cs := by
 obtain ⟨h1, h2, h3, h4, h5⟩ := h
 exact ⟨h1.below hb, below_step h2 hb, h3.trans (KeepBut.of_below hb g none) (.inl rfl), blk_below h4 hb, h5⟩
theorem OrW.drew {w0 w W : World} {g gb : Nat} {c : List Int} {i s : Int} {cs : Array Value} (h : OrW w0 w W g gb c i s cs) : OrW w0 w W.drew g gb c i s cs := ⟨h.1, below_drew1 h.2.1, h.2.2⟩
theorem OrW.grown {w0 w W W1 : World} {g gb : Nat} {c : List Int} {i s : Int} {cs : Array Value} {row : Option Nat} (h : OrW w0 w W g gb c i s cs) (h8 : w0.heap.size ≤ w.heap.size) (hb : Below w.heap.size W W1) (hg : W.grownBy W1 row) (r1 : some g ≠ row) : IsS39 w0 W1 g c i s ∧ Below w0.heap.size w0 W1 ∧ KeepBut w W1 g none := by
 obtain ⟨h1, h2, h3, h4, h5⟩ := h
 exact ⟨h1.grown hg r1, below_weaken h2 h8 hb, ⟨Nat.le_trans h3.1 hg.size, fun k hk hne hr => (hb.block k hk).trans (h3.2 k hk hne hr)⟩⟩
theorem OrW.row {w0 w W W1 : World} {g gb : Nat} {c : List Int} {i s : Int} {cs : Array Value} {v : Value} {ps : List Int} (h : OrW w0 w W g gb c i s cs) (ho : Kd.R (Kd.int .i64) 3 W w.heap.size (fun _ => True) v ps) (hk : KeepBut W W1 g none) : Kd.R (Kd.int .i64) 3 W1 w.heap.size (fun _ => True) v ps :=
  Kd.R_mono (Kd.R_keep (h.1.apart ho (by decide)) hk (fun _ h => h.2)) (fun _ h => h.1)
theorem oo_keep {W W2 : World} {base e : Nat} {v : Value} {p : List Int} (h : Kd.R (Kd.int .i64) e W base (fun _ => True) v p) (hk : ∀ k, some k = v.ownBlock → W2.heap[k]? = W.heap[k]?) : Kd.R (Kd.int .i64) e W2 base (fun _ => True) v p := by
 have hown : W.ownsRow base e 1 v p.length (p.map (Value.int .i64)) := Kd.own_of_R h
 rcases hown.2 with ⟨rfl, hn⟩ | ⟨g, cap, cur, rfl, hbg, hg, hnc, hcm, hcs, htk⟩
 ·obtain rfl : p = [] := List.length_eq_zero_iff.1 hn
  exact Kd.R_nil _ _ _ _ _
 exact Kd.R_of_own ⟨hown.1, .inr ⟨g, cap, cur, rfl, hbg, by rw [hk g rfl]; exact hg, hnc, hcm, hcs, htk⟩⟩ (fun _ _ => trivial)
/-- A row stands beside one that grows: their blocks are two. -/
theorem oo_apart {Wa W W2 : World} {b1 e : Nat} {v u : Value} {p q : List Int} (hv : Kd.R (Kd.int .i64) e W b1 (fun _ => True) v p) (hne : ∀ k, some k = v.ownBlock → some k ≠ u.ownBlock) (hg : W.grownBy W2 u.ownBlock) : Kd.R (Kd.int .i64) e W2 b1 (fun _ => True) v p :=
  oo_keep hv (fun k hk => hg.block k (Kd.R_lt hv k hk.symm) (hne k hk))
theorem oo_ne {Wv Wu : World} {b1 e : Nat} {v u : Value} {p q : List Int} (hv : Kd.R (Kd.int .i64) e Wv b1 (fun _ => True) v p) (hu : Kd.R (Kd.int .i64) e Wu Wv.heap.size (fun _ => True) u q) : ∀ k, some k = v.ownBlock → some k ≠ u.ownBlock := fun k hk he => by
  have h1 := Kd.R_lt hv k hk.symm
  rcases Kd.R_base2 hu with h0 | ⟨b, hb, hle⟩
  · rw [h0] at he; cases he
  · rw [hb] at he; have := Option.some.inj he; omega
theorem spec_l1Cur_orderOf.atRow {w : World} {A : Option Addr} {n : Nat} {xs : List (List Int)} (h : Kd.C (Kd.slice 3 (Kd.int .i64)) w A n xs) (i : Nat) (h1 : i < n) : ∃ ad A0 c0, A = some ad ∧ w.cell? (ad.add i) = some (.slice A0 (xs.getD i []).length c0) ∧ (xs.getD i []).length ≤ c0 ∧ Kd.C (Kd.int .i64) w A0 (xs.getD i []).length (xs.getD i []) := by
 obtain ⟨ad, c, e, _, hK, hc0⟩ := Kd.C_get h ([] : List Int) (i : Int) (by omega) (by omega)
 have hc : ∀ j u, c[j]? = some u → w.cell? (ad.add ((i : Int).toNat * 1 + j)) = some u := hc0
 obtain ⟨A0, c0, rfl, l0, g0⟩ := hK
 have hq := hc 0 _ rfl
 rw [Nat.mul_one, Nat.add_zero, Int.toNat_natCast] at hq
 exact ⟨ad, A0, c0, e, hq, l0, g0⟩
theorem spec_l1Cur_orderOf.atInt {w : World} {A : Option Addr} {xs : List Int} (h : Kd.C (Kd.int .i64) w A xs.length xs) (i : Nat) (h1 : i < xs.length) : ∃ ad, A = some ad ∧ w.cell? (ad.add i) = some (.int .i64 (xs.getD i 0)) := by
 obtain ⟨ad, c, e, _, hK, hc0⟩ := Kd.C_get h (0 : Int) (i : Int) (by omega) (by omega)
 have hK : c = [.int .i64 (xs.getD (i : Int).toNat 0)] := hK
 subst hK
 have hc : ∀ j u, [Value.int .i64 (xs.getD (i : Int).toNat 0)][j]? = some u → w.cell? (ad.add ((i : Int).toNat * 1 + j)) = some u := hc0
 have hq := hc 0 _ rfl
 rw [Nat.mul_one, Nat.add_zero, Int.toNat_natCast] at hq
 exact ⟨ad, e, hq⟩
def spec_l1Cur_orderOf.T10 : Bool × List (List Nat × List Nat) := (true, [([], []), ([], []), ([], []), ([1, 2], [1, 2]), ([0, 3], [0, 3]), ([], []), ([5], [5]), ([], []), ([6, 7], [6, 7]), ([8], [8]), ([], []), ([9, 10], [9, 10]), ([11], [11]), ([12], [12]), ([4, 13, 4], [4, 13]), ([], []), ([], []), ([15, 16], [15, 16]), ([14, 17, 14], [14, 17]), ([18, 18, 0, 1, 2, 3, 4, 5, 6, 7, 8, 9, 10, 11, 12, 13, 14, 15, 16, 17, 18], [1, 15, 18])])
def spec_l1Cur_orderOf.B10 : List Nat := [0, 0, 0, 6, 15, 0, 32, 0, 224, 480, 0, 2016, 4064, 8160, 16383, 0, 0, 98304, 262143, 524287]
theorem spec_l1Cur_orderOf.tab10 : rtab .any (opsOf Try.f14 10) = spec_l1Cur_orderOf.T10 := by kernel_rfl
theorem spec_l1Cur_orderOf.bits10 : waitsOk spec_l1Cur_orderOf.T10.2 spec_l1Cur_orderOf.B10 = true := by kernel_rfl
set_option maxHeartbeats 8000000 in
set_option maxRecDepth 100000 in
/-- THE CALL -/
theorem spec_l1Cur_orderOf.calls (g : Nat) (s0_0 : List Int) (s0_1 : Int) (s0_2 : Int) (a1_0 : Int) (A1_1 : Option Addr) (c1_1 : Nat) (l1_1 : List (List Int)) (r1 : List Int) (r2 : Int) (r3 : Int) (w0 w : World) (hI : IsS39 w0 w g s0_0 s0_1 s0_2) (hB : Below w0.heap.size w0 w) (hr1_1 : ∀ W_, KeepBut w W_ g none → Kd.C (Kd.slice 3 (Kd.int .i64)) W_ A1_1 l1_1.length l1_1) (hc1_1 : l1_1.length ≤ c1_1) (h : spec_l1Cur_orderOf.f s0_0 s0_1 s0_2 a1_0 l1_1 = some (r1, r2, r3)) :
    Calls Try.prog 14 #[.pointer (some ⟨g, 0, none⟩), .agg #[.int .i64 a1_0, .slice A1_1 l1_1.length c1_1]] w fun e w' => ∃ v0_ : Value, e = .returned (v0_) ∧ Kd.R (Kd.int .i64) 3 w' w.heap.size (fun _ => True) v0_ r1 ∧ IsS39 w0 w' g s0_0 r2 r3 ∧ Below w0.heap.size w0 w' ∧ KeepBut w w' g none := by
 have hu := Try.underlying26
 have hlt1 : l1_1.length ≤ 9223372036854775807 := (hr1_1 w (KeepBut.refl w g none)).2.1
 have HT1 := Aside0.mk hr1_1
 have HI0 := Aside0.mk hI
 have HB0 := Aside0.mk hB
 have HZ0 := Aside0.mk (below_size hB)
 have HX := Aside0.mk h
 clear hr1_1 hI hB h
 go_enter Try.func14, Try.ntmps14
 go_upto_region 2 with (first | ((with_reducible refine gate_dst (N := 3) rfl ?_); (try (refine gate_guard (by rfl) ?_; dsimp only)); refine box_event ?hg (N := 3) ?hd (cs := #[.int .i64 a1_0, .slice A1_1 l1_1.length c1_1]) (t := 26) ?hr ?_; (case hd => rfl); (case hg => rfl); (case hr => first | (go_simp; done) | (go_simp; rfl)); intro gb hgb w1 hbox hb; have HO1 := Aside0.mk (show OrW w0 w w1 g gb s0_0 s0_1 s0_2 #[.int .i64 a1_0, .slice A1_1 l1_1.length c1_1] from ⟨HI0.out.below hb, below_step HB0.out hb, KeepBut.of_below hb g none, hbox, by rw [hgb]; exact Nat.le_refl _⟩); clear hb hbox hgb) | ((with_reducible refine gate_dst (N := 9) rfl ?_); refine Kd.R_lit (Kd.int .i64) _ 3 ?hg (N := 9) ?hd (xs := ([] : List Int)) (inner := []) (ok := fun _ => True) (okp := fun _ => True) ?hr ?hp (fun _ hk => hk) trivial (Below.refl _ _) (Nat.le_refl _) (by simp) ?_; (case hd => rfl); (case hg => rfl); (case hr => first | (go_simp; done) | (go_simp; rfl)); (case hp => exact (Reps.none _ _)); intro v9 w2 h9 hb hg_ hnew_; have HR2 := Aside0.mk (Kd.R_lower h9 HO1.out.2.2.1.1); have HO2 := Aside0.mk (OrW.below HO1.out hb); clear h9 hb hg_ hnew_))
 clear HI0 HB0 HO1
 unfold spec_l1Cur_orderOf.f at HX
 obtain ⟨⟨outF, iF, sF⟩, hall, hend⟩ := Option.bind_eq_some_iff.1 HX.out
 have HAll := Aside0.mk hall
 have HEnd := Aside0.mk hend
 clear hall hend HX
 go_wp2
 go_loopw [5, 6] (fun v5 v6 wr => ∃ (t : Nat) (out : List Int) (i s : Int), v6 = .int .i64 (t : Int) ∧ Aside0 (t ≤ l1_1.length) ∧ Aside0 (ooAll s0_0 (l1_1.drop t) out i s = some (outF, iF, sF)) ∧ Aside0 (Kd.R (Kd.int .i64) 3 wr w.heap.size (fun _ => True) v5 out) ∧ Aside0 (OrW w0 w wr g gb s0_0 i s #[.int .i64 a1_0, .slice A1_1 l1_1.length c1_1])) (fun v5 v6 wr => l1_1.length - (intOf v6).toNat)
 case atStart => exact ⟨0, [], s0_1, s0_2, rfl, ⟨Nat.zero_le _⟩, HAll, HR2, HO2⟩
 clear HAll HR2 HO2
 obtain ⟨t, out, i, s, rfl, HLe, HL, HRo, HOr⟩ := hrel
 rename World => wo
 obtain ⟨A5, c5, rfl⟩ := Kd.R_slice HRo.out
 have cb1 : wo.cell? ⟨gb, 1, none⟩ = some (.slice A1_1 l1_1.length c1_1) := (blk_cell HOr.out.2.2.2.1 1).trans rfl
 by_cases hlt : t < l1_1.length
 rotate_left
 ·have hltb : decide (t < l1_1.length) = false := decide_eq_false hlt
  have hlti : ¬ (t : Int) < (l1_1.length : Int) := by omega
  have h1 := HL.out
  rw [List.drop_of_length_le (by omega), ooAll] at h1
  simp only [Option.some.injEq, Prod.mk.injEq] at h1
  obtain ⟨rfl, rfl, rfl⟩ := h1
  obtain ⟨⟨b, i3, s3⟩, h2a, h2b⟩ := Option.bind_eq_some_iff.1 HEnd.out
  have AO := Aside0.mk h2a
  clear HL h2a HEnd
  cases b
  ·rw [if_neg (by simp)] at h2b
   simp only [Option.some.injEq, Prod.mk.injEq] at h2b
   obtain ⟨rfl, rfl, rfl⟩ := h2b
   go_wp2_with (first | ((with_reducible refine gate_callee (f := 27) rfl ?_); refine goesL_ (some 55) rfl rfl Try.func27 (by kernel_rfl) rfl #[.pointer (some ⟨g, 0, none⟩), .int .i64 10] rfl gmp ?_; refine (spec_l1Cur_one.calls g s0_0 i s 10 false i3 s3 w0 _ HOr.out.1 HOr.out.2.1 AO.out).mono ?_; rintro e w3 ⟨rfl, hi, hb, hk⟩; refine ⟨_, rfl, ?_⟩; have HR3 := Aside0.mk (OrW.row HOr.out HRo.out hk); have HO3 := Aside0.mk (OrW.pick HOr.out hi hb hk); clear hi hb hk))
   go_ret
   exact ⟨_, rfl, HR3.out, HO3.out.1, HO3.out.2.1, HO3.out.2.2.1⟩
  rw [if_pos rfl] at h2b
  obtain ⟨⟨a, i4, s4⟩, h2c, h2d⟩ := Option.bind_eq_some_iff.1 h2b
  have AP := Aside0.mk h2c
  clear h2b h2c
  dsimp only at h2d
  by_cases hin : out.length < 1000
  rotate_left
  ·rw [if_neg hin] at h2d
   cases h2d
  rw [if_pos hin] at h2d
  have HIn := Aside0.mk hin
  clear hin
  simp only [Option.some.injEq, Prod.mk.injEq] at h2d
  obtain ⟨rfl, rfl, rfl⟩ := h2d
  go_wp2_with (first | ((with_reducible refine gate_callee (f := 27) rfl ?_); refine goesL_ (some 55) rfl rfl Try.func27 (by kernel_rfl) rfl #[.pointer (some ⟨g, 0, none⟩), .int .i64 10] rfl gmp ?_; refine (spec_l1Cur_one.calls g s0_0 i s 10 true i3 s3 w0 _ HOr.out.1 HOr.out.2.1 AO.out).mono ?_; rintro e w3 ⟨rfl, hi, hb, hk⟩; refine ⟨_, rfl, ?_⟩; have HR3 := Aside0.mk (OrW.row HOr.out HRo.out hk); have HO3 := Aside0.mk (OrW.pick HOr.out hi hb hk); clear hi hb hk) | ((with_reducible refine gate_callee (f := 25) rfl ?_); refine goesL_ (some 58) rfl rfl Try.func25 (by kernel_rfl) rfl #[.pointer (some ⟨g, 0, none⟩), .int .i64 9] rfl gmp ?_; refine (spec_l1Cur_pick.calls g s0_0 i3 s3 9 a i4 s4 w0 _ HO3.out.1 HO3.out.2.1 AP.out).mono ?_; rintro e w4 ⟨rfl, hi, hb, hk⟩; refine ⟨_, rfl, ?_⟩; have HR4 := Aside0.mk (OrW.row HO3.out HR3.out hk); have HO4 := Aside0.mk (OrW.pick HO3.out hi hb hk); clear hi hb hk) | ((with_reducible refine gate_dst (N := 59) rfl ?_); refine Kd.R_lit (Kd.int .i64) _ 3 ?hg (N := 59) ?hd (xs := ([a] : List Int)) (inner := [.int .i64 a]) (ok := fun _ => True) (okp := fun _ => True) ?hr ?hp (fun _ hk => hk) trivial (Below.refl _ _) (Nat.le_refl _) (by simp) ?_; (case hd => rfl); (case hg => rfl); (case hr => first | (go_simp; done) | (go_simp; rfl)); (case hp => exact (Reps.one (show Kd.M (Kd.int .i64) _ _ _ a [.int .i64 a] from rfl) (Reps.none _ _))); intro v59 w5 h59 hb hg_ hnew_; obtain ⟨A59, c59, rfl⟩ := Kd.R_slice h59; have HL5 := Aside0.mk h59; have HR5 := Aside0.mk (Kd.R_below HR4.out hb); have HO5 := Aside0.mk (OrW.below HO4.out hb); clear h59 hb hg_ hnew_) | ((with_reducible refine gate_builtin (b := .append) (xs := #[.tmp 56, .tmp 59]) rfl ?_); at_builtin; refine Kd.R_append_rows (Kd.int .i64) (w0 := w5) w.heap.size rfl (.tmp 56) (.tmp 59) 27 3 (.int .i64 0) 8 rfl Try.underlying27 info3 rfl (by decide) (by omega) (.slice A5 out.length c5) out [a] _ _ _ (fun _ => True) (fun _ => False) rfl rfl ?aO ?aR (fun _ _ h => h) (fun _ h => h.elim) ?aF ?aB ?aS ?aL ?_; (case aR => exact (Kd.R_reads' HL5.out).2.2); (case aB => exact Below.refl _ _); (case aF => exact (fun _ _ => trivial)); (case aO => exact HR5.out); (case aS => exact HO5.out.2.2.1.1); (case aL => have := HIn.out; simp; omega); intro v60 w6 ho hb hg hat; have HR6 := Aside0.mk ho; have HO6 := Aside0.mk (OrW.grown HO5.out HZ0.out hb hg (IsS39.own_ne HO5.out.1 HR5.out (by decide))); clear ho hb hg hat))
  go_ret
  exact ⟨_, rfl, HR6.out, HO6.out⟩
 have hltb : decide (t < l1_1.length) = true := decide_eq_true hlt
 have hlti : (t : Int) < (l1_1.length : Int) := by omega
 have HLt := Aside0.mk hlt
 obtain ⟨row, hrow⟩ : ∃ r : List Int, r = l1_1.getD t [] := ⟨_, rfl⟩
 have HRow := Aside0.mk hrow
 have hdrop : l1_1.drop t = row :: l1_1.drop (t + 1) := by rw [List.drop_eq_getElem_cons hlt, hrow, Go.Proofs.Ytdooakhjaffcdaa.U.getD_at _ _ _ hlt]
 have HL2 := Aside0.mk (show (ooRow s0_0 row row.length out i s).bind (fun x => ooAll s0_0 (l1_1.drop (t + 1)) x.1 x.2.1 x.2.2) = some (outF, iF, sF) from by have h1 := HL.out; rw [hdrop, ooAll] at h1; exact h1)
 clear HL hdrop hrow
 obtain ⟨ad, Ar, cr, eA, hcell, hcr, hCr⟩ := spec_l1Cur_orderOf.atRow (HT1.out wo HOr.out.2.2.1) t hlt
 cases eA
 rw [← HRow.out] at hcell hcr hCr
 have hln : row.length ≤ 9223372036854775807 := hCr.2.1
 have HLn := Aside0.mk hln
 have hwk : IntKind.i64.wrap ((row.length : Int) - 1) = (row.length : Int) - 1 := (i64_w _).trans (Go.Proofs.Ytdooakhjaffcdaa.U.wr (by omega) (by omega))
 clear hCr hcr hln hlt
 go_wp2
 clear hcell cb1
 go_loopw [5, 7] (fun v5 v7 wq => ∃ (m : Nat) (o2 : List Int) (i2 s2 : Int), v7 = .int .i64 ((m : Int) - 1) ∧ Aside0 (m ≤ row.length) ∧ Aside0 ((ooRow s0_0 row m o2 i2 s2).bind (fun x => ooAll s0_0 (l1_1.drop (t + 1)) x.1 x.2.1 x.2.2) = some (outF, iF, sF)) ∧ Aside0 (Kd.R (Kd.int .i64) 3 wq w.heap.size (fun _ => True) v5 o2) ∧ Aside0 (OrW w0 w wq g gb s0_0 i2 s2 #[.int .i64 a1_0, .slice (some ad) l1_1.length c1_1])) (fun v5 v7 wq => (intOf v7 + 1).toNat)
 case atStart => exact ⟨row.length, out, i, s, by first | rfl | (rw [hwk]), ⟨Nat.le_refl _⟩, HL2, HRo, HOr⟩
 clear HL2 HRo HOr hwk
 obtain ⟨m, o2, i2, s2, rfl, HM, HL3, HRq, HOq⟩ := hrel
 rename World => wq
 obtain ⟨A6, c6, rfl⟩ := Kd.R_slice HRq.out
 cases m with
 | zero =>
  have HL4 := Aside0.mk (show ooAll s0_0 (l1_1.drop (t + 1)) o2 i2 s2 = some (outF, iF, sF) from by have h1 := HL3.out; rw [ooRow, Option.bind_some] at h1; exact h1)
  clear HL3
  go_wp2
  go_roundw
  case rel => exact ⟨t + 1, o2, i2, s2, by first | rfl | go_num, ⟨HLt.out⟩, HL4, HRq, HOq⟩
  case measure => first | (simp [intOf]; done) | (simp [intOf]; omega) | (have := HLt.out; simp [intOf]; omega)
 | succ m =>
  have hti : ((m + 1 : Nat) : Int) - 1 = (m : Int) := by omega
  rw [hti]
  have hge2 : decide ((0 : Int) ≤ (m : Int)) = true := decide_eq_true (by omega)
  have hwm : IntKind.i64.wrap ((m : Int) - 1) = (m : Int) - 1 := (i64_w _).trans (Go.Proofs.Ytdooakhjaffcdaa.U.wr (by omega) (by have := HM.out; have := HLn.out; omega))
  have h3 := HL3.out
  rw [ooRow] at h3
  obtain ⟨x3, h3a, h3c⟩ := Option.bind_eq_some_iff.1 h3
  obtain ⟨⟨b, i3, s3⟩, h3b, h3d⟩ := Option.bind_eq_some_iff.1 h3a
  have AO := Aside0.mk h3b
  clear hti h3 h3a h3b HL3
  cases b
  ·rw [if_neg (by simp)] at h3d
   obtain ⟨⟨a, i4, s4⟩, h3e, h3f⟩ := Option.bind_eq_some_iff.1 h3d
   have AP := Aside0.mk h3e
   clear h3d h3e
   dsimp only at h3f
   by_cases hin : 0 ≤ a ∧ a ≤ (o2.length : Int) ∧ o2.length < 1000
   rotate_left
   ·rw [if_neg hin] at h3f
    cases h3f
   rw [if_pos hin] at h3f
   have HIn := Aside0.mk hin
   have HL5 := Aside0.mk (show (ooRow s0_0 row m (o2.take a.toNat ++ [row.getD m 0] ++ o2.drop a.toNat) i4 s4).bind (fun x => ooAll s0_0 (l1_1.drop (t + 1)) x.1 x.2.1 x.2.2) = some (outF, iF, sF) from by rw [h3f]; exact h3c)
   clear h3c h3f hin
   go_upto_region 10 with (first | ((with_reducible refine gate_callee (f := 27) rfl ?_); refine goesL_ (some 29) rfl rfl Try.func27 (by kernel_rfl) rfl #[.pointer (some ⟨g, 0, none⟩), .int .i64 4] rfl gmp ?_; refine (spec_l1Cur_one.calls g s0_0 i2 s2 4 false i3 s3 w0 _ HOq.out.1 HOq.out.2.1 AO.out).mono ?_; rintro e w3 ⟨rfl, hi, hb, hk⟩; refine ⟨_, rfl, ?_⟩; have HR3 := Aside0.mk (OrW.row HOq.out HRq.out hk); have HO3 := Aside0.mk (OrW.pick HOq.out hi hb hk); clear hi hb hk) | ((with_reducible refine gate_callee (f := 25) rfl ?_); refine goesL_ (some 34) rfl rfl Try.func25 (by kernel_rfl) rfl #[.pointer (some ⟨g, 0, none⟩), .int .i64 (wrap64 ((o2.length : Int) + 1))] rfl gmp ?_; refine (spec_l1Cur_pick.calls g s0_0 i3 s3 (wrap64 ((o2.length : Int) + 1)) a i4 s4 w0 _ HO3.out.1 HO3.out.2.1 AP.out).mono ?_; rintro e w4 ⟨rfl, hi, hb, hk⟩; refine ⟨_, rfl, ?_⟩; have HR4 := Aside0.mk (OrW.row HO3.out HR3.out hk); have HO4 := Aside0.mk (OrW.pick HO3.out hi hb hk); clear hi hb hk))
   have hm : m < row.length := by have := HM.out; omega
   obtain ⟨ad2, Aq, cq, eA2, hcell, hcr, hCq⟩ := spec_l1Cur_orderOf.atRow (HT1.out w4 HO4.out.2.2.1) t HLt.out
   cases eA2
   rw [← HRow.out] at hcell hcr hCq
   obtain ⟨adr, eq2, hel⟩ := spec_l1Cur_orderOf.atInt hCq m hm
   cases eq2
   obtain ⟨x, hx⟩ : ∃ y : Int, y = row.getD m 0 := ⟨_, rfl⟩
   rw [← hx] at hel
   have HXx := Aside0.mk hx
   have hmb : decide (m < row.length) = true := decide_eq_true hm
   have hmi : (m : Int) < (row.length : Int) := by omega
   obtain ⟨i0, hi0, _, hsz0, _⟩ := info_parts info3
   obtain ⟨hcutA, hA, hCa⟩ := print_take_of (P := Try.prog) (Value.int .i64) 0 27 3 .i64 Try.underlying27 hi0 hsz0 A6 c6 o2 a HIn.out.1 HIn.out.2.1 (Kd.R_reads' HR4.out).2.1
   obtain ⟨A7, hcutB, hB, hCb⟩ := print_drop_of (P := Try.prog) (Value.int .i64) 0 27 3 .i64 Try.underlying27 hi0 hsz0 A6 c6 o2 a HIn.out.1 HIn.out.2.1 (Kd.R_reads' HR4.out).2.1
   obtain ⟨y1, hy1⟩ : ∃ y : List Int, y = o2.take a.toNat := ⟨_, rfl⟩
   obtain ⟨y2, hy2⟩ : ∃ y : List Int, y = o2.drop a.toNat := ⟨_, rfl⟩
   rw [← hy1] at hcutA hA hCa
   rw [← hy2] at hcutB hB hCb
   have hl1 : y1.length ≤ 1000 := by rw [hy1, List.length_take]; have := HIn.out.2.2; omega
   have hl2 : y2.length ≤ 1000 := by rw [hy2, List.length_drop]; have := HIn.out.2.2; omega
   have HY := Aside0.mk (show y1 ++ [x] ++ y2 = o2.take a.toNat ++ [row.getD m 0] ++ o2.drop a.toNat from by rw [hy1, hy2, hx])
   have HA := Aside0.mk hA
   have HBd := Aside0.mk hB
   have HLl := Aside0.mk (⟨hl1, hl2⟩ : y1.length ≤ 1000 ∧ y2.length ≤ 1000)
   have KC := Aside0.mk (show w4.drew.cell? ⟨gb, 1, none⟩ = some (.slice (some ad) l1_1.length c1_1) ∧ w4.drew.cell? (ad.add t) = some (.slice (some adr) row.length cq) ∧ w4.drew.cell? (adr.add m) = some (.int .i64 x) from ⟨(blk_cell HO4.out.2.2.2.1 1).trans rfl, hcell, hel⟩)
   have HS0 := Aside0.mk (OrW.drew HO4.out)
   have HR0 := Aside0.mk (Kd.R_drew HR4.out)
   clear hx hy1 hy2 hA hB hCa hCb hl1 hl2 hcell hel hcr hCq hm hi0 hsz0 HO4 HR4 HO3 HR3
   refine start_ (n := 20) (S := fun w' => w'.cell? ⟨gb, 1, none⟩ = some (.slice (some ad) l1_1.length c1_1) ∧ w'.cell? (ad.add t) = some (.slice (some adr) row.length cq) ∧ w'.cell? (adr.add m) = some (.int .i64 x)) (ds := []) #[false, false, false, false, false, false, false, false, false, false, false, false, false, false, false, false, false, false, false, false] (by kernel_rfl) rfl rfl KC.out (fun hHeld => ?_)
   refine with_tabW spec_l1Cur_orderOf.tab10 spec_l1Cur_orderOf.bits10 (fun HT_ HW_ => ?_)
   generalize w4.drew = W0 at HS0 HR0 KC hHeld ⊢
   refine pure_ (i := 1) (N := some 36) (v := ?_) (a' := ?_) #[false, true, false, false, false, false, false, false, false, false, false, false, false, false, false, false, false, false, false, false] rfl rfl (any_of HT_.out (by kernel_rfl)) (fun _ _ _ h => h) (Or.inl ⟨by rfl, ?_⟩) ?_ ?_
   rotate_left
   ·intro w'
    go_simp
    with_reducible rfl
   rotate_left
   ·simp only [putS]
    rfl
   refine pure_ (i := 2) (N := some 37) (v := ?_) (a' := ?_) #[false, true, true, false, false, false, false, false, false, false, false, false, false, false, false, false, false, false, false, false] rfl rfl (any_of HT_.out (by kernel_rfl)) (fun _ _ _ h => h) (Or.inl ⟨by rfl, ?_⟩) ?_ ?_
   rotate_left
   ·intro w'
    go_simp
    with_reducible rfl
   rotate_left
   ·simp only [putS]
    rfl
   refine pure_ (i := 3) (N := some 38) (v := ?_) (a' := ?_) #[false, true, true, true, false, false, false, false, false, false, false, false, false, false, false, false, false, false, false, false] rfl rfl (any_of HT_.out (by kernel_rfl)) (fun _ _ _ h => h) (Or.inl ⟨by rfl, ?_⟩) ?_ ?_
   rotate_left
   ·intro w'
    go_simp
    with_reducible rfl
   rotate_left
   ·simp only [putS]
    rfl
   refine pure_ (i := 5) (N := some 40) (v := ?_) (a' := ?_) #[false, true, true, true, false, true, false, false, false, false, false, false, false, false, false, false, false, false, false, false] rfl rfl (any_of HT_.out (by kernel_rfl)) (fun _ _ _ h => h) (Or.inl ⟨by rfl, ?_⟩) ?_ ?_
   rotate_left
   ·intro w'
    go_simp
    with_reducible rfl
   rotate_left
   ·simp only [putS]
    rfl
   refine pure_ (i := 7) (N := some 42) (v := ?_) (a' := ?_) #[false, true, true, true, false, true, false, true, false, false, false, false, false, false, false, false, false, false, false, false] rfl rfl (any_of HT_.out (by kernel_rfl)) (fun _ _ _ h => h) (Or.inl ⟨by rfl, ?_⟩) ?_ ?_
   rotate_left
   ·intro w'
    go_simp
    with_reducible rfl
   rotate_left
   ·simp only [putS]
    rfl
   refine pure_ (i := 10) (N := some 45) (v := ?_) (a' := ?_) #[false, true, true, true, false, true, false, true, false, false, true, false, false, false, false, false, false, false, false, false] rfl rfl (any_of HT_.out (by kernel_rfl)) (fun _ _ _ h => h) (Or.inl ⟨by rfl, ?_⟩) ?_ ?_
   rotate_left
   ·intro w'
    go_simp
    with_reducible rfl
   rotate_left
   ·simp only [putS]
    rfl
   refine pure_ (i := 15) (N := some 50) (v := ?_) (a' := ?_) #[false, true, true, true, false, true, false, true, false, false, true, false, false, false, false, true, false, false, false, false] rfl rfl (any_of HT_.out (by kernel_rfl)) (fun _ _ _ h => h) (Or.inl ⟨by rfl, ?_⟩) ?_ ?_
   rotate_left
   ·intro w'
    go_simp
    with_reducible rfl
   rotate_left
   ·simp only [putS]
    rfl
   refine pure_ (i := 16) (N := some 51) (v := ?_) (a' := ?_) #[false, true, true, true, false, true, false, true, false, false, true, false, false, false, false, true, true, false, false, false] rfl rfl (any_of HT_.out (by kernel_rfl)) (fun _ _ _ h => h) (Or.inl ⟨by rfl, ?_⟩) ?_ ?_
   rotate_left
   ·intro w'
    go_simp
    with_reducible rfl
   rotate_left
   ·simp only [putS]
    rfl
   refine pure_ (i := 17) (N := some 52) (v := ?_) (a' := ?_) #[false, true, true, true, false, true, false, true, false, false, true, false, false, false, false, true, true, true, false, false] rfl rfl (any_of HT_.out (by kernel_rfl)) (fun _ _ _ h => h) (Or.inl ⟨by rfl, ?_⟩) ?_ ?_
   rotate_left
   ·intro w'
    go_simp
    with_reducible rfl
   rotate_left
   ·simp only [putS]
    rfl
   refine take_ (i := 6) (N := some 41) (v := ?_) (a' := ?_) #[false, true, true, true, false, true, true, true, false, false, true, false, false, false, false, true, true, true, false, false] rfl rfl (take_ofW HT_.out HW_.out (by kernel_rfl)) (fun _ _ _ h => h) (Or.inl ⟨by rfl, ?_⟩) hHeld ?_ ?_
   rotate_left
   ·rintro w' ⟨q0, q1, q2⟩
    go_simp
    with_reducible rfl
   rotate_left
   ·simp only [putS]
    rfl
   refine pure_ (i := 8) (N := some 43) (v := ?_) (a' := ?_) #[false, true, true, true, false, true, true, true, true, false, true, false, false, false, false, true, true, true, false, false] rfl rfl (any_of HT_.out (by kernel_rfl)) (fun _ _ _ h => h) (Or.inl ⟨by rfl, ?_⟩) ?_ ?_
   rotate_left
   ·intro w'
    go_simp
    with_reducible rfl
   rotate_left
   ·simp only [putS]
    rfl
   refine take_ (i := 9) (N := some 44) (v := ?_) (a' := ?_) #[false, true, true, true, false, true, true, true, true, true, true, false, false, false, false, true, true, true, false, false] rfl rfl (take_ofW HT_.out HW_.out (by kernel_rfl)) (fun _ _ _ h => h) (Or.inl ⟨by rfl, ?_⟩) hHeld ?_ ?_
   rotate_left
   ·rintro w' ⟨q0, q1, q2⟩
    go_simp
    with_reducible rfl
   rotate_left
   ·simp only [putS]
    rfl
   refine pure_ (i := 11) (N := some 46) (v := ?_) (a' := ?_) #[false, true, true, true, false, true, true, true, true, true, true, true, false, false, false, true, true, true, false, false] rfl rfl (any_of HT_.out (by kernel_rfl)) (fun _ _ _ h => h) (Or.inl ⟨by rfl, ?_⟩) ?_ ?_
   rotate_left
   ·intro w'
    go_simp
    with_reducible rfl
   rotate_left
   ·simp only [putS]
    rfl
   refine take_ (i := 12) (N := some 47) (v := ?_) (a' := ?_) #[false, true, true, true, false, true, true, true, true, true, true, true, true, false, false, true, true, true, false, false] rfl rfl (take_ofW HT_.out HW_.out (by kernel_rfl)) (fun _ _ _ h => h) (Or.inl ⟨by rfl, ?_⟩) hHeld ?_ ?_
   rotate_left
   ·rintro w' ⟨q0, q1, q2⟩
    go_simp
    with_reducible rfl
   rotate_left
   ·simp only [putS]
    rfl
   refine join_ (σ := Value × Value × Value) 3 #[true, true, true, true, true, true, true, true, true, true, true, true, true, true, false, true, true, true, false, false] (fun s_ => [(35, s_.1), (39, s_.2.1), (48, s_.2.2)]) (fun s_ w' => Kd.R (Kd.int .i64) 3 w' W0.heap.size (fun _ => True) s_.2.1 y1 ∧ Kd.R (Kd.int .i64) 3 w' W0.heap.size (fun _ => True) s_.2.2 [x] ∧ Below W0.heap.size W0 w') ?_ ?_
   rotate_left
   ·intro hCont
    refine two_ (i := 0) (j := 13) (Ni := some 35) (Nj := some 48) #[true, true, true, true, false, true, true, true, true, true, true, true, true, false, false, true, true, true, false, false] #[false, true, true, true, false, true, true, true, true, true, true, true, true, true, false, true, true, true, false, false] rfl rfl rfl rfl (two_of HT_.out (by kernel_rfl)) (by decide) (by decide) (fun K hK => ?_) (fun K hK => ?_)
    ·refine Kd.R_lit_step (Kd.int .i64) _ 3 ?hg (N := 35) ?hd (xs := ([] : List Int)) (inner := []) (ok := fun _ => True) (okp := fun _ => True) ?hr ?hp (fun _ hk => hk) trivial (Below.refl _ _) (Nat.le_refl _) (by simp) ?_; (case hd => rfl); (case hg => rfl); (case hr => first | (go_simp; done) | (go_simp; rfl)); (case hp => exact (Reps.none _ _))
     intro v35 W1 h35 hb35 hg_ hnew_
     clear hg_ hnew_
     refine hK.out _ _ ⟨(hb35.cell (World.block_lt_of_cell? _ _ KC.out.1)).trans KC.out.1, (hb35.cell (World.block_lt_of_cell? _ _ KC.out.2.1)).trans KC.out.2.1, (hb35.cell (World.block_lt_of_cell? _ _ KC.out.2.2)).trans KC.out.2.2⟩ (fun hHeld => ?_)
     clear hK K
     refine norm_ (a' := ?_) ?_ ?_
     rotate_left
     ·show Act.put _ (some 35) _ = _
      simp only [putS]
      rfl
     refine two_ (i := 4) (j := 13) (Ni := some 39) (Nj := some 48) #[true, true, true, true, true, true, true, true, true, true, true, true, true, false, false, true, true, true, false, false] #[true, true, true, true, false, true, true, true, true, true, true, true, true, true, false, true, true, true, false, false] rfl rfl rfl rfl (two_of HT_.out (by kernel_rfl)) (by decide) (by decide) (fun K hK => ?_) (fun K hK => ?_)
     ·refine Kd.R_append_rows_step (Kd.int .i64) (w0 := W0) W0.heap.size (by rfl) (.tmp 35) (.tmp 38) 27 3 (.int .i64 0) 8 rfl Try.underlying27 info3 rfl (by decide) (by omega) v35 [] y1 _ _ _ (fun _ => True) (fun _ => False) rfl rfl ?aO ?aR (fun _ _ h => h) (fun _ h => h.elim) ?aF ?aB ?aS ?aL ?_
      (case aR => exact Kd.C_below (Kd.C_of_reads (HA.out _ (Kd.reads_of_C (Kd.R_reads' HR0.out).2.2))) hb35)
      (case aB => exact hb35)
      (case aF => exact fun _ _ => trivial)
      (case aO => exact h35)
      (case aS => exact below_size hb35)
      (case aL => have := HLl.out; simp; omega)
      intro v39 W2 h39 hb39 hg39 hat_
      clear hat_
      refine hK.out _ _ ⟨(hb39.cell (World.block_lt_of_cell? _ _ KC.out.1)).trans KC.out.1, (hb39.cell (World.block_lt_of_cell? _ _ KC.out.2.1)).trans KC.out.2.1, (hb39.cell (World.block_lt_of_cell? _ _ KC.out.2.2)).trans KC.out.2.2⟩ (fun hHeld => ?_)
      clear hK K
      refine norm_ (a' := ?_) ?_ ?_
      rotate_left
      ·show Act.put _ (some 39) _ = _
       simp only [putS]
       rfl
      refine one_ (i := 13) (N := some 48) #[true, true, true, true, true, true, true, true, true, true, true, true, true, true, false, true, true, true, false, false] rfl rfl (one_of HT_.out (by kernel_rfl)) (by decide) (fun K hK => ?_)
      refine Kd.R_lit_step (Kd.int .i64) _ 3 ?hg (N := 48) ?hd (xs := ([x] : List Int)) (inner := [.int .i64 x]) (ok := fun _ => True) (okp := fun _ => True) ?hr ?hp (fun _ hk => hk) trivial (Below.refl _ _) (Nat.le_refl _) (by simp) ?_; (case hd => rfl); (case hg => rfl); (case hr => first | (go_simp; done) | (go_simp; rfl)); (case hp => exact (Reps.one (show Kd.M (Kd.int .i64) _ _ _ x [.int .i64 x] from rfl) (Reps.none _ _)))
      intro v48 W3 h48 hb48 hg_ hnew_
      clear hg_ hnew_
      have hb3 := below_step hb39 hb48
      refine hK.out _ _ ⟨(hb3.cell (World.block_lt_of_cell? _ _ KC.out.1)).trans KC.out.1, (hb3.cell (World.block_lt_of_cell? _ _ KC.out.2.1)).trans KC.out.2.1, (hb3.cell (World.block_lt_of_cell? _ _ KC.out.2.2)).trans KC.out.2.2⟩ (fun hHeld => ?_)
      clear hK K
      refine norm_ (a' := ?_) ?_ ?_
      rotate_left
      ·show Act.put _ (some 48) _ = _
       simp only [putS]
       rfl
      exact norm_ (by simp only [putAll, Act.put, List.setIfInBounds_toArray, List.set_cons_zero, List.set_cons_succ]) (hCont (v35, v39, v48) _ ⟨Kd.R_below h39 hb48, Kd.R_lower h48 (below_size hb39), hb3⟩)
     refine Kd.R_lit_step (Kd.int .i64) _ 3 ?hg (N := 48) ?hd (xs := ([x] : List Int)) (inner := [.int .i64 x]) (ok := fun _ => True) (okp := fun _ => True) ?hr ?hp (fun _ hk => hk) trivial (Below.refl _ _) (Nat.le_refl _) (by simp) ?_; (case hd => rfl); (case hg => rfl); (case hr => first | (go_simp; done) | (go_simp; rfl)); (case hp => exact (Reps.one (show Kd.M (Kd.int .i64) _ _ _ x [.int .i64 x] from rfl) (Reps.none _ _)))
     intro v48 W2 h48 hb48 hg_ hnew_
     clear hg_ hnew_
     have hb2 := below_step hb35 hb48
     refine hK.out _ _ ⟨(hb2.cell (World.block_lt_of_cell? _ _ KC.out.1)).trans KC.out.1, (hb2.cell (World.block_lt_of_cell? _ _ KC.out.2.1)).trans KC.out.2.1, (hb2.cell (World.block_lt_of_cell? _ _ KC.out.2.2)).trans KC.out.2.2⟩ (fun hHeld => ?_)
     clear hK K
     refine norm_ (a' := ?_) ?_ ?_
     rotate_left
     ·show Act.put _ (some 48) _ = _
      simp only [putS]
      rfl
     refine one_ (i := 4) (N := some 39) #[true, true, true, true, true, true, true, true, true, true, true, true, true, true, false, true, true, true, false, false] rfl rfl (one_of HT_.out (by kernel_rfl)) (by decide) (fun K hK => ?_)
     refine Kd.R_append_rows_step (Kd.int .i64) (w0 := W0) W0.heap.size (by rfl) (.tmp 35) (.tmp 38) 27 3 (.int .i64 0) 8 rfl Try.underlying27 info3 rfl (by decide) (by omega) v35 [] y1 _ _ _ (fun _ => True) (fun _ => False) rfl rfl ?aO ?aR (fun _ _ h => h) (fun _ h => h.elim) ?aF ?aB ?aS ?aL ?_
     (case aR => exact Kd.C_below (Kd.C_of_reads (HA.out _ (Kd.reads_of_C (Kd.R_reads' HR0.out).2.2))) hb2)
     (case aB => exact hb2)
     (case aF => exact fun _ _ => trivial)
     (case aO => exact Kd.R_below h35 hb48)
     (case aS => exact below_size hb2)
     (case aL => have := HLl.out; simp; omega)
     intro v39 W3 h39 hb39 hg39 hat_
     clear hat_
     refine hK.out _ _ ⟨(hb39.cell (World.block_lt_of_cell? _ _ KC.out.1)).trans KC.out.1, (hb39.cell (World.block_lt_of_cell? _ _ KC.out.2.1)).trans KC.out.2.1, (hb39.cell (World.block_lt_of_cell? _ _ KC.out.2.2)).trans KC.out.2.2⟩ (fun hHeld => ?_)
     clear hK K
     refine norm_ (a' := ?_) ?_ ?_
     rotate_left
     ·show Act.put _ (some 39) _ = _
      simp only [putS]
      rfl
     exact norm_ (by simp only [putAll, Act.put, List.setIfInBounds_toArray, List.set_cons_zero, List.set_cons_succ]) (hCont (v35, v39, v48) _ ⟨h39, oo_apart (Wa := W0) (p := [x]) (q := []) (Kd.R_lower h48 (below_size hb35)) (fun k h1 h2 => oo_ne h35 h48 k h2 h1) hg39, hb39⟩)
    refine Kd.R_lit_step (Kd.int .i64) _ 3 ?hg (N := 48) ?hd (xs := ([x] : List Int)) (inner := [.int .i64 x]) (ok := fun _ => True) (okp := fun _ => True) ?hr ?hp (fun _ hk => hk) trivial (Below.refl _ _) (Nat.le_refl _) (by simp) ?_; (case hd => rfl); (case hg => rfl); (case hr => first | (go_simp; done) | (go_simp; rfl)); (case hp => exact (Reps.one (show Kd.M (Kd.int .i64) _ _ _ x [.int .i64 x] from rfl) (Reps.none _ _)))
    intro v48 W1 h48 hb48 hg_ hnew_
    clear hg_ hnew_
    refine hK.out _ _ ⟨(hb48.cell (World.block_lt_of_cell? _ _ KC.out.1)).trans KC.out.1, (hb48.cell (World.block_lt_of_cell? _ _ KC.out.2.1)).trans KC.out.2.1, (hb48.cell (World.block_lt_of_cell? _ _ KC.out.2.2)).trans KC.out.2.2⟩ (fun hHeld => ?_)
    clear hK K
    refine norm_ (a' := ?_) ?_ ?_
    rotate_left
    ·show Act.put _ (some 48) _ = _
     simp only [putS]
     rfl
    refine one_ (i := 0) (N := some 35) #[true, true, true, true, false, true, true, true, true, true, true, true, true, true, false, true, true, true, false, false] rfl rfl (one_of HT_.out (by kernel_rfl)) (by decide) (fun K hK => ?_)
    refine Kd.R_lit_step (Kd.int .i64) _ 3 ?hg (N := 35) ?hd (xs := ([] : List Int)) (inner := []) (ok := fun _ => True) (okp := fun _ => True) ?hr ?hp (fun _ hk => hk) trivial (Below.refl _ _) (Nat.le_refl _) (by simp) ?_; (case hd => rfl); (case hg => rfl); (case hr => first | (go_simp; done) | (go_simp; rfl)); (case hp => exact (Reps.none _ _))
    intro v35 W2 h35 hb35 hg_ hnew_
    clear hg_ hnew_
    have hb2 := below_step hb48 hb35
    refine hK.out _ _ ⟨(hb2.cell (World.block_lt_of_cell? _ _ KC.out.1)).trans KC.out.1, (hb2.cell (World.block_lt_of_cell? _ _ KC.out.2.1)).trans KC.out.2.1, (hb2.cell (World.block_lt_of_cell? _ _ KC.out.2.2)).trans KC.out.2.2⟩ (fun hHeld => ?_)
    clear hK K
    refine norm_ (a' := ?_) ?_ ?_
    rotate_left
    ·show Act.put _ (some 35) _ = _
     simp only [putS]
     rfl
    refine one_ (i := 4) (N := some 39) #[true, true, true, true, true, true, true, true, true, true, true, true, true, true, false, true, true, true, false, false] rfl rfl (one_of HT_.out (by kernel_rfl)) (by decide) (fun K hK => ?_)
    refine Kd.R_append_rows_step (Kd.int .i64) (w0 := W0) W0.heap.size (by rfl) (.tmp 35) (.tmp 38) 27 3 (.int .i64 0) 8 rfl Try.underlying27 info3 rfl (by decide) (by omega) v35 [] y1 _ _ _ (fun _ => True) (fun _ => False) rfl rfl ?aO ?aR (fun _ _ h => h) (fun _ h => h.elim) ?aF ?aB ?aS ?aL ?_
    (case aR => exact Kd.C_below (Kd.C_of_reads (HA.out _ (Kd.reads_of_C (Kd.R_reads' HR0.out).2.2))) hb2)
    (case aB => exact hb2)
    (case aF => exact fun _ _ => trivial)
    (case aO => exact Kd.R_lower h35 (below_size hb48))
    (case aS => exact below_size hb2)
    (case aL => have := HLl.out; simp; omega)
    intro v39 W3 h39 hb39 hg39 hat_
    clear hat_
    refine hK.out _ _ ⟨(hb39.cell (World.block_lt_of_cell? _ _ KC.out.1)).trans KC.out.1, (hb39.cell (World.block_lt_of_cell? _ _ KC.out.2.1)).trans KC.out.2.1, (hb39.cell (World.block_lt_of_cell? _ _ KC.out.2.2)).trans KC.out.2.2⟩ (fun hHeld => ?_)
    clear hK K
    refine norm_ (a' := ?_) ?_ ?_
    rotate_left
    ·show Act.put _ (some 39) _ = _
     simp only [putS]
     rfl
    exact norm_ (by simp only [putAll, Act.put, List.setIfInBounds_toArray, List.set_cons_zero, List.set_cons_succ]) (hCont (v35, v39, v48) _ ⟨h39, oo_apart (Wa := W0) (p := [x]) (q := []) (Kd.R_below h48 hb35) (oo_ne h48 h35) hg39, hb39⟩)
   rintro ⟨v35, v39, v48⟩ W3 ⟨h39, h48, hb3⟩
   refine norm_ (a' := ?_) ?_ ?_
   rotate_left
   ·simp only [putAll, Act.put, List.setIfInBounds_toArray, List.set_cons_zero, List.set_cons_succ]
    rfl
   obtain ⟨A48, c48, e48⟩ := Kd.R_slice h48
   subst e48
   refine one_ (i := 14) (N := some 49) #[true, true, true, true, true, true, true, true, true, true, true, true, true, true, true, true, true, true, false, false] rfl rfl (one_of HT_.out (by kernel_rfl)) (by decide) (fun K hK => ?_)
   refine Kd.R_append_rows_step (Kd.int .i64) (w0 := W0) W0.heap.size (by rfl) (.tmp 39) (.tmp 48) 27 3 (.int .i64 0) 8 rfl Try.underlying27 info3 rfl (by decide) (by omega) v39 y1 [x] _ _ _ (fun _ => True) (fun _ => False) rfl rfl ?aO ?aR (fun _ _ h => h) (fun _ h => h.elim) ?aF ?aB ?aS ?aL ?_
   (case aR => exact (Kd.R_reads' h48).2.2)
   (case aB => exact hb3)
   (case aF => exact fun _ _ => trivial)
   (case aO => exact h39)
   (case aS => exact below_size hb3)
   (case aL => have := HLl.out; simp; omega)
   intro v49 W4 h49 hb49 hg49 hat_
   clear hat_
   refine hK.out _ _ ⟨(hb49.cell (World.block_lt_of_cell? _ _ KC.out.1)).trans KC.out.1, (hb49.cell (World.block_lt_of_cell? _ _ KC.out.2.1)).trans KC.out.2.1, (hb49.cell (World.block_lt_of_cell? _ _ KC.out.2.2)).trans KC.out.2.2⟩ (fun hHeld => ?_)
   clear hK K
   refine norm_ (a' := ?_) ?_ ?_
   rotate_left
   ·show Act.put _ (some 49) _ = _
    simp only [putS]
    rfl
   refine one_ (i := 18) (N := some 53) #[true, true, true, true, true, true, true, true, true, true, true, true, true, true, true, true, true, true, true, false] rfl rfl (one_of HT_.out (by kernel_rfl)) (by decide) (fun K hK => ?_)
   refine Kd.R_append_rows_step (Kd.int .i64) (w0 := W0) W0.heap.size (by rfl) (.tmp 49) (.tmp 52) 27 3 (.int .i64 0) 8 rfl Try.underlying27 info3 rfl (by decide) (by omega) v49 (y1 ++ [x]) y2 _ _ _ (fun _ => True) (fun _ => False) rfl rfl ?aO ?aR (fun _ _ h => h) (fun _ h => h.elim) ?aF ?aB ?aS ?aL ?_
   (case aR => exact Kd.C_below (Kd.C_of_reads (HBd.out _ (Kd.reads_of_C (Kd.R_reads' HR0.out).2.2))) hb49)
   (case aB => exact hb49)
   (case aF => exact fun _ _ => trivial)
   (case aO => exact h49)
   (case aS => exact below_size hb49)
   (case aL => have := HLl.out; simp; omega)
   intro v53 W5 h53 hb53 hg53 hat_
   clear hat_
   refine hK.out _ _ ⟨(hb53.cell (World.block_lt_of_cell? _ _ KC.out.1)).trans KC.out.1, (hb53.cell (World.block_lt_of_cell? _ _ KC.out.2.1)).trans KC.out.2.1, (hb53.cell (World.block_lt_of_cell? _ _ KC.out.2.2)).trans KC.out.2.2⟩ (fun hHeld => ?_)
   clear hK K
   refine norm_ (a' := ?_) ?_ ?_
   rotate_left
   ·show Act.put _ (some 53) _ = _
    simp only [putS]
    rfl
   refine pure_ (i := 19) (N := some 5) (v := ?_) (a' := ?_) #[true, true, true, true, true, true, true, true, true, true, true, true, true, true, true, true, true, true, true, true] rfl rfl (any_of HT_.out (by kernel_rfl)) (fun _ _ _ h => h) (Or.inl ⟨by rfl, ?_⟩) ?_ ?_
   rotate_left
   ·intro w'
    go_simp
    with_reducible rfl
   rotate_left
   ·simp only [putS]
    rfl
   refine done_ (done_of HT_.out (by kernel_rfl)) ?_
   clear hHeld HT_ HW_
   have HOF := Aside0.mk (OrW.below HS0.out hb53)
   have HRF := Aside0.mk (show Kd.R (Kd.int .i64) 3 W5 w.heap.size (fun _ => True) v53 (o2.take a.toNat ++ [row.getD m 0] ++ o2.drop a.toNat) from by rw [← HY.out]; exact Kd.R_lower h53 HS0.out.2.2.1.1)
   clear h39 h48 h49 h53 hb3 hb49 hb53 hg49 hg53 HS0 HR0 KC hcutA hcutB
   go_wp2
   go_roundw
   case rel => exact ⟨m, _, i4, s4, by first | rfl | (rw [hwm]), ⟨by have := HM.out; omega⟩, HL5, HRF, HOF⟩
   case measure => first | (simp [intOf]; done) | (simp [intOf]; omega)
  rw [if_pos rfl] at h3d
  have HL5 := Aside0.mk (show (ooRow s0_0 row m o2 i3 s3).bind (fun x => ooAll s0_0 (l1_1.drop (t + 1)) x.1 x.2.1 x.2.2) = some (outF, iF, sF) from by rw [h3d]; exact h3c)
  clear h3c h3d
  go_wp2_with (first | ((with_reducible refine gate_callee (f := 27) rfl ?_); refine goesL_ (some 29) rfl rfl Try.func27 (by kernel_rfl) rfl #[.pointer (some ⟨g, 0, none⟩), .int .i64 4] rfl gmp ?_; refine (spec_l1Cur_one.calls g s0_0 i2 s2 4 true i3 s3 w0 _ HOq.out.1 HOq.out.2.1 AO.out).mono ?_; rintro e w3 ⟨rfl, hi, hb, hk⟩; refine ⟨_, rfl, ?_⟩; have HR3 := Aside0.mk (OrW.row HOq.out HRq.out hk); have HO3 := Aside0.mk (OrW.pick HOq.out hi hb hk); clear hi hb hk))
  go_roundw
  case rel => exact ⟨m, o2, i3, s3, by first | rfl | (rw [hwm]), ⟨by have := HM.out; omega⟩, HL5, HR3, HO3⟩
  case measure => first | (simp [intOf]; done) | (simp [intOf]; omega)
end Go.Proofs.Ytdooakhjaffcdaa.P
