-- Written by a program of this session over the translation (a variant of the printer, see wip/gen); Lean checks it.
import Derived.Test.YtipahijdcgoemaaPx0
import Derived.Test.YtipahijdcgoemaaPx18
import Derived.Test.YtipahijdcgoemaaU
import Derived.Deep.DeepAppendRoom
import Derived.ArgAppend
import Derived.Laws.EntriesVeiled
namespace Go.Proofs.Ytipahijdcgoemaa.P
open Go.RowKit Go.Proofs.YtipahijdcgoemaaW.PrintWords Go.Proofs.YtipahijdcgoemaaW.PrintLast Go.Proofs.YtipahijdcgoemaaW.PrintMore
attribute [local go_sem] Go.Proofs.Ytipahijdcgoemaa.V.isSome_setCell max2_int min2_int max_two min_two max_three min_three max_four min_four
set_option linter.unusedVariables false
set_option linter.unusedSimpArgs false
/-! ### impl_choices: function 39 -/
theorem b0 {n : Nat} {W W' : World} (h : Below n W W') : Below 0 W W' := h.mono (Nat.zero_le _)
theorem b0g {W W' : World} {r : Option Nat} (h : W.grownBy W' r) : Below 0 W W' := ⟨h.os, h.tape, h.output, h.size, fun _ hk => absurd hk (Nat.not_lt_zero _)⟩
theorem b0d {W W1 : World} (h : Below 0 W W1) : Below 0 W W1.drew := ⟨h.os, h.tape, h.output, h.size, fun _ hk => absurd hk (Nat.not_lt_zero _)⟩
/-- One number more on a list: what the longer list gives back to the elder one. -/
theorem append_keep {P : Program} {W : World} (base t ty e : Nat) (bytes : Nat) (ht : P.underlying t = some (.slice e)) (hinfo : (P.info? e).map (fun i => (i.zero, i.size, i.bytes)) = some (some (.int .i64 0), 1, bytes)) (hb0 : 0 < bytes)
    (v : Value) (xs : List Int) (y : Int) (ad : Addr) (c : Nat) (HO : Kd.R (Kd.int .i64) e W base (fun _ => True) v xs) (hx : W.cell? ad = some (.int .i64 y)) (hbase : base ≤ W.heap.size) (hl : (xs.length + 1) * bytes ≤ 140737488355328) :
    ∃ v1 w1, (Builtin.append_ #[t, t] ty #[v, .slice (some ad) 1 c]).run P W = .ok v1 w1 ∧ Kd.R (Kd.int .i64) e w1 base (fun _ => True) v1 (xs ++ [y]) ∧ Below 0 W w1 ∧ (∀ k, k < W.heap.size → some k ≠ v1.ownBlock → w1.heap[k]? = W.heap[k]?) ∧
      (v1.ownBlock = v.ownBlock ∨ ∃ b, v1.ownBlock = some b ∧ W.heap.size ≤ b) ∧ (∀ W2, Kd.R (Kd.int .i64) e W2 base (fun _ => True) v1 (xs ++ [y]) → (∀ k, some k = v.ownBlock → some k ≠ v1.ownBlock → W2.heap[k]? = W.heap[k]?) → Kd.R (Kd.int .i64) e W2 base (fun _ => True) v xs) := by
 obtain ⟨i0, hi, hzz⟩ := Option.map_eq_some_iff.1 hinfo
 simp only [Prod.mk.injEq] at hzz
 obtain ⟨hz0, hz1, hz2⟩ := hzz
 have hn1 : xs.length + 1 ≤ 140737488355328 := Nat.le_trans (Nat.le_mul_of_pos_right _ hb0) hl
 have hown : W.ownsRow base e 1 v xs.length (xs.map (Value.int .i64)) := Kd.own_of_R HO
 have hnews : ∀ j u, [Value.int .i64 y][j]? = some u → W.cell? (ad.add j) = some u := by
   intro j u hj
   have hj0 : j = 0 := by have := (List.getElem?_eq_some_iff.1 hj).1; simp at this; omega
   subst hj0
   have hu : u = .int .i64 y := by simpa using hj.symm
   subst hu
   have : ad.add 0 = ad := by unfold Addr.add; split <;> simp_all
   rw [this]; exact hx
 have h1 : ∀ u ∈ [Value.int .i64 y], u.oneCell' = true := by intro u hu; rw [List.mem_singleton] at hu; subst hu; rfl
 have hR : ∀ {w1 : World} {v1 : Value} {b : Nat} {zs : List Int}, base ≤ b → w1.ownsRow b e 1 v1 zs.length (zs.map (Value.int .i64)) → Kd.R (Kd.int .i64) e w1 base (fun _ => True) v1 zs := fun hb h => Kd.R_lower (Kd.R_of_own h (fun _ _ => trivial)) hb
 have hmap : xs.map (Value.int .i64) ++ [Value.int .i64 y] = (xs ++ [y]).map (Value.int .i64) := by simp
 have hlen : (xs ++ [y]).length = xs.length + 1 := by simp
 have hown2 := hown
 have hfr : ∀ {w1 : World} {v1 : Value} {n : Nat} {zs : List Value}, 0 < n → w1.ownsRow W.heap.size e 1 v1 n zs → ∃ b, v1.ownBlock = some b ∧ W.heap.size ≤ b := fun hn h => by
   rcases h.2 with ⟨_, h0⟩ | ⟨g, _, _, rfl, hb, _⟩
   · omega
   · exact ⟨g, rfl, hb⟩
 rcases hown2.2 with ⟨rfl, hn⟩ | ⟨g, cap, cur, rfl, hbg, hg, hnc, hcm, hcs, htk⟩
 ·obtain rfl : xs = [] := List.length_eq_zero_iff.1 hn
  obtain ⟨v1, w1, hrun, r1, r2, _⟩ := run_append_own (P := P) W W.heap.size t ty e i0 (.int .i64 0) 1 bytes ht hi hz0 hz1 hz2 rfl (by decide) (.slice none 0 0) 0 [] (World.ownsRow_nil W _ e 1) ad 1 c [.int .i64 y] rfl hnews h1 (by simp only [maxLen]; simp at hn1; omega) (by simpa using hl) (Nat.le_refl _)
  refine ⟨v1, w1, hrun, hR hbase r1, b0g r2, fun k hk _ => r2.block k hk (by simp [Value.ownBlock]), .inr (hfr (by decide) r1), fun W2 _ _ => Kd.R_nil _ _ _ _ _⟩
 by_cases hroom : xs.length + 1 ≤ cap
 ·obtain ⟨w1, hrun, r1, r2⟩ := run_append_own_spare (P := P) W base t ty e i0 1 ht hi hz1 g xs.length cap _ hown ad 1 c [.int .i64 y] rfl hnews h1 hroom
  rw [hmap, ← hlen] at r1
  refine ⟨_, w1, hrun, ?_, b0g r2, fun k hk hne => r2.block k hk (by simpa [Value.ownBlock] using hne), .inl rfl, fun W2 h2 _ => ?_⟩
  ·rw [← hlen]; exact hR (Nat.le_refl _) r1
  have := Kd.R_take (m := xs.length) (by rw [hlen] at *; exact h2) (by simp)
  simpa using this
 have holds : ∀ j u, (xs.map (Value.int .i64))[j]? = some u → W.cell? ((⟨g, 0, none⟩ : Addr).add j) = some u := by
   intro j u hj
   have hadd : (⟨g, 0, none⟩ : Addr).add j = ⟨g, j, none⟩ := by unfold Addr.add; split <;> simp_all
   rw [hadd]
   refine (blk_cell hg j).trans ?_
   rw [← htk, List.getElem?_take] at hj
   split at hj
   · simpa using hj
   · cases hj
 obtain ⟨v1, w1, hrun, r1, r2⟩ := run_append_arg_grows (P := P) W t ty e i0 (.int .i64 0) 1 bytes ht hi hz0 hz1 hz2 rfl (by decide) ⟨g, 0, none⟩ xs.length cap _ hown.1 holds ad 1 c [.int .i64 y] rfl hnews (by omega) (by simp only [maxLen]; omega) hl
 have hf := hfr (by omega) r1
 rw [hmap, ← hlen] at r1
 refine ⟨v1, w1, hrun, hR hbase r1, b0g r2, fun k hk _ => r2.block k hk (by simp), .inr hf, fun W2 _ hk => ?_⟩
 obtain ⟨b, hb, hle⟩ := hf
 have hlt := blk_lt hg
 have hk2 := hk g rfl (by rw [hb]; intro he; have := Option.some.inj he; omega)
 exact Kd.R_of_own ⟨hown.1, .inr ⟨g, cap, cur, rfl, hbg, by rw [hk2]; exact hg, hnc, hcm, hcs, htk⟩⟩ (fun _ _ => trivial)
theorem append_val {P : Program} {ops : Array Oper} {o : Oper} {a : Act} {Q : Exit → Act → World → Prop} {Kc : Act → World → Prop} {W w1 : World} {v1 v u : Value} (hw : Region.wanted o (yielded ops a.tmps) = true) (s x : Operand) (t : TypeId) (ho : o.op = .call { callee := .builtin .append, args := #[s, x], argTypes := #[t, t] }) (hs : a.eval s = v) (hx : a.eval x = u)
    (hr1 : (Builtin.append_ #[t, t] o.type #[v, u]).run P W = .ok v1 w1) (h : Kc (a.put o.dst v1) w1) : if Region.wanted o (yielded ops a.tmps) = true then Oper.wp P o a W Kc Q else Kc (a.put o.dst undef) W := by
 rw [if_pos hw]
 unfold Oper.wp execOp
 simp only [ho, resolve, invoke, builtin, Sem.run_bind, Sem.run_pure, Result.andThen_ok, List.map_toArray, List.map_cons, List.map_nil, hs, hx, hr1]
 exact h
/-! All lists of so many numbers, in their order, each handed to a step. -/
def chL {σ : Type} (f : Nat → σ → Option σ) : Nat → Nat → σ → Option σ
  | 0, _, s => some s
  | d + 1, k, s => (f k s).bind fun s1 => chL f d (k + 1) s1
def chGo {σ : Type} (most : Nat) (step : σ → List Int → Option σ) : Nat → List Int → σ → Option σ
  | 0, p, s => step s p
  | d + 1, p, s => chL (fun k s1 => chGo most step d (p ++ [(k : Int)]) s1) most 0 s
/-- What an invariant of the callback's must bear: ok says which blocks it leans on. -/
structure CbI {σ : Type} (I : (Nat → Prop) → World → σ → Prop) : Prop where
  mono : ∀ {ok ok' : Nat → Prop} {W : World} {s : σ}, I ok W s → (∀ k, ok k → ok' k) → I ok' W s
  bound : ∀ {ok : Nat → Prop} {W : World} {s : σ}, I ok W s → I (fun k => ok k ∧ k < W.heap.size) W s
  keep : ∀ {ok : Nat → Prop} {W W' : World} {s : σ}, I ok W s → Below 0 W W' → (∀ k, k < W.heap.size → ok k → W'.heap[k]? = W.heap[k]?) → I ok W' s
/-- The boxes of choices. -/
def ChW (b3 b4 b5 b6 : Nat) (size most : Int) (fc : Value) (W : World) : Prop :=
  W.heap[b3]? = some (.cells #[.int .i64 size] 3 (0, 0)) ∧ W.heap[b4]? = some (.cells #[.int .i64 most] 3 (0, 0)) ∧ W.heap[b5]? = some (.cells #[fc] 57 (0, 0)) ∧
  W.heap[b6]? = some (.cells #[.func (.func 61) #[] #[.pointer (some ⟨b3, 0, none⟩), .pointer (some ⟨b5, 0, none⟩), .pointer (some ⟨b4, 0, none⟩), .pointer (some ⟨b6, 0, none⟩)]] 57 (0, 0))
/-- What a call leaves: all elder blocks but the list's own and the callback's boxes. -/
def KeptBut (bx : Nat → Prop) (W W' : World) (v : Value) : Prop := Below 0 W W' ∧ ∀ k, k < W.heap.size → some k ≠ v.ownBlock → ¬ bx k → W'.heap[k]? = W.heap[k]?
/-- The callback's contract. -/
def CbC {σ : Type} (I : (Nat → Prop) → World → σ → Prop) (step : σ → List Int → Option σ) (bx : Nat → Prop) (F : FuncId) (cap : Array Value) (base size : Nat) : Prop :=
  ∀ (W : World) (v : Value) (p : List Int) (s s' : σ) (ok : Nat → Prop), Kd.R (Kd.int .i64) 3 W base (fun _ => True) v p → p.length = size → I (fun k => ok k ∧ some k ≠ v.ownBlock) W s → step s p = some s' →
    Calls Try.prog F (#[v] ++ cap) W fun e W' => e = .returned (.tuple #[]) ∧ (Below 0 W W' ∧ ∀ k, k < W.heap.size → ¬ bx k → W'.heap[k]? = W.heap[k]?) ∧ I (fun k => ok k ∨ some k = v.ownBlock ∨ W.heap.size ≤ k) W' s'
def impl_choices.T1 : Bool × List (List Nat × List Nat) := (true, [([], []), ([], []), ([1], [1]), ([0, 2, 2], [0, 2])])
def impl_choices.B1 : List Nat := [0, 0, 2, 7]
theorem impl_choices.tab1 : rtab .any (opsOf Try.f61 1) = impl_choices.T1 := by kernel_rfl
theorem impl_choices.bits1 : waitsOk impl_choices.T1.2 impl_choices.B1 = true := by kernel_rfl
def impl_choices.T5 : Bool × List (List Nat × List Nat) := (true, [([], []), ([], []), ([], []), ([2], [2]), ([1, 3], [1, 3]), ([0, 4, 4], [0, 4])])
def impl_choices.B5 : List Nat := [0, 0, 0, 4, 14, 31]
theorem impl_choices.tab5 : rtab .any (opsOf Try.f61 5) = impl_choices.T5 := by kernel_rfl
theorem impl_choices.bits5 : waitsOk impl_choices.T5.2 impl_choices.B5 = true := by kernel_rfl
set_option maxHeartbeats 8000000 in
set_option maxRecDepth 100000 in
/-- The list is full: a clone of it is handed on. -/
theorem impl_choices.full {σ : Type} {I : (Nat → Prop) → World → σ → Prop} (hI : CbI I) {step : σ → List Int → Option σ} {bx : Nat → Prop} {F : FuncId} {cap : Array Value} {base size most : Nat} (hsz : size ≤ 1000) (hcf : ∀ (args : Array Value) (W : World), (callFunc F args).run Try.prog W = .ok (.enter F args) W) (hcb : CbC I step bx F cap base size) {b3 b4 b5 b6 : Nat} (hbx : ¬ bx b5)
    (W : World) (v : Value) (p : List Int) (s s' : σ) (ok : Nat → Prop) (hW : ChW b3 b4 b5 b6 (size : Int) (most : Int) (.func (.func F) #[] cap) W) (hR : Kd.R (Kd.int .i64) 3 W base (fun _ => True) v p) (hp : p.length = size) (hbs : base ≤ W.heap.size) (hs : I (fun k => ok k ∧ some k ≠ v.ownBlock) W s) (h : step s p = some s') :
    Calls Try.prog 61 #[v, .pointer (some ⟨b3, 0, none⟩), .pointer (some ⟨b5, 0, none⟩), .pointer (some ⟨b4, 0, none⟩), .pointer (some ⟨b6, 0, none⟩)] W fun e W' => e = .returned (.tuple #[]) ∧ (Below 0 W W' ∧ ∀ k, k < W.heap.size → ¬ bx k → W'.heap[k]? = W.heap[k]?) ∧ I (fun k => (ok k ∨ W.heap.size ≤ k) ∧ some k ≠ v.ownBlock) W' s' := by
 obtain ⟨A, c, rfl⟩ := Kd.R_slice hR
 have HR := Aside0.mk hR
 have HS := Aside0.mk hs
 have HW := Aside0.mk hW
 have HX := Aside0.mk h
 have HC := Aside0.mk hcb
 have HF := Aside0.mk hcf
 have hpb : ((p.length : Int) == (size : Int)) = true := beq_iff_eq.2 (by omega)
 have HP := Aside0.mk hp
 clear hR hs hW h hcb hcf hp
 have c3 : W.cell? ⟨b3, 0, none⟩ = some (.int .i64 (size : Int)) := (blk_cell HW.out.1 0).trans rfl
 have c5 : W.cell? ⟨b5, 0, none⟩ = some (.func (.func F) #[] cap) := (blk_cell HW.out.2.2.1 0).trans rfl
 go_enter Try.func61, Try.ntmps61
 have HCl := Aside0.mk (show slices_Clone_int_int.f p = some p by unfold slices_Clone_int_int.f; rw [if_pos (by have := HP.out; omega)])
 go_upto_region 1 with (fail)
 have c5d : W.drew.cell? ⟨b5, 0, none⟩ = some (.func (.func F) #[] cap) := c5
 refine start_ (n := 4) (S := fun w' => w'.cell? ⟨b5, 0, none⟩ = some (.func (.func F) #[] cap)) (ds := []) #[false, false, false, false] (by kernel_rfl) rfl rfl c5d (fun hHeld => ?_)
 refine with_tabW impl_choices.tab1 impl_choices.bits1 (fun HT_ HW_ => ?_)
 refine pure_ (i := 1) (N := some 12) (v := ?_) (a' := ?_) #[false, true, false, false] rfl rfl (any_of HT_.out (by kernel_rfl)) (fun _ _ _ h => h) (Or.inl ⟨by rfl, ?_⟩) ?_ ?_
 rotate_left
 ·intro w'
  go_simp
  with_reducible rfl
 rotate_left
 ·simp only [putS]
  rfl
 refine take_ (i := 0) (N := some 11) (v := ?_) (a' := ?_) #[true, true, false, false] rfl rfl (take_ofW HT_.out HW_.out (by kernel_rfl)) (fun _ _ _ h => h) (Or.inl ⟨by rfl, ?_⟩) hHeld ?_ ?_
 rotate_left
 ·rintro w' s0
  go_simp
  with_reducible rfl
 rotate_left
 ·simp only [putS]
  rfl
 refine one_ (i := 2) (N := some 13) #[true, true, true, false] rfl rfl (one_of HT_.out (by kernel_rfl)) (by decide) (fun K hK => ?_)
 refine goes_ Try.func62 (by kernel_rfl) rfl #[.slice A p.length c] (by rfl) rfl rfl gmp ?_
 refine (slices_Clone_int_int.calls A c p p _ (Kd.R_reads' (Kd.R_drew HR.out)).2.2 (Kd.R_reads' HR.out).2.1 HCl.out).mono ?_
 rintro e W1 ⟨vc, rfl, hc, hb⟩
 refine ⟨_, rfl, ?_⟩
 have HRc := Aside0.mk hc
 have HB1 := Aside0.mk hb
 clear hc hb
 have c51 : W1.cell? ⟨b5, 0, none⟩ = some (.func (.func F) #[] cap) := (HB1.out.cell (World.block_lt_of_cell? _ _ c5d)).trans c5d
 refine hK.out _ _ c51 (fun hHeld => ?_)
 clear hK K
 refine norm_ (a' := ?_) ?_ ?_
 rotate_left
 ·show Act.put _ (some 13) _ = _
  simp only [putS]
  rfl
 refine one_ (i := 3) (N := some 14) #[true, true, true, true] rfl rfl (one_of HT_.out (by kernel_rfl)) (by decide) (fun K hK => ?_)
 refine call_ F (#[vc] ++ cap) (by rfl) rfl ?hrun ?_
 case hrun =>
  go_simp
  exact HF.out _ _
 refine (HC.out W1 vc p s s' (fun k => (ok k ∧ some k ≠ (Value.slice A p.length c).ownBlock) ∧ k < W.heap.size) (Kd.R_lower HRc.out hbs) HP.out ?inv HX.out).mono ?_
 case inv =>
  refine hI.mono (hI.keep (hI.bound HS.out) ((b0d (Below.refl 0 W)).trans (b0 HB1.out)) (fun k hk _ => HB1.out.block k hk)) (fun k hk => ⟨hk, ?_⟩)
  rcases Kd.R_base2 HRc.out with h0 | ⟨b, hb, hle⟩
  ·rw [h0]; simp
  rw [hb]; intro he; have := Option.some.inj he; have h2 := hk.2; have h3 : W.heap.size ≤ b := hle; omega
 rintro e W2 ⟨rfl, hk2, hi2⟩
 refine ⟨_, rfl, ?_⟩
 have c52 : W2.cell? ⟨b5, 0, none⟩ = some (.func (.func F) #[] cap) := (World.cell?_of_block (a := ⟨b5, 0, none⟩) (hk2.2 b5 (World.block_lt_of_cell? _ _ c51) hbx)).trans c51
 have HK2 := Aside0.mk hk2
 have HI2 := Aside0.mk hi2
 clear hk2 hi2
 refine hK.out _ _ c52 (fun hHeld => ?_)
 clear hK K
 refine norm_ (a' := ?_) ?_ ?_
 rotate_left
 ·show Act.put _ (some 14) _ = _
  simp only [putS]
  rfl
 refine done_ (done_of HT_.out (by kernel_rfl)) ?_
 clear hHeld HT_ HW_ c51 c52 c5 c5d c3
 go_wp2
 (try simp only [Exit.inBlock, Exit.then]); refine bodyPost_ret (results_none rfl _ _ _) rfl ?_
 refine ⟨by first | rfl | simp, ⟨((b0d (Below.refl 0 W)).trans (b0 HB1.out)).trans HK2.out.1, fun k hk hb => (HK2.out.2 k (Nat.lt_of_lt_of_le hk HB1.out.size) hb).trans (HB1.out.block k hk)⟩, hI.mono HI2.out (fun k hk => ?_)⟩
 rcases hk with hk | hk | hk
 ·exact ⟨Or.inl hk.1.1, hk.1.2⟩
 ·have hge : W.heap.size ≤ k := by
    rcases Kd.R_base2 HRc.out with h0 | ⟨b, hb, hle⟩
    · rw [h0] at hk; cases hk
    · rw [hb] at hk; have := Option.some.inj hk; have h3 : W.heap.size ≤ b := hle; omega
  exact ⟨Or.inr hge, fun he => by have := Kd.R_lt HR.out k he.symm; omega⟩
 have h1 : W.heap.size ≤ W1.heap.size := HB1.out.size
 exact ⟨Or.inr (by omega), fun he => by have := Kd.R_lt HR.out k he.symm; omega⟩
theorem int_keep {W W2 : World} {base e : Nat} {v : Value} {p : List Int} (h : Kd.R (Kd.int .i64) e W base (fun _ => True) v p) (hk : ∀ k, some k = v.ownBlock → W2.heap[k]? = W.heap[k]?) : Kd.R (Kd.int .i64) e W2 base (fun _ => True) v p := by
 have hown : W.ownsRow base e 1 v p.length (p.map (Value.int .i64)) := Kd.own_of_R h
 rcases hown.2 with ⟨rfl, hn⟩ | ⟨g, cap, cur, rfl, hbg, hg, hnc, hcm, hcs, htk⟩
 ·obtain rfl : p = [] := List.length_eq_zero_iff.1 hn
  exact Kd.R_nil _ _ _ _ _
 exact Kd.R_of_own ⟨hown.1, .inr ⟨g, cap, cur, rfl, hbg, by rw [hk g rfl]; exact hg, hnc, hcm, hcs, htk⟩⟩ (fun _ _ => trivial)
theorem ChW.keep {b3 b4 b5 b6 : Nat} {size most : Int} {fc : Value} {W W2 : World} (h : ChW b3 b4 b5 b6 size most fc W) (hk : ∀ k, k < W.heap.size → (k = b3 ∨ k = b4 ∨ k = b5 ∨ k = b6) → W2.heap[k]? = W.heap[k]?) : ChW b3 b4 b5 b6 size most fc W2 := by
 obtain ⟨h1, h2, h3, h4⟩ := h
 exact ⟨(hk _ (blk_lt h1) (.inl rfl)).trans h1, (hk _ (blk_lt h2) (.inr (.inl rfl))).trans h2, (hk _ (blk_lt h3) (.inr (.inr (.inl rfl)))).trans h3, (hk _ (blk_lt h4) (.inr (.inr (.inr rfl)))).trans h4⟩
set_option maxHeartbeats 8000000 in
set_option maxRecDepth 100000 in
/-- The closure that extends a list. -/
theorem impl_choices.extend {σ : Type} {I : (Nat → Prop) → World → σ → Prop} (hI : CbI I) {step : σ → List Int → Option σ} {bx : Nat → Prop} {F : FuncId} {cap : Array Value} {base size most : Nat} (hsz : size ≤ 1000) (hmo : most ≤ 1000) (hcf : ∀ (args : Array Value) (W : World), (callFunc F args).run Try.prog W = .ok (.enter F args) W) (hcb : CbC I step bx F cap base size) {b3 b4 b5 b6 : Nat} (hbx : ∀ k, (k = b3 ∨ k = b4 ∨ k = b5 ∨ k = b6) → ¬ bx k ∧ k < base) (hbb : ∀ k, bx k → k < base) :
    ∀ (d : Nat) (W : World) (v : Value) (p : List Int) (s s' : σ) (ok : Nat → Prop), ChW b3 b4 b5 b6 (size : Int) (most : Int) (.func (.func F) #[] cap) W → Kd.R (Kd.int .i64) 3 W base (fun _ => True) v p → p.length + d = size → base ≤ W.heap.size → I (fun k => ok k ∧ some k ≠ v.ownBlock) W s → chGo most step d p s = some s' →
    Calls Try.prog 61 #[v, .pointer (some ⟨b3, 0, none⟩), .pointer (some ⟨b5, 0, none⟩), .pointer (some ⟨b4, 0, none⟩), .pointer (some ⟨b6, 0, none⟩)] W fun e W' => e = .returned (.tuple #[]) ∧ KeptBut bx W W' v ∧ Kd.R (Kd.int .i64) 3 W' base (fun _ => True) v p ∧ I (fun k => (ok k ∨ W.heap.size ≤ k) ∧ some k ≠ v.ownBlock) W' s' := by
 intro d
 induction d with
 | zero =>
  intro W v p s s' ok hW hR hp hbs hs h
  refine (impl_choices.full hI hsz hcf hcb (hbx b5 (.inr (.inr (.inl rfl)))).1 W v p s s' ok hW hR (by omega) hbs hs h).mono ?_
  rintro e W' ⟨he, hk, hi⟩
  exact ⟨he, ⟨hk.1, fun k h1 _ h2 => hk.2 k h1 h2⟩, int_keep hR (fun k hkv => hk.2 k (Kd.R_lt hR k hkv.symm) (fun hb => by
    have h1 := hbb k hb
    rcases Kd.R_base2 hR with h0 | ⟨b, hb2, hle⟩
    · rw [h0] at hkv; cases hkv
    · rw [hb2] at hkv; have := Option.some.inj hkv; omega)), hi⟩
 | succ d ih =>
  intro W v p s s' ok hW hR hp hbs hs h
  obtain ⟨A, c, rfl⟩ := Kd.R_slice hR
  have HR := Aside0.mk hR
  have HS := Aside0.mk hs
  have HW := Aside0.mk hW
  have HX := Aside0.mk h
  have HP := Aside0.mk hp
  have HIh := Aside0.mk @ih
  have hpb : ((p.length : Int) == (size : Int)) = false := beq_eq_false_iff_ne.2 (by omega)
  clear hR hs hW h hp ih
  have c3 : W.cell? ⟨b3, 0, none⟩ = some (.int .i64 (size : Int)) := (blk_cell HW.out.1 0).trans rfl
  have c4 : W.cell? ⟨b4, 0, none⟩ = some (.int .i64 (most : Int)) := (blk_cell HW.out.2.1 0).trans rfl
  go_enter Try.func61, Try.ntmps61
  have HNb := Aside0.mk (show ∀ q, q < base → some q ≠ (Value.slice A p.length c).ownBlock from fun q hq he => by
    rcases Kd.R_base2 HR.out with h0 | ⟨b, hb2, hle⟩
    · rw [h0] at he; cases he
    · rw [hb2] at he; have := Option.some.inj he; omega)
  have HX2 := Aside0.mk (show chL (fun k s1 => chGo most step d (p ++ [(k : Int)]) s1) (most - 0) 0 s = some s' from HX.out)
  clear HX
  go_wp2
  clear c3 c4 hpb
  go_loopw [16] (fun v16 wr => ∃ (k : Nat) (s1 : σ), v16 = .int .i64 (k : Int) ∧ Aside0 (k ≤ most) ∧ Aside0 (chL (fun k s1 => chGo most step d (p ++ [(k : Int)]) s1) (most - k) k s1 = some s') ∧ Aside0 (KeptBut bx W wr (.slice A p.length c)) ∧ Aside0 (Kd.R (Kd.int .i64) 3 wr base (fun _ => True) (.slice A p.length c) p) ∧ Aside0 (I (fun k => (ok k ∨ W.heap.size ≤ k) ∧ some k ≠ (Value.slice A p.length c).ownBlock) wr s1)) (fun v16 wr => most - (intOf v16).toNat)
  case atStart => exact ⟨0, s, rfl, ⟨Nat.zero_le _⟩, HX2, ⟨Below.refl _ _, fun _ _ _ _ => rfl⟩, HR, ⟨hI.mono HS.out (fun k hk => ⟨.inl hk.1, hk.2⟩)⟩⟩
  clear HX2
  obtain ⟨k, s1, rfl, HK, HL, HKp, HRw, HIw⟩ := hrel
  have HWr := Aside0.mk (ChW.keep HW.out (fun q hq hb => HKp.out.2 q hq (HNb.out q (hbx q hb).2) (hbx q hb).1))
  by_cases hlt : k < most
  rotate_left
  ·have hlti : ¬ (k : Int) < (most : Int) := by omega
   have hl := HL.out
   rw [show most - k = 0 by omega] at hl
   obtain rfl := Option.some.inj hl
   go_wp2
   (try simp only [Exit.inBlock, Exit.then])
   refine bodyPost_end (results_none rfl _ _ _) rfl ?_
   exact ⟨by first | rfl | simp, HKp.out, HRw.out, HIw.out⟩
  have hlti : (k : Int) < (most : Int) := by omega
  have hl := HL.out
  rw [show most - k = (most - (k + 1)) + 1 by omega] at hl
  unfold chL at hl
  obtain ⟨s2, hs2, hl2⟩ := Option.bind_eq_some_iff.1 hl
  have HS2 := Aside0.mk hs2
  have HL2 := Aside0.mk hl2
  clear hl hs2 hl2 HL
  go_upto_region 5 with (fail)
  have c6d : wr.drew.cell? ⟨b6, 0, none⟩ = some (.func (.func 61) #[] #[.pointer (some ⟨b3, 0, none⟩), .pointer (some ⟨b5, 0, none⟩), .pointer (some ⟨b4, 0, none⟩), .pointer (some ⟨b6, 0, none⟩)]) := (blk_cell HWr.out.2.2.2 0).trans rfl
  have HR0 := Aside0.mk (Kd.R_drew HRw.out)
  have HI0 := Aside0.mk (hI.keep (W' := wr.drew) HIw.out (b0d (Below.refl 0 wr)) (fun _ _ _ => rfl))
  have HK0 := Aside0.mk (show KeptBut bx W wr.drew (.slice A p.length c) from ⟨b0d HKp.out.1, HKp.out.2⟩)
  have HW0 := Aside0.mk (show ChW b3 b4 b5 b6 (size : Int) (most : Int) (.func (.func F) #[] cap) wr.drew from HWr.out)
  clear HRw HIw HKp HWr
  refine start_ (n := 6) (S := fun w' => w'.cell? ⟨b6, 0, none⟩ = some (.func (.func 61) #[] #[.pointer (some ⟨b3, 0, none⟩), .pointer (some ⟨b5, 0, none⟩), .pointer (some ⟨b4, 0, none⟩), .pointer (some ⟨b6, 0, none⟩)])) (ds := []) #[false, false, false, false, false, false] (by kernel_rfl) rfl rfl c6d (fun hHeld => ?_)
  refine with_tabW impl_choices.tab5 impl_choices.bits5 (fun HT_ HW_ => ?_)
  generalize wr.drew = W0 at c6d HR0 HI0 HK0 HW0 hHeld ⊢
  refine pure_ (i := 1) (N := some 20) (v := ?_) (a' := ?_) #[false, true, false, false, false, false] rfl rfl (any_of HT_.out (by kernel_rfl)) (fun _ _ _ h => h) (Or.inl ⟨by rfl, ?_⟩) ?_ ?_
  rotate_left
  ·intro w'
   go_simp
   with_reducible rfl
  rotate_left
  ·simp only [putS]
   rfl
  refine pure_ (i := 2) (N := some 21) (v := ?_) (a' := ?_) #[false, true, true, false, false, false] rfl rfl (any_of HT_.out (by kernel_rfl)) (fun _ _ _ h => h) (Or.inl ⟨by rfl, ?_⟩) ?_ ?_
  rotate_left
  ·intro w'
   go_simp
   with_reducible rfl
  rotate_left
  ·simp only [putS]
   rfl
  refine take_ (i := 0) (N := some 19) (v := ?_) (a' := ?_) #[true, true, true, false, false, false] rfl rfl (take_ofW HT_.out HW_.out (by kernel_rfl)) (fun _ _ _ h => h) (Or.inl ⟨by rfl, ?_⟩) hHeld ?_ ?_
  rotate_left
  ·rintro w' s0
   go_simp
   with_reducible rfl
  rotate_left
  ·simp only [putS]
   rfl
  refine one_ (i := 3) (N := some 22) #[true, true, true, true, false, false] rfl rfl (one_of HT_.out (by kernel_rfl)) (by decide) (fun K hK => ?_)
  refine value_ (w1 := ?_) (v := ?_) (by rfl) rfl ?_ ?_
  rotate_left 2
  ·go_simp
   constructor
   ·rfl
   rfl
  refine hK.out _ _ ((Below.cell (below_alloc (Below.refl _ W0) _) (World.block_lt_of_cell? _ _ c6d)).trans c6d) (fun hHeld => ?_)
  clear hK K
  refine norm_ (a' := ?_) ?_ ?_
  rotate_left
  ·show Act.put _ (some 22) _ = _
   simp only [putS]
   rfl
  refine one_ (i := 4) (N := some 23) #[true, true, true, true, true, false] rfl rfl (one_of HT_.out (by kernel_rfl)) (by decide) (fun K hK => ?_)
  obtain ⟨v1, w1, hrun, hr1, hsz1, hk1, hat1, back⟩ := append_keep (P := Try.prog) (W := W0.alloc (.cells #[.int .i64 (k : Int)] 3)) base 24 24 3 8 Try.underlying24 info3 (by decide) (.slice A p.length c) p (k : Int) ⟨W0.heap.size, 0, none⟩ 1 (Kd.R_alloc HR0.out _) ((blk_cell (blk_new W0 (.cells #[.int .i64 (k : Int)] 3 (0, 0))) 0).trans rfl) (by have h1 := HK0.out.1.size; simp; omega) (by have h1 := HP.out; omega)
  refine append_val (v := .slice A p.length c) (u := .slice (some ⟨W0.heap.size, 0, none⟩) 1 1) (by rfl) (.tmp 20) (.tmp 22) 24 rfl rfl rfl hrun ?_
  have hsz2 := hsz1.size
  have hsa : (W0.alloc (.cells #[.int .i64 (k : Int)] 3)).heap.size = W0.heap.size + 1 := by simp
  have HO1 := Aside0.mk (show ∀ q, q < W0.heap.size → some q ≠ (Value.slice A p.length c).ownBlock → some q ≠ v1.ownBlock from fun q hq hne he => by
    rcases hat1 with h1 | ⟨b, hb, hle⟩
    · exact hne (he.trans h1)
    · rw [hb] at he; have := Option.some.inj he; omega)
  have HA1 := Aside0.mk (show Below 0 W0 w1 ∧ ∀ q, q < W0.heap.size → some q ≠ v1.ownBlock → w1.heap[q]? = W0.heap[q]? from ⟨(b0 (below_alloc (Below.refl _ W0) _)).trans hsz1, fun q hq hne => (hk1 q (by omega) hne).trans ((below_alloc (Below.refl _ W0) _).block q hq)⟩)
  have HR1 := Aside0.mk hr1
  have HBk := Aside0.mk back
  have HW1 := Aside0.mk (ChW.keep HW0.out (fun q hq hb => HA1.out.2 q hq (HO1.out q hq (HNb.out q (hbx q hb).2))))
  have c61 : w1.cell? ⟨b6, 0, none⟩ = some (.func (.func 61) #[] #[.pointer (some ⟨b3, 0, none⟩), .pointer (some ⟨b5, 0, none⟩), .pointer (some ⟨b4, 0, none⟩), .pointer (some ⟨b6, 0, none⟩)]) := (blk_cell HW1.out.2.2.2 0).trans rfl
  clear hrun hr1 hsz1 hk1 hat1 back
  refine hK.out _ _ c61 (fun hHeld => ?_)
  clear hK K
  refine norm_ (a' := ?_) ?_ ?_
  rotate_left
  ·show Act.put _ (some 23) _ = _
   simp only [putS]
   rfl
  refine one_ (i := 5) (N := some 24) #[true, true, true, true, true, true] rfl rfl (one_of HT_.out (by kernel_rfl)) (by decide) (fun K hK => ?_)
  refine call_ 61 #[v1, .pointer (some ⟨b3, 0, none⟩), .pointer (some ⟨b5, 0, none⟩), .pointer (some ⟨b4, 0, none⟩), .pointer (some ⟨b6, 0, none⟩)] (by rfl) rfl ?hrun ?_
  case hrun =>
   first | (go_simp; done) | (go_simp; exact enters_ Try.func61 (by kernel_rfl) rfl _ _)
  refine (HIh.out w1 v1 (p ++ [(k : Int)]) s1 s2 (fun q => ((ok q ∨ W.heap.size ≤ q) ∧ some q ≠ (Value.slice A p.length c).ownBlock) ∧ q < W0.heap.size) HW1.out HR1.out (by have := HP.out; rw [List.length_append, List.length_singleton]; omega) (by have h1 := HK0.out.1.size; have h2 := HA1.out.1.size; omega) ?inv HS2.out).mono ?_
  case inv => exact hI.mono (hI.keep (hI.mono (hI.bound HI0.out) (fun q hq => (⟨hq, HO1.out q hq.2 hq.1.2⟩ : _ ∧ some q ≠ v1.ownBlock))) HA1.out.1 (fun q hq hok => HA1.out.2 q hq hok.2)) (fun q hq => hq)
  rintro e W2 ⟨rfl, hk2, hr2, hi2⟩
  refine ⟨_, rfl, ?_⟩
  have HK2 := Aside0.mk hk2
  have HR2 := Aside0.mk hr2
  have HI2 := Aside0.mk hi2
  clear hk2 hr2 hi2
  have HKn := Aside0.mk (show KeptBut bx W W2 (.slice A p.length c) from ⟨(HK0.out.1.trans HA1.out.1).trans HK2.out.1, fun q hq hne hb => ((HK2.out.2 q (by have h1 := HK0.out.1.size; have h2 := HA1.out.1.size; omega) (HO1.out q (by have h1 := HK0.out.1.size; omega) hne) hb).trans (HA1.out.2 q (by have h1 := HK0.out.1.size; omega) (HO1.out q (by have h1 := HK0.out.1.size; omega) hne))).trans (HK0.out.2 q hq hne hb)⟩)
  have HW2 := Aside0.mk (ChW.keep HW.out (fun q hq hb => HKn.out.2 q hq (HNb.out q (hbx q hb).2) (hbx q hb).1))
  refine hK.out _ _ ((blk_cell HW2.out.2.2.2 0).trans rfl) (fun hHeld => ?_)
  clear hK K
  refine norm_ (a' := ?_) ?_ ?_
  rotate_left
  ·show Act.put _ (some 24) _ = _
   simp only [putS]
   rfl
  refine done_ (done_of HT_.out (by kernel_rfl)) ?_
  clear hHeld HT_ HW_
  have HRn := Aside0.mk (HBk.out W2 HR2.out (fun q hq hne => by
    have hqlt : q < W.heap.size := Kd.R_lt HR.out q hq.symm
    have h1 := HK0.out.1.size
    have h2 := HA1.out.1.size
    have hnb : ¬ bx q := fun hb => HNb.out q (hbb q hb) hq
    rw [HK2.out.2 q (by omega) hne hnb, HA1.out.2 q (by omega) hne]
    exact ((below_alloc (Below.refl _ W0) _).block q (by omega)).symm))
  have HIn := Aside0.mk (hI.mono HI2.out (fun q hq => (by
    rcases hq.1 with h1 | h1
    · exact h1.1
    · have h2 := HK0.out.1.size
      have h3 := HA1.out.1.size
      exact ⟨.inr (by omega), fun he => by have := Kd.R_lt HR.out q he.symm; omega⟩ : (ok q ∨ W.heap.size ≤ q) ∧ some q ≠ (Value.slice A p.length c).ownBlock)))
  go_wp2
  go_roundw
  case rel => exact ⟨k + 1, s2, by first | rfl | go_num, ⟨hlt⟩, HL2, HKn, HRn, HIn⟩
  case measure => first | (simp [intOf]; done) | (simp [intOf]; omega)
set_option maxHeartbeats 8000000 in
set_option maxRecDepth 100000 in
/-- choices: the callback's step over all lists, in their order. -/
theorem impl_choices.calls {σ : Type} {I : (Nat → Prop) → World → σ → Prop} (hI : CbI I) {step : σ → List Int → Option σ} {bx : Nat → Prop} {F : FuncId} {cap : Array Value} {size most : Nat} (hsz : size ≤ 1000) (hmo : most ≤ 1000) (hcf : ∀ (args : Array Value) (W : World), (callFunc F args).run Try.prog W = .ok (.enter F args) W) (W : World) (hcb : ∀ base, W.heap.size ≤ base → CbC I step bx F cap base size) (hbb : ∀ k, bx k → k < W.heap.size) (s s' : σ) (ok : Nat → Prop) (hs : I ok W s) (h : chGo most step size [] s = some s') :
    Calls Try.prog 39 #[.int .i64 (size : Int), .int .i64 (most : Int), .func (.func F) #[] cap] W fun e W' => e = .returned (.tuple #[]) ∧ (Below 0 W W' ∧ ∀ k, k < W.heap.size → ¬ bx k → W'.heap[k]? = W.heap[k]?) ∧ I (fun k => ok k ∨ W.heap.size ≤ k) W' s' := by
 have HS := Aside0.mk hs
 have HX := Aside0.mk h
 have HC := Aside0.mk hcb
 clear hs h hcb
 go_enter Try.func39, Try.ntmps39
 go_upto_region 3 with (first | ((with_reducible refine gate_dst (N := 3) rfl ?_); (try (refine gate_guard (by rfl) ?_; dsimp only)); refine box_event ?hg (N := 3) ?hd (cs := #[.int .i64 (size : Int)]) (t := 3) ?hr ?_; (case hd => rfl); (case hg => rfl); (case hr => first | (go_simp; done) | (go_simp; rfl)); intro b3 hg3 w3 hx3 hb3; have G3 := Aside0.mk hg3; have X3 := Aside0.mk hx3; have Y3 := Aside0.mk hb3; clear hg3 hx3 hb3) | ((with_reducible refine gate_dst (N := 4) rfl ?_); (try (refine gate_guard (by rfl) ?_; dsimp only)); refine box_event ?hg (N := 4) ?hd (cs := #[.int .i64 (most : Int)]) (t := 3) ?hr ?_; (case hd => rfl); (case hg => rfl); (case hr => first | (go_simp; done) | (go_simp; rfl)); intro b4 hg4 w4 hx4 hb4; have G4 := Aside0.mk hg4; have X4 := Aside0.mk hx4; have Y4 := Aside0.mk hb4; clear hg4 hx4 hb4) | ((with_reducible refine gate_dst (N := 5) rfl ?_); (try (refine gate_guard (by rfl) ?_; dsimp only)); refine box_event ?hg (N := 5) ?hd (cs := #[.func (.func F) #[] cap]) (t := 57) ?hr ?_; (case hd => rfl); (case hg => rfl); (case hr => first | (go_simp; done) | (go_simp; rfl)); intro b5 hg5 w5 hx5 hb5; have G5 := Aside0.mk hg5; have X5 := Aside0.mk hx5; have Y5 := Aside0.mk hb5; clear hg5 hx5 hb5) | ((with_reducible refine gate_dst (N := 6) rfl ?_); (try (refine gate_guard (by rfl) ?_; dsimp only)); refine box_event ?hg (N := 6) ?hd (cs := #[.nilFunc]) (t := 57) ?hr ?_; (case hd => rfl); (case hg => rfl); (case hr => first | (go_simp; done) | (go_simp; rfl)); intro b6 hg6 w6 hx6 hb6; have G6 := Aside0.mk hg6; have X6 := Aside0.mk hx6; have Y6 := Aside0.mk hb6; have c6 : w6.cell? ⟨b6, 0, none⟩ = some .nilFunc := (blk_cell hx6 0).trans rfl; have f6 := blk_frozen hx6 0; clear hg6 hx6 hb6))
 have HZ := Aside0.mk (show W.heap.size ≤ b3 ∧ b3 < b4 ∧ b4 < b5 ∧ b5 < b6 ∧ b6 < w6.heap.size from ⟨Nat.le_of_eq G3.out.symm, by have := blk_lt X3.out; have := G4.out; omega, by have := blk_lt X4.out; have := G5.out; omega, by have := blk_lt X5.out; have := G6.out; omega, blk_lt X6.out⟩)
 have HK7 := Aside0.mk (show ∀ k, k < W.heap.size → (w6.setCell ⟨b6, 0, none⟩ (.func (.func 61) #[] #[.pointer (some ⟨b3, 0, none⟩), .pointer (some ⟨b5, 0, none⟩), .pointer (some ⟨b4, 0, none⟩), .pointer (some ⟨b6, 0, none⟩)])).heap[k]? = W.heap[k]? from fun k hk => by
   have h3 : W.heap.size ≤ w3.heap.size := Y3.out.size
   have h4 : w3.heap.size ≤ w4.heap.size := Y4.out.size
   have h5 : w4.heap.size ≤ w5.heap.size := Y5.out.size
   have hz := HZ.out
   rw [Below.heap_setCell w6 _ _ k (by show k ≠ b6; omega), Y6.out.block k (by omega), Y5.out.block k (by omega), Y4.out.block k (by omega), Y3.out.block k (by omega)])
 have HW7 := Aside0.mk (show ChW b3 b4 b5 b6 (size : Int) (most : Int) (.func (.func F) #[] cap) (w6.setCell ⟨b6, 0, none⟩ (.func (.func 61) #[] #[.pointer (some ⟨b3, 0, none⟩), .pointer (some ⟨b5, 0, none⟩), .pointer (some ⟨b4, 0, none⟩), .pointer (some ⟨b6, 0, none⟩)])) from
   ⟨blk_far (blk_below (blk_below (blk_below X3.out Y4.out) Y5.out) Y6.out) (by have := HZ.out; show b3 ≠ b6; omega) _, blk_far (blk_below (blk_below X4.out Y5.out) Y6.out) (by have := HZ.out; show b4 ≠ b6; omega) _, blk_far (blk_below X5.out Y6.out) (by have := HZ.out; show b5 ≠ b6; omega) _, blk_put X6.out 0 _ rfl⟩)
 have HB7 := Aside0.mk (show Below 0 W (w6.setCell ⟨b6, 0, none⟩ (.func (.func 61) #[] #[.pointer (some ⟨b3, 0, none⟩), .pointer (some ⟨b5, 0, none⟩), .pointer (some ⟨b4, 0, none⟩), .pointer (some ⟨b6, 0, none⟩)])) from ((((b0 Y3.out).trans (b0 Y4.out)).trans (b0 Y5.out)).trans (b0 Y6.out)).setCell (Nat.zero_le _) _)
 have HS7 := Aside0.mk (show (w6.setCell ⟨b6, 0, none⟩ (.func (.func 61) #[] #[.pointer (some ⟨b3, 0, none⟩), .pointer (some ⟨b5, 0, none⟩), .pointer (some ⟨b4, 0, none⟩), .pointer (some ⟨b6, 0, none⟩)])).heap.size = w6.heap.size by simp)
 clear c6 f6 X3 X4 X5 X6 Y3 Y4 Y5 Y6 G3 G4 G5 G6
 generalize w6.setCell ⟨b6, 0, none⟩ (.func (.func 61) #[] #[.pointer (some ⟨b3, 0, none⟩), .pointer (some ⟨b5, 0, none⟩), .pointer (some ⟨b4, 0, none⟩), .pointer (some ⟨b6, 0, none⟩)]) = w7 at HK7 HW7 HS7 HB7 ⊢
 have c67 : w7.cell? ⟨b6, 0, none⟩ = some (.func (.func 61) #[] #[.pointer (some ⟨b3, 0, none⟩), .pointer (some ⟨b5, 0, none⟩), .pointer (some ⟨b4, 0, none⟩), .pointer (some ⟨b6, 0, none⟩)]) := (blk_cell HW7.out.2.2.2 0).trans rfl
 have HI7 := Aside0.mk (show I (fun k => ok k ∧ some k ≠ (Value.slice none 0 0).ownBlock) w7 s from hI.mono (hI.keep (hI.bound HS.out) HB7.out (fun k hk _ => HK7.out k hk)) (fun k hk => ⟨hk.1, by simp [Value.ownBlock]⟩))
 go_wp2_with (go_at_call 61; refine (impl_choices.extend hI hsz hmo hcf (HC.out w7.heap.size (by have := HZ.out; have := HS7.out; omega)) (b3 := b3) (b4 := b4) (b5 := b5) (b6 := b6) (fun k hk => ⟨fun hb => by have := hbb k hb; have := HZ.out; omega, by have := HZ.out; have := HS7.out; omega⟩) (fun k hb => by have := hbb k hb; have := HZ.out; have := HS7.out; omega) size w7 (.slice none 0 0) [] s s' ok HW7.out (Kd.R_nil _ _ _ _ _) (by simp) (Nat.le_refl _) HI7.out HX.out).mono ?_; rintro e W8 ⟨rfl, hk8, hr8, hi8⟩; have HK8 := Aside0.mk hk8; have HI8 := Aside0.mk hi8; clear hk8 hr8 hi8)
 (try simp only [Exit.inBlock, Exit.then])
 refine bodyPost_end (results_none rfl _ _ _) rfl ?_
 exact ⟨by first | rfl | simp, ⟨HB7.out.trans HK8.out.1, fun k hk hb => (HK8.out.2 k (by have := HZ.out; have := HS7.out; omega) (by simp [Value.ownBlock]) hb).trans (HK7.out k hk)⟩, hI.mono HI8.out (fun k hk => hk.1.elim .inl (fun h => .inr (by have := HZ.out; have := HS7.out; omega)))⟩
theorem chL_mono {σ : Type} {f g : Nat → σ → Option σ} (h : ∀ k s, LeO (f k s) (g k s)) : ∀ n k s, LeO (chL f n k s) (chL g n k s)
  | 0, _, _ => LeO.refl _
  | n + 1, k, s => LeO.bind (h k s) (fun s1 => chL_mono h n (k + 1) s1)
theorem chGo_mono {σ : Type} {f g : σ → List Int → Option σ} (most : Nat) (h : ∀ s p, LeO (f s p) (g s p)) : ∀ d p s, LeO (chGo most f d p s) (chGo most g d p s)
  | 0, p, s => h s p
  | d + 1, p, s => chL_mono (fun k s1 => chGo_mono most h d (p ++ [(k : Int)]) s1) most 0 s
/-- What stands between the callback's calls: the best's and the least's boxes. -/
def BsI (W0 : World) (bB bL : Nat) (ok : Nat → Prop) (W : World) (s : List Int × Int) : Prop :=
  Below 0 W0 W ∧ (∀ k, k < W0.heap.size → ok k) ∧ (∀ k, k < W0.heap.size → k ≠ bB → k ≠ bL → W.heap[k]? = W0.heap[k]?) ∧ W.heap[bL]? = some (.cells #[.int .i64 s.2] 3 (0, 0)) ∧
  ∃ v, W.heap[bB]? = some (.cells #[v] 24 (0, 0)) ∧ Kd.R (Kd.int .i64) 3 W W0.heap.size (fun _ => True) v s.1 ∧ ∀ k, some k = v.ownBlock → ok k
theorem BsI_ok {W0 : World} {bB bL : Nat} (hB : bB < W0.heap.size) (hL : bL < W0.heap.size) : CbI (BsI W0 bB bL) where
  mono := fun ⟨h1, h2, h3, h4, v, h5, h6, h7⟩ hk => ⟨h1, fun k h => hk k (h2 k h), h3, h4, v, h5, h6, fun k h => hk k (h7 k h)⟩
  bound := fun ⟨h1, h2, h3, h4, v, h5, h6, h7⟩ => ⟨h1, fun k h => ⟨h2 k h, Nat.lt_of_lt_of_le h h1.size⟩, h3, h4, v, h5, h6, fun k h => ⟨h7 k h, Kd.R_lt h6 k h.symm⟩⟩
  keep := fun {ok W W'} s ⟨h1, h2, h3, h4, v, h5, h6, h7⟩ hb hk => by
    have hlt : ∀ k, k < W0.heap.size → W'.heap[k]? = W.heap[k]? := fun k h => hk k (Nat.lt_of_lt_of_le h h1.size) (h2 k h)
    exact ⟨h1.trans hb, h2, fun k h h8 h9 => (hlt k h).trans (h3 k h h8 h9), (hlt bL hL).trans h4, v, (hlt bB hB).trans h5, int_keep h6 (fun k h => hk k (Kd.R_lt h6 k h.symm) (h7 k h)), h7⟩
end Go.Proofs.Ytipahijdcgoemaa.P
