-- Written by a program of this session over the translation (a variant of the printer, see wip/gen); Lean checks it.
import Derived.Test.YtoiboejefgejfaaDoorPx0
import Derived.Test.YtoiboejefgejfaaDoorPx1
import Derived.Test.YtoiboejefgejfaaDoorPx2
import Derived.Test.YtoiboejefgejfaaDoorU
import Derived.Test.YtoiboejefgejfaaDoorPbCom
namespace Go.Proofs.YtoiboejefgejfaaDoor.P
open Go.RowKit Go.Proofs.YtoiboejefgejfaaDoorW.PrintWords Go.Proofs.YtoiboejefgejfaaDoorW.PrintLast Go.Proofs.YtoiboejefgejfaaDoorW.PrintMore
attribute [local go_sem] Go.Proofs.YtoiboejefgejfaaDoor.V.isSome_setCell max2_int min2_int max_two min_two max_three min_three max_four min_four   -- for this text's walks alone
set_option linter.unusedVariables false
set_option linter.unusedSimpArgs false

/-! ### spec_ParseBay: function 4 -/
theorem sb_tl (s : ByteArray) : s.toList = s.data.toList := by
  obtain ⟨⟨l⟩⟩ := s
  simp
/-- The number of two letters. -/
def sbNum (p : ByteArray) : Int := 10 * (bt p 0 - 48) + bt p 1 - 48
def sbGrow (t : List (List Int)) (i : Nat) : List (List Int) := if t.length ≤ i then t ++ [[]] else t
theorem sbNum_wrap (p : ByteArray) : ∀ (h0 : 0 < p.size) (h1 : 1 < p.size), wrap64 (wrap64 (wrap64 ((10 : Int) * wrap64 (wrap64 ((p[0]'h0).toNat : Int) - 48)) + wrap64 ((p[1]'h1).toNat : Int)) - 48) = sbNum p := by
  intro h0 h1
  have ea : ((p[0]'h0).toNat : Int) = bt p 0 := bt_at p 0 h0
  have eb : ((p[1]'h1).toNat : Int) = bt p 1 := bt_at p 1 h1
  have ra := bt_range p 0
  have rb := bt_range p 1
  rw [ea, eb, Go.Proofs.YtoiboejefgejfaaDoor.U.wr (x := bt p 0) (by omega) (by omega), Go.Proofs.YtoiboejefgejfaaDoor.U.wr (x := bt p 1) (by omega) (by omega), Go.Proofs.YtoiboejefgejfaaDoor.U.wr (x := bt p 0 - 48) (by omega) (by omega), Go.Proofs.YtoiboejefgejfaaDoor.U.wr (x := 10 * (bt p 0 - 48)) (by omega) (by omega), Go.Proofs.YtoiboejefgejfaaDoor.U.wr (x := 10 * (bt p 0 - 48) + bt p 1) (by omega) (by omega), Go.Proofs.YtoiboejefgejfaaDoor.U.wr (by omega) (by omega), sbNum]
/-- The numbers of a line, put on their rows from row i on; none: a word that is no number. -/
def sbAdd : List ByteArray → Nat → List (List Int) → Option (Option (List (List Int)))
  | [], _, t => some (some t)
  | p :: ps, i, t => if t.length ≤ 1000 then (if p.data.toList = [46, 46] then sbAdd ps (i + 1) (sbGrow t i) else if p.size ≠ 2 then some none else if i < (sbGrow t i).length ∧ ((sbGrow t i).getD i []).length ≤ 1000 then sbAdd ps (i + 1) ((sbGrow t i).set i ((sbGrow t i).getD i [] ++ [sbNum p])) else none) else none
/-- The lines, from the last one on. -/
def sbRows (k : Nat) : List ByteArray → List (List Int) → Option (Option (List (List Int)))
  | [], t => some (some t)
  | l :: ls, t => (spec_l1Split.f k l 32).bind fun ws => if ws.length ≤ 1000 then (sbAdd ws 0 t).bind fun o => o.elim (some none) fun t2 => sbRows k ls t2 else none
def sbFin (k : Nat) (s : ByteArray) (H : Int) : Option (List (List Int)) → Option (Int × List (List Int) × Bool)
  | none => some (0, [], false)
  | some t => (spec_l9Good.f k H t).bind fun v => if v = true then (spec_l9Text.f k H t).bind fun u => if u = s then some (H, t, true) else some (0, [], false) else some (0, [], false)
def spec_ParseBay.f (k : Nat) (s : ByteArray) : Option (Int × List (List Int) × Bool) :=
  if s.size ≤ 1048576 then (spec_l1Split.f k s 10).bind fun ls => if 80 < s.size ∨ ¬ (1 ≤ (ls.length : Int) - 1 ∧ (ls.length : Int) - 1 ≤ 4) then some (0, [], false) else (sbRows k (ls.take (ls.length - 1)).reverse []).bind (sbFin k s ((ls.length : Int) - 1)) else none
theorem sbRows_mono (k : Nat) : ∀ (ls : List ByteArray) (t : List (List Int)), LeO (sbRows k ls t) (sbRows (k + 1) ls t)
  | [], _ => LeO.refl _
  | l :: ls, t => LeO.bind (spec_l1Split.mono _ _ _) fun ws => LeO.ite (LeO.bind (LeO.refl _) fun o => by
    cases o with
    | none => exact LeO.refl _
    | some t2 => exact sbRows_mono k ls t2) (LeO.refl _)
theorem sbFin_mono (k : Nat) (s : ByteArray) (H : Int) : ∀ o, LeO (sbFin k s H o) (sbFin (k + 1) s H o)
  | none => LeO.refl _
  | some t => by
    unfold sbFin
    exact LeO.bind (spec_l9Good.mono _ _ _) fun v => LeO.ite (LeO.bind (spec_l9Text.mono _ _ _) fun u => LeO.refl _) (LeO.refl _)
theorem spec_ParseBay.mono : ∀ a0 k, LeO (spec_ParseBay.f k a0) (spec_ParseBay.f (k + 1) a0) := fun a0 k => LeO.ite (LeO.bind (spec_l1Split.mono _ _ _) fun ls => LeO.ite (LeO.refl _) (LeO.bind (sbRows_mono k _ _) fun o => sbFin_mono k a0 _ o)) (LeO.refl _)
def spec_ParseBay.T19 : Bool × List (List Nat × List Nat) := (true, [([], []), ([0], [0]), ([], []), ([], []), ([3], [3]), ([], []), ([4, 5], [4, 5]), ([6], [6]), ([], []), ([], []), ([8, 9], [8, 9]), ([10], [10]), ([11], [11]), ([12], [12]), ([13], [13]), ([14], [14]), ([], []), ([], []), ([16, 17], [16, 17]), ([18], [18]), ([19], [19]), ([20], [20]), ([15, 21], [15, 21]), ([22], [22]), ([23], [23]), ([7, 24], [7, 24]), ([1, 2, 0, 1, 2, 3, 4, 5, 6, 7, 8, 9, 10, 11, 12, 13, 14, 15, 16, 17, 18, 19, 20, 21, 22, 23, 24, 25], [1, 2]), ([26, 25, 25, 0, 1, 2, 3, 4, 5, 6, 7, 8, 9, 10, 11, 12, 13, 14, 15, 16, 17, 18, 19, 20, 21, 22, 23, 24, 25], [25, 26])])
def spec_ParseBay.B19 : List Nat := [0, 1, 0, 0, 8, 0, 56, 120, 0, 0, 768, 1792, 3840, 7936, 16128, 32512, 0, 0, 196608, 458752, 983040, 2031616, 4194048, 8388352, 16776960, 33554424, 67108863, 134217727]
theorem spec_ParseBay.tab19 : rtab .any (opsOf Tryd.f4 19) = spec_ParseBay.T19 := by kernel_rfl
theorem spec_ParseBay.bits19 : waitsOk spec_ParseBay.T19.2 spec_ParseBay.B19 = true := by kernel_rfl
theorem spec_ParseBay.valid (k : Nat) (a0_0 : Int) (A : Option Addr) (n c : Nat) (tab : List (List Int)) (r : Bool) (w : World) (hn : tab.length = n) (h0 : Kd.C (Kd.slice 3 (Kd.int .i64)) w A tab.length tab) (hc : tab.length ≤ c) (h : spec_l9Good.f k a0_0 tab = some r) :
    Calls Tryd.prog 11 #[.agg #[.int .i64 a0_0, .slice A n c]] w fun e w' => e = .returned (.bool r) ∧ Below w.heap.size w w' := by
  subst hn
  exact spec_l9Good.calls k a0_0 A c tab r w h0 hc h
theorem spec_ParseBay.text (k : Nat) (a0_0 : Int) (A : Option Addr) (n c : Nat) (tab : List (List Int)) (r : ByteArray) (w : World) (hn : tab.length = n) (h0 : Kd.C (Kd.slice 3 (Kd.int .i64)) w A tab.length tab) (hc : tab.length ≤ c) (h : spec_l9Text.f k a0_0 tab = some r) :
    Calls Tryd.prog 12 #[.agg #[.int .i64 a0_0, .slice A n c]] w fun e w' => e = .returned (.string r) ∧ Below w.heap.size w w' := by
  subst hn
  exact spec_l9Text.calls k a0_0 A c tab r w h0 hc h
set_option maxHeartbeats 8000000 in
set_option maxRecDepth 100000 in
/-- THE CALL -/
theorem spec_ParseBay.calls (k : Nat) (a0 : ByteArray) (r1 : Int) (r2 : List (List Int)) (r3 : Bool) (w : World) (h : spec_ParseBay.f k a0 = some (r1, r2, r3)) :
    Calls Tryd.prog 4 #[.string a0] w fun e w' => ∃ v1_ : Value, e = .returned (.tuple #[.agg #[.int .i64 r1, v1_], .bool r3]) ∧ Kd.S (Kd.slice 3 (Kd.int .i64)) 33 w' w.heap.size (fun _ => True) v1_ r2 ∧ Below w.heap.size w w' := by
  have hub := Tryd.underlying24
  unfold spec_ParseBay.f at h
  split at h
  case isFalse => cases h
  case isTrue hs =>
  obtain ⟨ls, hls, h2⟩ := Option.bind_eq_some_iff.1 h
  have hss : a0.size ≤ 9223372036854775807 := by omega
  have HLs := Aside0.mk hls
  have HH := Aside0.mk h2
  clear h hls h2 hs
  obtain ⟨ll, hll⟩ : ∃ n : Nat, ls.length = n := ⟨_, rfl⟩
  rw [hll] at HH
  have HLl := Aside0.mk hll
  clear hll
  go_enter Tryd.func4, Tryd.ntmps4
  go_upto_region 3 with (first | ((with_reducible refine gate_dst (N := 2) rfl ?_); refine box_event ?hg (N := 2) ?hd (cs := #[.int .i64 0, .slice none 0 0]) (t := 24) ?hr ?_; (case hd => rfl); (case hg => rfl); (case hr => first | (go_simp; done) | (go_simp; rfl)); intro gr hgr w1 hbox hb; have BR1 := Aside0.mk hbox; have GR1 := Aside0.mk hgr; have HB1 := Aside0.mk hb; clear hbox hgr hb) | (go_at_call 9; refine (spec_l1Split.calls k a0 10 ls _ HLs.out).mono ?_; rintro e w3 ⟨vl, rfl, hL, hb⟩; have HL3 := Aside0.mk hL; have HB3 := Aside0.mk hb; clear hL hb))
  obtain ⟨A, c, e⟩ := Kd.R_slice HL3.out
  subst e
  have BN3 := Aside0.mk (blk_below (blk_new w1 (.cells #[.int .i64 0, .slice none 0 0] 24 (0, 0))) HB3.out)
  have BR3 := Aside0.mk (blk_below (blk_alloc BR1.out (.cells #[.int .i64 0, .slice none 0 0] 24 (0, 0))) HB3.out)
  have hba := below_alloc HB1.out (.cells #[.int .i64 0, .slice none 0 0] 24 (0, 0))
  have HL4 := Aside0.mk (show Kd.R Kd.string 9 w3 w.heap.size (fun _ => True) (.slice A ls.length c) ls from Kd.R_lower HL3.out hba.size)
  have HB4 := Aside0.mk (below_step hba HB3.out)
  have hgn := HB1.out.size
  have hgrn := blk_lt BR1.out
  obtain ⟨gn, hgne⟩ : ∃ g, g = w1.heap.size := ⟨_, rfl⟩
  rw [← hgne] at BN3 hgn hgrn
  have HGn := Aside0.mk (show w.heap.size ≤ gn ∧ gr ≠ gn from ⟨hgn, Nat.ne_of_lt hgrn⟩)
  have hll := Kd.C_max (Kd.R_reads' HL3.out).2.2
  rw [HLl.out] at HL4 hll ⊢
  (try rw [← hgne])
  clear HL3 hba HB3 hgn hgrn hgne HB1 BR1
  have hh := HH.out
  by_cases h80 : 80 < a0.size
  · rw [if_pos (Or.inl h80)] at hh
    injection hh with hh
    injection hh with e1 e2
    injection e2 with e2 e3
    subst e1 e2 e3
    have q1 : decide ((80 : Int) < (a0.size : Int)) = true := decide_eq_true (by omega)
    have q2 : decide (80 < a0.size) = true := decide_eq_true h80
    have hz0 : w3.cell? ⟨gr, 0, none⟩ = some (.int .i64 0) := (blk_cell BR3.out 0).trans rfl
    have hz1 : w3.cell? ⟨gr, 1, none⟩ = some (.slice none 0 0) := (blk_cell BR3.out 1).trans rfl
    have hf0 := blk_frozen BR3.out 0
    have hf1 := blk_frozen BR3.out 1
    have hy0 : w3.cell? ⟨gn, 0, none⟩ = some (.int .i64 0) := (blk_cell BN3.out 0).trans rfl
    have hy1 : w3.cell? ⟨gn, 1, none⟩ = some (.slice none 0 0) := (blk_cell BN3.out 1).trans rfl
    go_wp2
    refine bodyPost_ret (results_ct rfl _ _ gr 24 #[.int .i64 0, .slice none 0 0] (0, 0) _ rfl (by refine blk_put (cs := #[.int .i64 0, .slice none 0 0]) ?_ 1 _ rfl; refine blk_put (cs := #[.int .i64 0, .slice none 0 0]) ?_ 0 _ rfl; exact BR3.out) hub rfl (by kernel_rfl)) rfl ?_
    exact ⟨_, rfl, Kd.S_nil _ _ _ _ _, (HB4.out.setCell (p := ⟨gr, 0, none⟩) (by rw [GR1.out]; exact Nat.le_refl _) _).setCell (p := ⟨gr, 1, none⟩) (by rw [GR1.out]; exact Nat.le_refl _) _⟩
  have q1 : decide ((80 : Int) < (a0.size : Int)) = false := decide_eq_false (by omega)
  have q2 : decide (80 < a0.size) = false := decide_eq_false h80
  by_cases hin : 1 ≤ (ll : Int) - 1 ∧ (ll : Int) - 1 ≤ 4
  case neg =>
    rw [if_pos (Or.inr hin)] at hh
    injection hh with hh
    injection hh with e1 e2
    injection e2 with e2 e3
    subst e1 e2 e3
    have HIn := Aside0.mk (show spec_l1In.f ((ll : Int) - 1) 1 4 = some false by
      unfold spec_l1In.f
      split
      · exact congrArg some (decide_eq_false (by omega))
      · rfl)
    clear hin

    go_wp2_with (first | (go_at_call 10; refine (spec_l1In.calls ((ll : Int) - 1) 1 4 false _ HIn.out).mono ?_; rintro e w5 ⟨rfl, hd⟩; have BN5 := Aside0.mk (blk_below BN3.out hd.below); have BR5 := Aside0.mk (blk_below BR3.out hd.below); have HB5 := Aside0.mk (below_step HB4.out hd.below); clear hd BN3 BR3 HB4; have hz0 : w5.cell? ⟨gr, 0, none⟩ = some (.int .i64 0) := (blk_cell BR5.out 0).trans rfl; have hz1 : w5.cell? ⟨gr, 1, none⟩ = some (.slice none 0 0) := (blk_cell BR5.out 1).trans rfl; have hf0 := blk_frozen BR5.out 0; have hf1 := blk_frozen BR5.out 1; have hy0 : w5.cell? ⟨gn, 0, none⟩ = some (.int .i64 0) := (blk_cell BN5.out 0).trans rfl; have hy1 : w5.cell? ⟨gn, 1, none⟩ = some (.slice none 0 0) := (blk_cell BN5.out 1).trans rfl))
    refine bodyPost_ret (results_ct rfl _ _ gr 24 #[.int .i64 0, .slice none 0 0] (0, 0) _ rfl (by refine blk_put (cs := #[.int .i64 0, .slice none 0 0]) ?_ 1 _ rfl; refine blk_put (cs := #[.int .i64 0, .slice none 0 0]) ?_ 0 _ rfl; exact BR5.out) hub rfl (by kernel_rfl)) rfl ?_
    exact ⟨_, rfl, Kd.S_nil _ _ _ _ _, (HB5.out.setCell (p := ⟨gr, 0, none⟩) (by rw [GR1.out]; exact Nat.le_refl _) _).setCell (p := ⟨gr, 1, none⟩) (by rw [GR1.out]; exact Nat.le_refl _) _⟩
  rw [if_neg (by rintro (h | h); exact h80 h; exact h hin)] at hh
  obtain ⟨hi, hhi⟩ : ∃ n : Nat, (n : Int) = (ll : Int) - 1 ∧ ll = n + 1 := ⟨ll - 1, by omega, by omega⟩
  rw [← hhi.1] at hh
  have HHi := Aside0.mk hhi.2
  have HH2 := Aside0.mk (show (sbRows k (ls.take hi).reverse []).bind (sbFin k a0 (hi : Int)) = some (r1, r2, r3) by rw [hhi.2] at hh; exact hh)
  clear HH hh
  have hhi1 := hhi.1
  have hi1 : 1 ≤ hi := by omega
  have hi4 : hi ≤ 4 := by omega
  clear hhi
  have HIn := Aside0.mk (show spec_l1In.f ((ll : Int) - 1) 1 4 = some true by
    unfold spec_l1In.f
    rw [if_pos (by omega)]
    exact congrArg some (decide_eq_true (by omega)))
  go_upto_region 6 with (first | (go_at_call 10; refine (spec_l1In.calls ((ll : Int) - 1) 1 4 true _ HIn.out).mono ?_; rintro e w5 ⟨rfl, hd⟩; have BN5 := Aside0.mk (blk_below BN3.out hd.below); have BR5 := Aside0.mk (blk_below BR3.out hd.below); have HB5 := Aside0.mk (below_step HB4.out hd.below); have HL5 := Aside0.mk (Kd.R_below HL4.out hd.below); clear hd BN3 BR3 HB4 HL4))
  rw [← hhi1]
  obtain ⟨gb, hgb⟩ : ∃ g, g = w5.heap.size := ⟨_, rfl⟩
  have HP6 := Aside0.mk (show PbT w gr gb (hi : Int) (.slice none 0 0) [] (w5.alloc (.cells #[.int .i64 (hi : Int), .slice none 0 0] 24)) from ⟨Kd.S_nil _ _ _ _ _, by rw [hgb]; exact blk_new _ _, blk_alloc BR5.out _, ⟨by rw [GR1.out]; exact Nat.le_refl _, by rw [hgb]; exact HB5.out.size, by rw [hgb]; exact Nat.ne_of_lt (blk_lt BR5.out)⟩, below_alloc HB5.out _⟩)
  have HL6 := Aside0.mk (Kd.R_alloc HL5.out (.cells #[.int .i64 (hi : Int), .slice none 0 0] 24))
  have HN6 := Aside0.mk (blk_alloc BN5.out (.cells #[.int .i64 (hi : Int), .slice none 0 0] 24 (0, 0)))
  have HGb := Aside0.mk (show gn ≠ gb by rw [hgb]; exact Nat.ne_of_lt (blk_lt BN5.out))
  clear BN5 BR5 HB5 HL5 HIn q1 q2 h80 hin hhi1
  go_wp2
  (try rw [← hgb])
  clear hgb
  obtain ⟨gl, _, eA, _⟩ := Kd.R_form HL6.out (by rw [HLl.out, HHi.out]; exact Nat.succ_pos _)
  injection eA with eA h1 h2
  subst eA
  clear h1 h2
  go_loopw [8] (fun v8 wr => ∃ (j : Nat) (z : Int) (v : Value) (tab : List (List Int)), v8 = .int .i64 z ∧ Aside0 (z = (j : Int) - 1) ∧ Aside0 (j ≤ hi) ∧ Aside0 ((sbRows k (ls.take j).reverse tab).bind (sbFin k a0 (hi : Int)) = some (r1, r2, r3)) ∧ Aside0 (PbT w gr gb (hi : Int) v tab wr) ∧ Aside0 (Kd.R Kd.string 9 wr w.heap.size (fun _ => True) (.slice (some ⟨gl, 0, none⟩) ll c) ls) ∧ Aside0 (wr.heap[gn]? = some (.cells #[.int .i64 0, .slice none 0 0] 24 (0, 0)))) (fun v8 wr => (intOf v8 + 1).toNat)
  case atStart => exact ⟨hi, _, _, [], rfl, ⟨by omega⟩, ⟨Nat.le_refl _⟩, HH2, HP6, HL6, HN6⟩
  case round =>
    clear HP6 HL6 HN6 HH2
    obtain ⟨j, z, v, tab, rfl, HZ, HJ, HG3, HP, HL, HN⟩ := hrel
    cases j with
    | succ q =>
      obtain rfl : z = (q : Int) := by have := HZ.out; omega
      have hq : q < hi := by have := HJ.out; omega
      have hql : q < ll := by have := HHi.out; omega
      have hqb : decide (q < ll) = true := decide_eq_true hql
      have hqi : (q : Int) < (ll : Int) := by omega
      have hq0 : decide ((0 : Int) ≤ (q : Int)) = true := decide_eq_true (by omega)
      have hg := HG3.out
      obtain ⟨x, hxe⟩ : ∃ x, x = ls.getD q (⟨#[]⟩ : ByteArray) := ⟨_, rfl⟩
      rw [show (ls.take (q + 1)).reverse = x :: (ls.take q).reverse by rw [hxe, List.take_succ_eq_append_getElem (by rw [HLl.out]; exact hql), List.reverse_append, Go.Proofs.YtoiboejefgejfaaDoor.U.getD_at _ _ _ (by rw [HLl.out]; exact hql)]; rfl, sbRows] at hg
      obtain ⟨ad, eA, hx0⟩ := Kd.at_string (by have h1 := (Kd.R_reads' HL.out).2.2; rw [HLl.out] at h1; exact h1) (q : Int) (by omega) (by omega)
      injection eA with eA
      subst eA
      rw [Int.toNat_natCast, show (⟨gl, 0, none⟩ : Addr).add q = ⟨gl, q, none⟩ by unfold Addr.add; split <;> simp_all] at hx0
      replace hx0 : wr.cell? ⟨gl, q, none⟩ = some (.string x) := by rw [hxe]; exact hx0
      clear hxe HG3
      obtain ⟨o1, ho1, hfin⟩ := Option.bind_eq_some_iff.1 hg
      obtain ⟨ws, hws, ho2⟩ := Option.bind_eq_some_iff.1 ho1
      split at ho2
      case isFalse => cases ho2
      case isTrue hwl =>
      obtain ⟨np, hnp⟩ : ∃ n : Nat, ws.length = n := ⟨_, rfl⟩
      have hnpl : np ≤ 1000 := by rw [← hnp]; exact hwl
      have HCs := Aside0.mk (show ((sbAdd (ws.drop 0) 0 tab).bind fun o => o.elim (some none) fun t2 => sbRows k (ls.take q).reverse t2).bind (sbFin k a0 (hi : Int)) = some (r1, r2, r3) from Option.bind_eq_some_iff.2 ⟨o1, ho2, hfin⟩)
      have HWs := Aside0.mk hws
      have HNp := Aside0.mk hnp
      clear hg ho1 hws ho2 hfin hwl hnp
      go_wp2_with (first | (go_at_call 9; refine (spec_l1Split.calls k x 32 ws _ HWs.out).mono ?_; rintro e w4 ⟨vw, rfl, hQ, hb⟩; have HP4 := Aside0.mk (HP.out.below hb); have HL4 := Aside0.mk (Kd.R_below HL.out hb); have HN4 := Aside0.mk (blk_below HN.out hb); have HQ4 := Aside0.mk (show Kd.R Kd.string 9 w4 w.heap.size (fun _ => True) vw ws from Kd.R_lower hQ (below_size HP.out.2.2.2.2)); clear hb hQ HP HL HN))
      obtain ⟨Aw, cw, ew⟩ := Kd.R_slice HQ4.out
      subst ew
      rw [HNp.out] at HQ4 ⊢
      clear hx0 HWs hqb hqi hq0
      go_loopw [10] (fun v10 wr => ∃ (i : Nat) (v : Value) (tab : List (List Int)), v10 = .int .i64 (i : Int) ∧ Aside0 (i ≤ np) ∧ Aside0 (((sbAdd (ws.drop i) i tab).bind fun o => o.elim (some none) fun t2 => sbRows k (ls.take q).reverse t2).bind (sbFin k a0 (hi : Int)) = some (r1, r2, r3)) ∧ Aside0 (PbT w gr gb (hi : Int) v tab wr) ∧ Aside0 (Kd.R Kd.string 9 wr w.heap.size (fun _ => True) (.slice (some ⟨gl, 0, none⟩) ll c) ls) ∧ Aside0 (Kd.R Kd.string 9 wr w.heap.size (fun _ => True) (.slice Aw np cw) ws) ∧ Aside0 (wr.heap[gn]? = some (.cells #[.int .i64 0, .slice none 0 0] 24 (0, 0)))) (fun v10 wr => np - (intOf v10).toNat)
      case atStart => exact ⟨0, v, tab, rfl, ⟨Nat.zero_le _⟩, HCs, HP4, HL4, HQ4, HN4⟩
      case round =>
        clear HP4 HL4 HQ4 HCs HN4
        obtain ⟨i, v, tab, rfl, HLe2, HCs, HP, HL, HQ, HN⟩ := hrel
        by_cases hit : i < np
        · have hitb : decide (i < np) = true := decide_eq_true hit
          have hiti : (i : Int) < (np : Int) := by omega
          have hcs := HCs.out
          obtain ⟨p, hpe⟩ : ∃ p, p = ws.getD i (⟨#[]⟩ : ByteArray) := ⟨_, rfl⟩
          rw [show ws.drop i = p :: ws.drop (i + 1) by rw [hpe, Go.Proofs.YtoiboejefgejfaaDoor.U.getD_at _ _ _ (by rw [HNp.out]; exact hit), List.drop_eq_getElem_cons (by rw [HNp.out]; exact hit)], sbAdd] at hcs
          obtain ⟨gp, _, eA, _⟩ := Kd.R_form HQ.out (by rw [HNp.out]; omega)
          injection eA with eA h1 h2
          subst eA
          clear h1 h2
          obtain ⟨ad, eA, hx0⟩ := Kd.at_string (by have h1 := (Kd.R_reads' HQ.out).2.2; rw [HNp.out] at h1; exact h1) (i : Int) (by omega) (by omega)
          injection eA with eA
          subst eA
          rw [Int.toNat_natCast, show (⟨gp, 0, none⟩ : Addr).add i = ⟨gp, i, none⟩ by unfold Addr.add; split <;> simp_all] at hx0
          clear hx0
          obtain ⟨o9, h9, hfin⟩ := Option.bind_eq_some_iff.1 hcs
          obtain ⟨o8, h8, h7⟩ := Option.bind_eq_some_iff.1 h9
          split at h8
          case isFalse => cases h8
          case isTrue htl0 =>
          obtain ⟨Av, cv, ev⟩ := Kd.S_slice HP.out.1
          obtain ⟨tl, htl⟩ : ∃ n : Nat, tab.length = n := ⟨_, rfl⟩
          rw [htl] at ev htl0
          subst ev
          have HPe := Aside0.mk hpe
          have HTl := Aside0.mk htl
          have HC8 := Aside0.mk h8
          have HC7 := Aside0.mk (show (Option.elim o8 (some none) fun t2 => sbRows k (ls.take q).reverse t2) = some o9 ∧ sbFin k a0 (hi : Int) o9 = some (r1, r2, r3) from ⟨h7, hfin⟩)
          clear hpe htl h8 h7 h9 hfin hcs HCs
          have hbx := HP.out.box.2
          go_upto_if 49 with (fail)
          go_cut [] (fun wc => ∃ (v : Value) (tab2 : List (List Int)), Aside0 (tab2 = sbGrow tab i) ∧ Aside0 (PbT w gr gb (hi : Int) v tab2 wc) ∧ Aside0 (Kd.R Kd.string 9 wc w.heap.size (fun _ => True) (.slice (some ⟨gl, 0, none⟩) ll c) ls) ∧ Aside0 (Kd.R Kd.string 9 wc w.heap.size (fun _ => True) (.slice (some ⟨gp, 0, none⟩) np cw) ws) ∧ Aside0 (wc.heap[gn]? = some (.cells #[.int .i64 0, .slice none 0 0] 24 (0, 0))))
          case first =>
            by_cases htli : tl ≤ i
            · have t1 : decide ((tl : Int) ≤ (i : Int)) = true := decide_eq_true (by omega)
              have t2 : decide (tl ≤ i) = true := decide_eq_true htli
              obtain ⟨tab2, ht2⟩ : ∃ t, t = tab ++ [[]] := ⟨_, rfl⟩
              have HT2 := Aside0.mk ht2
              clear ht2
              go_wp2_with (first | ((with_reducible refine gate_dst (N := 52) rfl ?_); refine Kd.R_lit (Kd.int .i64) (w0 := wr) wr.heap.size 3 ?hg (N := 52) ?hd (xs := ([] : List Int)) (inner := []) (ok := fun k => wr.heap.size ≤ k) (okp := fun k => wr.heap.size ≤ k) ?hr ?hp (fun _ hk => hk) (Nat.le_refl _) (Below.refl _ _) (Nat.le_refl _) (by simp) ?_; (case hd => rfl); (case hg => rfl); (case hr => first | (go_simp; done) | (go_simp; rfl)); (case hp => exact (Reps.none _ _)); intro v52 w5 ho hb hg_ hnew_; have e5 := Kd.R_slice ho; rw [List.length_nil] at e5; obtain ⟨A52, c52, e5⟩ := e5; subst e5; have HR5 := Aside0.mk (Kd.R_lower ho (below_size HP.out.2.2.2.2)); have HO5 := Aside0.mk (Kd.S_mono (Kd.S_old HP.out.1 hb) (ok' := fun k => True ∧ ¬ wr.heap.size ≤ k) (fun k hk => ⟨trivial, by have := hk.2; omega⟩)); have HE5 := Aside0.mk (show ∀ k, wr.heap.size ≤ k → True ∧ some k ≠ (Value.slice Av tl cv).ownBlock from fun k hk => ⟨trivial, fun e => by have := Kd.S_lt HP.out.1 k e.symm; omega⟩); have HP5 := Aside0.mk (HP.out.below hb); have HL5 := Aside0.mk (Kd.R_below HL.out hb); have HQ5 := Aside0.mk (Kd.R_below HQ.out hb); have HN5 := Aside0.mk (blk_below HN.out hb); clear ho hb hg_ hnew_ hbx HP HL HQ HN) | ((with_reducible refine gate_builtin (b := .append) (xs := #[.tmp 51, .tmp 53]) rfl ?_); at_builtin; refine Kd.S_append (Kd.slice 3 (Kd.int .i64)) (w0 := w) w.heap.size rfl (.tmp 51) (.tmp 53) 22 33 (.slice none 0 0) 24 rfl Tryd.underlying22 pb_info rfl (by decide) (by omega) (.slice Av tl cv) tab [] [.slice A52 0 c52] (fun _ => True) (fun k => wr.heap.size ≤ k) rfl (by first | (go_simp; done) | (go_simp; rfl)) ?aP ?aK (fun _ _ => trivial) ?aO ?aB ?aS ?aL ?_; (case aP => exact Kd.M_row HR5.out); (case aK => exact HE5.out); (case aB => exact HP5.out.2.2.2.2); (case aO => exact HO5.out); (case aS => exact below_size HP5.out.2.2.2.2); (case aL => rw [HTl.out]; omega); intro v54 w6 ho hb hg hat; rw [← HT2.out] at ho; obtain ⟨A1, c1, e1⟩ := Kd.S_slice ho; subst e1; have HP6 := Aside0.mk (HP5.out.put ho hb hg); have HL6 := Aside0.mk (HP5.out.putR HL5.out hg (v1 := .slice A1 tab2.length c1)); have HQ6 := Aside0.mk (HP5.out.putR HQ5.out hg (v1 := .slice A1 tab2.length c1)); have HN6 := Aside0.mk (HP5.out.putB HN5.out HGb.out hg (v1 := .slice A1 tab2.length c1)); have hz6 : w6.cell? ⟨gb, 1, none⟩ = some (.slice Av tl cv) := (blk_cell (blk_grown HP5.out.2.1 hg (Kd.S_ne HP5.out.1 HP5.out.2.1 (by decide))) 1).trans rfl; have hf6 := blk_frozen (blk_grown HP5.out.2.1 hg (Kd.S_ne HP5.out.1 HP5.out.2.1 (by decide))) 1; clear ho hb hg hat))
              go_meet
              case rel => exact ⟨_, tab2, ⟨by unfold sbGrow; rw [HTl.out, if_pos htli]; exact HT2.out⟩, HP6, HL6, HQ6, HN6⟩
            · have t1 : decide ((tl : Int) ≤ (i : Int)) = false := decide_eq_false (by omega)
              have t2 : decide (tl ≤ i) = false := decide_eq_false htli
              go_wp2
              go_meet
              case rel => exact ⟨_, tab, ⟨by unfold sbGrow; rw [HTl.out, if_neg htli]⟩, HP, HL, HQ, HN⟩
          case rest =>
            clear HP HL HQ HN hbx HTl
            obtain ⟨v, tab2, HT2, HP, HL, HQ, HN⟩ := hcut
            obtain ⟨Av, cv, ev⟩ := Kd.S_slice HP.out.1
            obtain ⟨tl, htl⟩ : ∃ n : Nat, tab2.length = n := ⟨_, rfl⟩
            rw [htl] at ev
            subst ev
            have HTl := Aside0.mk htl
            clear htl
            have hx0 : wc.cell? ⟨gp, i, none⟩ = some (.string p) := by
              obtain ⟨ad, eA, hx0⟩ := Kd.at_string (by have h1 := (Kd.R_reads' HQ.out).2.2; rw [HNp.out] at h1; exact h1) (i : Int) (by omega) (by omega)
              injection eA with eA
              subst eA
              rw [Int.toNat_natCast, show (⟨gp, 0, none⟩ : Addr).add i = ⟨gp, i, none⟩ by unfold Addr.add; split <;> simp_all] at hx0
              rw [HPe.out]; exact hx0
            have h8 := HC8.out
            rw [← HT2.out] at h8
            clear HC8
            by_cases hdot : p.data.toList = [46, 46]
            · rw [if_pos hdot] at h8
              have HC2 := Aside0.mk (show ((sbAdd (ws.drop (i + 1)) (i + 1) tab2).bind fun o => o.elim (some none) fun t2 => sbRows k (ls.take q).reverse t2).bind (sbFin k a0 (hi : Int)) = some (r1, r2, r3) from Option.bind_eq_some_iff.2 ⟨o9, Option.bind_eq_some_iff.2 ⟨o8, h8, HC7.out.1⟩, HC7.out.2⟩)
              have d1 : p.toList = [46, 46] := by rw [sb_tl]; exact hdot
              have d2 : (p.toList == [46, 46]) = true := by rw [d1]; rfl
              have d3 : decide (p.toList = [46, 46]) = true := decide_eq_true d1
              clear h8 hdot
              go_wp2
              go_roundw
              case rel => exact ⟨i + 1, _, tab2, by go_num, ⟨hit⟩, HC2, HP, HL, HQ, HN⟩
              case measure => simp [intOf]; omega
            rw [if_neg hdot] at h8
            have d1 : ¬ p.toList = [46, 46] := by rw [sb_tl]; exact hdot
            have d2 : (p.toList == [46, 46]) = false := by simpa using d1
            have d3 : decide (p.toList = [46, 46]) = false := decide_eq_false d1
            by_cases hsz : p.size = 2
            case neg =>
              rw [if_pos hsz] at h8
              injection h8 with h8
              subst h8
              have hfin := HC7.out
              have e9 := hfin.1
              injection e9 with e9
              subst e9
              have hh := hfin.2
              clear hfin
              unfold sbFin at hh
              injection hh with hh
              injection hh with e1 e2
              injection e2 with e2 e3
              subst e1 e2 e3
              have p1 : ((p.size : Int) != 2) = true := bne_iff_ne.mpr (by omega)
              have p2 : (p.size != 2) = true := bne_iff_ne.mpr hsz
              have p3 : decide ((p.size : Int) = 2) = false := decide_eq_false (by omega)
              have p4 : decide (p.size = 2) = false := decide_eq_false hsz
              have hz0 : wc.cell? ⟨gr, 0, none⟩ = some (.int .i64 0) := (blk_cell HP.out.2.2.1 0).trans rfl
              have hz1 : wc.cell? ⟨gr, 1, none⟩ = some (.slice none 0 0) := (blk_cell HP.out.2.2.1 1).trans rfl
              have hf0 := blk_frozen HP.out.2.2.1 0
              have hf1 := blk_frozen HP.out.2.2.1 1
              have hy0 : wc.cell? ⟨gn, 0, none⟩ = some (.int .i64 0) := (blk_cell HN.out 0).trans rfl
              have hy1 : wc.cell? ⟨gn, 1, none⟩ = some (.slice none 0 0) := (blk_cell HN.out 1).trans rfl
              go_wp2
              refine bodyPost_ret (results_ct rfl _ _ gr 24 #[.int .i64 0, .slice none 0 0] (0, 0) _ rfl (by refine blk_put (cs := #[.int .i64 0, .slice none 0 0]) ?_ 1 _ rfl; refine blk_put (cs := #[.int .i64 0, .slice none 0 0]) ?_ 0 _ rfl; exact HP.out.2.2.1) hub rfl (by kernel_rfl)) rfl ?_
              exact ⟨_, rfl, Kd.S_nil _ _ _ _ _, (HP.out.2.2.2.2.setCell (p := ⟨gr, 0, none⟩) (by rw [GR1.out]; exact Nat.le_refl _) _).setCell (p := ⟨gr, 1, none⟩) (by rw [GR1.out]; exact Nat.le_refl _) _⟩
            rw [if_neg (fun h => h hsz)] at h8
            have p1 : ((p.size : Int) != 2) = false := by rw [hsz]; rfl
            have p2 : (p.size != 2) = false := by rw [hsz]; rfl
            have p3 : decide ((p.size : Int) = 2) = true := by rw [hsz]; rfl
            have p4 : decide (p.size = 2) = true := by rw [hsz]; rfl
            split at h8
            case isFalse => cases h8
            case isTrue hrow =>
            have HC8 := Aside0.mk h8
            have hrow1 := hrow.1
            rw [HTl.out] at hrow1
            have hrow2 := hrow.2
            clear h8 hrow
            go_upto_region 19 with (fail)
            have HP5 := Aside0.mk HP.out.drew
            have HL5 := Aside0.mk (Kd.R_drew HL.out)
            have HQ5 := Aside0.mk (Kd.R_drew HQ.out)
            have HN5 := Aside0.mk (show wc.drew.heap[gn]? = some (.cells #[.int .i64 0, .slice none 0 0] 24 (0, 0)) from HN.out)
            obtain ⟨row, hrow⟩ : ∃ r : List Int, r = tab2.getD i [] := ⟨_, rfl⟩
            obtain ⟨gt, _, ev, _⟩ := Kd.S_form HP.out.1 (by rw [HTl.out]; omega)
            injection ev with ev h1 h2
            subst ev
            clear h1 h2
            obtain ⟨A5, c5, oki5, hcel5, hR5, hoki5, hst5⟩ := pb_elem HP5.out.1 i (by rw [HTl.out]; exact hrow1)
            rw [← hrow] at hcel5 hR5 hst5
            have hrl : row.length ≤ 1000 := by rw [hrow]; exact hrow2
            have HRw := Aside0.mk hrow
            have HR5 := Aside0.mk hR5
            have HO5 := Aside0.mk hoki5
            have HSt5 := Aside0.mk hst5
            obtain ⟨row5, hrow5⟩ : ∃ r : List Int, r = row ++ [sbNum p] := ⟨_, rfl⟩
            have HR6 := Aside0.mk hrow5
            have hS0 : wc.drew.cell? ⟨gb, 1, none⟩ = some (.slice (some ⟨gt, 0, none⟩) tl cv) ∧ wc.drew.cell? ⟨gt, i, none⟩ = some (.slice A5 row.length c5) ∧ wc.drew.cell? ⟨gp, i, none⟩ = some (.string p) := ⟨HP5.out.box.2, hcel5, hx0⟩
            have htil : decide (i < tl) = true := decide_eq_true hrow1
            have htii : (i : Int) < (tl : Int) := by omega
            have hnum := sbNum_wrap p
            clear hcel5 hR5 hoki5 hst5 hrow hrow5 hrow2 HP HL HQ HN d1 d2 d3 hx0 p1 p2 p3 p4 hdot
            refine start_ (n := 28) (S := fun w' => w'.cell? ⟨gb, 1, none⟩ = some (.slice (some ⟨gt, 0, none⟩) tl cv) ∧ w'.cell? ⟨gt, i, none⟩ = some (.slice A5 row.length c5) ∧ w'.cell? ⟨gp, i, none⟩ = some (.string p)) (ds := [27]) #[false, false, false, false, false, false, false, false, false, false, false, false, false, false, false, false, false, false, false, false, false, false, false, false, false, false, false, false] (by kernel_rfl) rfl rfl hS0 (fun hHeld => ?_)
            refine with_tabW spec_ParseBay.tab19 spec_ParseBay.bits19 (fun HT_ HW_ => ?_)
            generalize wc.drew = w5 at HP5 HL5 HQ5 HN5 HR5 HO5 HSt5 hS0 hHeld ⊢
            refine pure_ (i := 0) (N := some 68) (v := ?_) (a' := ?_) #[true, false, false, false, false, false, false, false, false, false, false, false, false, false, false, false, false, false, false, false, false, false, false, false, false, false, false, false] rfl rfl (any_of HT_.out (by kernel_rfl)) (fun _ _ _ h => h) (Or.inl ⟨by rfl, ?_⟩) ?_ ?_
            rotate_left
            · intro w'
              go_simp
              with_reducible rfl
            rotate_left
            · simp only [Act.put, List.setIfInBounds_toArray, List.set_cons_zero, List.set_cons_succ, i64_w, i32_w]
              rfl
            refine pure_ (i := 2) (N := some 70) (v := ?_) (a' := ?_) #[true, false, true, false, false, false, false, false, false, false, false, false, false, false, false, false, false, false, false, false, false, false, false, false, false, false, false, false] rfl rfl (any_of HT_.out (by kernel_rfl)) (fun _ _ _ h => h) (Or.inl ⟨by rfl, ?_⟩) ?_ ?_
            rotate_left
            · intro w'
              go_simp
              with_reducible rfl
            rotate_left
            · simp only [Act.put, List.setIfInBounds_toArray, List.set_cons_zero, List.set_cons_succ, i64_w, i32_w]
              rfl
            refine pure_ (i := 3) (N := some 71) (v := ?_) (a' := ?_) #[true, false, true, true, false, false, false, false, false, false, false, false, false, false, false, false, false, false, false, false, false, false, false, false, false, false, false, false] rfl rfl (any_of HT_.out (by kernel_rfl)) (fun _ _ _ h => h) (Or.inl ⟨by rfl, ?_⟩) ?_ ?_
            rotate_left
            · intro w'
              go_simp
              with_reducible rfl
            rotate_left
            · simp only [Act.put, List.setIfInBounds_toArray, List.set_cons_zero, List.set_cons_succ, i64_w, i32_w]
              rfl
            refine pure_ (i := 5) (N := some 73) (v := ?_) (a' := ?_) #[true, false, true, true, false, true, false, false, false, false, false, false, false, false, false, false, false, false, false, false, false, false, false, false, false, false, false, false] rfl rfl (any_of HT_.out (by kernel_rfl)) (fun _ _ _ h => h) (Or.inl ⟨by rfl, ?_⟩) ?_ ?_
            rotate_left
            · intro w'
              go_simp
              with_reducible rfl
            rotate_left
            · simp only [Act.put, List.setIfInBounds_toArray, List.set_cons_zero, List.set_cons_succ, i64_w, i32_w]
              rfl
            refine pure_ (i := 8) (N := some 76) (v := ?_) (a' := ?_) #[true, false, true, true, false, true, false, false, true, false, false, false, false, false, false, false, false, false, false, false, false, false, false, false, false, false, false, false] rfl rfl (any_of HT_.out (by kernel_rfl)) (fun _ _ _ h => h) (Or.inl ⟨by rfl, ?_⟩) ?_ ?_
            rotate_left
            · intro w'
              go_simp
              with_reducible rfl
            rotate_left
            · simp only [Act.put, List.setIfInBounds_toArray, List.set_cons_zero, List.set_cons_succ, i64_w, i32_w]
              rfl
            refine pure_ (i := 9) (N := some 77) (v := ?_) (a' := ?_) #[true, false, true, true, false, true, false, false, true, true, false, false, false, false, false, false, false, false, false, false, false, false, false, false, false, false, false, false] rfl rfl (any_of HT_.out (by kernel_rfl)) (fun _ _ _ h => h) (Or.inl ⟨by rfl, ?_⟩) ?_ ?_
            rotate_left
            · intro w'
              go_simp
              with_reducible rfl
            rotate_left
            · simp only [Act.put, List.setIfInBounds_toArray, List.set_cons_zero, List.set_cons_succ, i64_w, i32_w]
              rfl
            refine pure_ (i := 16) (N := some 84) (v := ?_) (a' := ?_) #[true, false, true, true, false, true, false, false, true, true, false, false, false, false, false, false, true, false, false, false, false, false, false, false, false, false, false, false] rfl rfl (any_of HT_.out (by kernel_rfl)) (fun _ _ _ h => h) (Or.inl ⟨by rfl, ?_⟩) ?_ ?_
            rotate_left
            · intro w'
              go_simp
              with_reducible rfl
            rotate_left
            · simp only [Act.put, List.setIfInBounds_toArray, List.set_cons_zero, List.set_cons_succ, i64_w, i32_w]
              rfl
            refine pure_ (i := 17) (N := some 85) (v := ?_) (a' := ?_) #[true, false, true, true, false, true, false, false, true, true, false, false, false, false, false, false, true, true, false, false, false, false, false, false, false, false, false, false] rfl rfl (any_of HT_.out (by kernel_rfl)) (fun _ _ _ h => h) (Or.inl ⟨by rfl, ?_⟩) ?_ ?_
            rotate_left
            · intro w'
              go_simp
              with_reducible rfl
            rotate_left
            · simp only [Act.put, List.setIfInBounds_toArray, List.set_cons_zero, List.set_cons_succ, i64_w, i32_w]
              rfl
            refine take_ (i := 1) (N := some 69) (v := ?_) (a' := ?_) #[true, true, true, true, false, true, false, false, true, true, false, false, false, false, false, false, true, true, false, false, false, false, false, false, false, false, false, false] rfl rfl (take_ofW HT_.out HW_.out (by kernel_rfl)) (fun _ _ _ h => h) (Or.inl ⟨by rfl, ?_⟩) hHeld ?_ ?_
            rotate_left
            · rintro w' ⟨s0, s1, s2⟩
              go_simp
              with_reducible rfl
            rotate_left
            · simp only [Act.put, List.setIfInBounds_toArray, List.set_cons_zero, List.set_cons_succ, i64_w, i32_w]
              rfl
            refine take_ (i := 4) (N := some 72) (v := ?_) (a' := ?_) #[true, true, true, true, true, true, false, false, true, true, false, false, false, false, false, false, true, true, false, false, false, false, false, false, false, false, false, false] rfl rfl (take_ofW HT_.out HW_.out (by kernel_rfl)) (fun _ _ _ h => h) (Or.inl ⟨by rfl, ?_⟩) hHeld ?_ ?_
            rotate_left
            · rintro w' ⟨s0, s1, s2⟩
              go_simp
              with_reducible rfl
            rotate_left
            · simp only [Act.put, List.setIfInBounds_toArray, List.set_cons_zero, List.set_cons_succ, i64_w, i32_w]
              rfl
            refine take_ (i := 6) (N := some 74) (v := ?_) (a' := ?_) #[true, true, true, true, true, true, true, false, true, true, false, false, false, false, false, false, true, true, false, false, false, false, false, false, false, false, false, false] rfl rfl (take_ofW HT_.out HW_.out (by kernel_rfl)) (fun _ _ _ h => h) (Or.inl ⟨by rfl, ?_⟩) hHeld ?_ ?_
            rotate_left
            · rintro w' ⟨s0, s1, s2⟩
              go_simp
              with_reducible rfl
            rotate_left
            · simp only [Act.put, List.setIfInBounds_toArray, List.set_cons_zero, List.set_cons_succ, i64_w, i32_w]
              rfl
            refine take_ (i := 7) (N := some 75) (v := ?_) (a' := ?_) #[true, true, true, true, true, true, true, true, true, true, false, false, false, false, false, false, true, true, false, false, false, false, false, false, false, false, false, false] rfl rfl (take_ofW HT_.out HW_.out (by kernel_rfl)) (fun _ _ _ h => h) (Or.inl ⟨by rfl, ?_⟩) hHeld ?_ ?_
            rotate_left
            · rintro w' ⟨s0, s1, s2⟩
              go_simp
              with_reducible rfl
            rotate_left
            · simp only [Act.put, List.setIfInBounds_toArray, List.set_cons_zero, List.set_cons_succ, i64_w, i32_w]
              rfl
            refine take_ (i := 10) (N := some 78) (v := ?_) (a' := ?_) #[true, true, true, true, true, true, true, true, true, true, true, false, false, false, false, false, true, true, false, false, false, false, false, false, false, false, false, false] rfl rfl (take_ofW HT_.out HW_.out (by kernel_rfl)) (fun _ _ _ h => h) (Or.inl ⟨by rfl, ?_⟩) hHeld ?_ ?_
            rotate_left
            · rintro w' ⟨s0, s1, s2⟩
              go_simp
              with_reducible rfl
            rotate_left
            · simp only [Act.put, List.setIfInBounds_toArray, List.set_cons_zero, List.set_cons_succ, i64_w, i32_w]
              rfl
            refine take_ (i := 11) (N := some 79) (v := ?_) (a' := ?_) #[true, true, true, true, true, true, true, true, true, true, true, true, false, false, false, false, true, true, false, false, false, false, false, false, false, false, false, false] rfl rfl (take_ofW HT_.out HW_.out (by kernel_rfl)) (fun _ _ _ h => h) (Or.inl ⟨by rfl, ?_⟩) hHeld ?_ ?_
            rotate_left
            · rintro w' ⟨s0, s1, s2⟩
              go_simp
              with_reducible rfl
            rotate_left
            · simp only [Act.put, List.setIfInBounds_toArray, List.set_cons_zero, List.set_cons_succ, i64_w, i32_w]
              rfl
            refine pure_ (i := 12) (N := some 80) (v := ?_) (a' := ?_) #[true, true, true, true, true, true, true, true, true, true, true, true, true, false, false, false, true, true, false, false, false, false, false, false, false, false, false, false] rfl rfl (any_of HT_.out (by kernel_rfl)) (fun _ _ _ h => h) (Or.inl ⟨by rfl, ?_⟩) ?_ ?_
            rotate_left
            · intro w'
              go_simp
              with_reducible rfl
            rotate_left
            · simp only [Act.put, List.setIfInBounds_toArray, List.set_cons_zero, List.set_cons_succ, i64_w, i32_w]
              rfl
            refine pure_ (i := 13) (N := some 81) (v := ?_) (a' := ?_) #[true, true, true, true, true, true, true, true, true, true, true, true, true, true, false, false, true, true, false, false, false, false, false, false, false, false, false, false] rfl rfl (any_of HT_.out (by kernel_rfl)) (fun _ _ _ h => h) (Or.inl ⟨by rfl, ?_⟩) ?_ ?_
            rotate_left
            · intro w'
              go_simp
              with_reducible rfl
            rotate_left
            · simp only [Act.put, List.setIfInBounds_toArray, List.set_cons_zero, List.set_cons_succ, i64_w, i32_w]
              rfl
            refine pure_ (i := 14) (N := some 82) (v := ?_) (a' := ?_) #[true, true, true, true, true, true, true, true, true, true, true, true, true, true, true, false, true, true, false, false, false, false, false, false, false, false, false, false] rfl rfl (any_of HT_.out (by kernel_rfl)) (fun _ _ _ h => h) (Or.inl ⟨by rfl, ?_⟩) ?_ ?_
            rotate_left
            · intro w'
              go_simp
              with_reducible rfl
            rotate_left
            · simp only [Act.put, List.setIfInBounds_toArray, List.set_cons_zero, List.set_cons_succ, i64_w, i32_w]
              rfl
            refine pure_ (i := 15) (N := some 83) (v := ?_) (a' := ?_) #[true, true, true, true, true, true, true, true, true, true, true, true, true, true, true, true, true, true, false, false, false, false, false, false, false, false, false, false] rfl rfl (any_of HT_.out (by kernel_rfl)) (fun _ _ _ h => h) (Or.inl ⟨by rfl, ?_⟩) ?_ ?_
            rotate_left
            · intro w'
              go_simp
              with_reducible rfl
            rotate_left
            · simp only [Act.put, List.setIfInBounds_toArray, List.set_cons_zero, List.set_cons_succ, i64_w, i32_w]
              rfl
            refine take_ (i := 18) (N := some 86) (v := ?_) (a' := ?_) #[true, true, true, true, true, true, true, true, true, true, true, true, true, true, true, true, true, true, true, false, false, false, false, false, false, false, false, false] rfl rfl (take_ofW HT_.out HW_.out (by kernel_rfl)) (fun _ _ _ h => h) (Or.inl ⟨by rfl, ?_⟩) hHeld ?_ ?_
            rotate_left
            · rintro w' ⟨s0, s1, s2⟩
              go_simp
              with_reducible rfl
            rotate_left
            · simp only [Act.put, List.setIfInBounds_toArray, List.set_cons_zero, List.set_cons_succ, i64_w, i32_w]
              rfl
            refine take_ (i := 19) (N := some 87) (v := ?_) (a' := ?_) #[true, true, true, true, true, true, true, true, true, true, true, true, true, true, true, true, true, true, true, true, false, false, false, false, false, false, false, false] rfl rfl (take_ofW HT_.out HW_.out (by kernel_rfl)) (fun _ _ _ h => h) (Or.inl ⟨by rfl, ?_⟩) hHeld ?_ ?_
            rotate_left
            · rintro w' ⟨s0, s1, s2⟩
              go_simp
              with_reducible rfl
            rotate_left
            · simp only [Act.put, List.setIfInBounds_toArray, List.set_cons_zero, List.set_cons_succ, i64_w, i32_w]
              rfl
            refine pure_ (i := 20) (N := some 88) (v := ?_) (a' := ?_) #[true, true, true, true, true, true, true, true, true, true, true, true, true, true, true, true, true, true, true, true, true, false, false, false, false, false, false, false] rfl rfl (any_of HT_.out (by kernel_rfl)) (fun _ _ _ h => h) (Or.inl ⟨by rfl, ?_⟩) ?_ ?_
            rotate_left
            · intro w'
              go_simp
              with_reducible rfl
            rotate_left
            · simp only [Act.put, List.setIfInBounds_toArray, List.set_cons_zero, List.set_cons_succ, i64_w, i32_w]
              rfl
            refine pure_ (i := 21) (N := some 89) (v := ?_) (a' := ?_) #[true, true, true, true, true, true, true, true, true, true, true, true, true, true, true, true, true, true, true, true, true, true, false, false, false, false, false, false] rfl rfl (any_of HT_.out (by kernel_rfl)) (fun _ _ _ h => h) (Or.inl ⟨by rfl, ?_⟩) ?_ ?_
            rotate_left
            · intro w'
              go_simp
              with_reducible rfl
            rotate_left
            · simp only [Act.put, List.setIfInBounds_toArray, List.set_cons_zero, List.set_cons_succ, i64_w, i32_w]
              rfl
            refine pure_ (i := 22) (N := some 90) (v := ?_) (a' := ?_) #[true, true, true, true, true, true, true, true, true, true, true, true, true, true, true, true, true, true, true, true, true, true, true, false, false, false, false, false] rfl rfl (any_of HT_.out (by kernel_rfl)) (fun _ _ _ h => h) (Or.inl ⟨by rfl, ?_⟩) ?_ ?_
            rotate_left
            · intro w'
              go_simp
              with_reducible rfl
            rotate_left
            · simp only [Act.put, List.setIfInBounds_toArray, List.set_cons_zero, List.set_cons_succ, i64_w, i32_w]
              rfl
            refine pure_ (i := 23) (N := some 91) (v := ?_) (a' := ?_) #[true, true, true, true, true, true, true, true, true, true, true, true, true, true, true, true, true, true, true, true, true, true, true, true, false, false, false, false] rfl rfl (any_of HT_.out (by kernel_rfl)) (fun _ _ _ h => h) (Or.inl ⟨by rfl, ?_⟩) ?_ ?_
            rotate_left
            · intro w'
              go_simp
              with_reducible rfl
            rotate_left
            · simp only [Act.put, List.setIfInBounds_toArray, List.set_cons_zero, List.set_cons_succ, i64_w, i32_w]
              rfl
            refine one_ (i := 24) (N := some 92) #[true, true, true, true, true, true, true, true, true, true, true, true, true, true, true, true, true, true, true, true, true, true, true, true, true, false, false, false] rfl rfl (one_of HT_.out (by kernel_rfl)) (by decide) (fun K hK => ?_)
            refine value_ (w1 := ?_) (v := ?_) (by rfl) rfl ?_ ?_
            rotate_left 2
            · go_simp
              constructor
              · rfl
              · rfl
            refine hK.out _ _ ⟨((below_alloc (Below.refl w5.heap.size w5) _).cell (World.block_lt_of_cell? _ _ hS0.1)).trans hS0.1, ((below_alloc (Below.refl w5.heap.size w5) _).cell (World.block_lt_of_cell? _ _ hS0.2.1)).trans hS0.2.1, ((below_alloc (Below.refl w5.heap.size w5) _).cell (World.block_lt_of_cell? _ _ hS0.2.2)).trans hS0.2.2⟩ (fun hHeld => ?_)
            clear hK K
            refine norm_ (a' := ?_) ?_ ?_
            rotate_left
            · show Act.put _ (some 92) _ = _
              simp only [Act.put, List.setIfInBounds_toArray, List.set_cons_zero, List.set_cons_succ, i64_w, i32_w]
              rfl
            refine one_ (i := 25) (N := some 93) #[true, true, true, true, true, true, true, true, true, true, true, true, true, true, true, true, true, true, true, true, true, true, true, true, true, true, false, false] rfl rfl (one_of HT_.out (by kernel_rfl)) (by decide) (fun K hK => ?_)
            rw [hnum (by omega) (by omega)]
            refine Kd.R_append_step (Kd.int .i64) (w0 := w) w.heap.size (by rfl) (.tmp 75) (.tmp 92) 33 3 (.int .i64 0) 8 rfl Tryd.underlying33 info3 rfl (by decide) (by omega) (.slice A5 row.length c5) row (sbNum p) [.int .i64 (sbNum p)] (fun k => oki5 k ∨ True ∧ w5.heap.size ≤ k) (fun _ => False) rfl rfl ?aP (fun _ hk => hk.elim) ?aF ?aO ?aB ?aS ?aL ?_
            (case aP => exact rfl)
            (case aB => exact HP5.out.2.2.2.2)
            (case aF => exact fun k hk => Or.inr ⟨trivial, hk⟩)
            (case aO => exact Kd.R_mono HR5.out (fun _ hk => Or.inl hk))
            (case aS => exact below_size HP5.out.2.2.2.2)
            (case aL => omega)
            intro v93 w8 ho hb hg hat
            rw [← HR6.out] at ho
            obtain ⟨A8, c8, rfl⟩ := Kd.R_slice ho
            obtain ⟨hcz8, hfz8, hS8⟩ := HSt5.out w8 _ row5 hg ho
            have HP8 := Aside0.mk (PbT.set HP5.out HR5.out hS8 hb hg)
            have HL8 := Aside0.mk (PbT.setR (i := i) (v1 := .slice A8 row5.length c8) HP5.out HR5.out HL5.out hg)
            have HQ8 := Aside0.mk (PbT.setR (i := i) (v1 := .slice A8 row5.length c8) HP5.out HR5.out HQ5.out hg)
            have HN8 := Aside0.mk (PbT.setB (i := i) (v1 := .slice A8 row5.length c8) HP5.out HR5.out HN5.out hg)
            have hz8 : w8.cell? ⟨gb, 1, none⟩ = some (.slice (some ⟨gt, 0, none⟩) tl cv) := (blk_cell (blk_grown HP5.out.2.1 hg (Kd.R_ne HR5.out HP5.out.2.1 (by decide))) 1).trans rfl
            obtain ⟨csp, hcp⟩ := Kd.R_typed HQ5.out gp rfl
            have hzp8 : w8.cell? ⟨gp, i, none⟩ = some (.string p) := (blk_cell (blk_grown hcp hg (Kd.R_ne HR5.out hcp (by decide))) i).trans ((blk_cell hcp i).symm.trans hS0.2.2)
            clear hS8 ho hb hg hat hS0 hcp
            refine hK.out _ _ ⟨hz8, hcz8, hzp8⟩ (fun hHeld => ?_)
            clear hK K
            refine norm_ (a' := ?_) ?_ ?_
            rotate_left
            · show Act.put _ (some 93) _ = _
              simp only [Act.put, List.setIfInBounds_toArray, List.set_cons_zero, List.set_cons_succ, i64_w, i32_w]
              rfl
            refine pure_ (i := 26) (N := some 94) (v := ?_) (a' := ?_) #[true, true, true, true, true, true, true, true, true, true, true, true, true, true, true, true, true, true, true, true, true, true, true, true, true, true, true, false] rfl rfl (any_of HT_.out (by kernel_rfl)) (fun _ _ _ h => h) (Or.inl ⟨by rfl, ?_⟩) ?_ ?_
            rotate_left
            · intro w'
              go_simp
              with_reducible rfl
            rotate_left
            · simp only [Act.put, List.setIfInBounds_toArray, List.set_cons_zero, List.set_cons_succ, i64_w, i32_w]
              rfl
            refine last_ (i := 27) (N := none) #[true, true, true, true, true, true, true, true, true, true, true, true, true, true, true, true, true, true, true, true, true, true, true, true, true, true, true, true] rfl rfl (one_of HT_.out (by kernel_rfl)) (by decide) (fun K hK => ?_)
            refine skip_ (w1 := ?_) (by rfl) rfl ?_ ?_
            rotate_left
            · go_simp
              rfl
            refine hK.out _ _ ?_
            clear hK K
            refine done_ (done_of HT_.out (by kernel_rfl)) ?_
            go_wp2
            go_roundw
            case rel => exact ⟨i + 1, _, tab2.set i row5, by go_num, ⟨hit⟩, ⟨Option.bind_eq_some_iff.2 ⟨o9, Option.bind_eq_some_iff.2 ⟨o8, by rw [HR6.out, HRw.out]; exact HC8.out, HC7.out.1⟩, HC7.out.2⟩⟩, HP8, HL8, HQ8, HN8⟩
            case measure => simp [intOf]; omega
        · have hitb : decide (i < np) = false := decide_eq_false hit
          have hcs := HCs.out
          rw [List.drop_of_length_le (by rw [HNp.out]; omega), sbAdd] at hcs
          have HC2 := Aside0.mk (show (sbRows k (ls.take q).reverse tab).bind (sbFin k a0 (hi : Int)) = some (r1, r2, r3) from hcs)
          clear hcs HCs
          go_wp2
          go_roundw
          case rel => exact ⟨q, (q : Int) - 1, v, tab, by first | rfl | go_num, ⟨rfl⟩, ⟨by omega⟩, HC2, HP, HL, HN⟩
          case measure => first | (simp [intOf]; done) | (simp [intOf]; omega)
    | zero =>
      obtain rfl : z = -1 := by have := HZ.out; omega
      have hg : sbFin k a0 (hi : Int) (some tab) = some (r1, r2, r3) := HG3.out
      unfold sbFin at hg
      obtain ⟨v9, hv, hg2⟩ := Option.bind_eq_some_iff.1 hg
      have HV := Aside0.mk hv
      obtain ⟨Av, cv, ev⟩ := Kd.S_slice HP.out.1
      obtain ⟨tl, htl⟩ : ∃ n : Nat, tab.length = n := ⟨_, rfl⟩
      rw [htl] at ev
      subst ev
      have HTl := Aside0.mk htl
      have hb0 : wr.cell? ⟨gb, 0, none⟩ = some (.int .i64 (hi : Int)) := HP.out.box.1
      have hb1 : wr.cell? ⟨gb, 1, none⟩ = some (.slice Av tl cv) := HP.out.box.2
      clear hg hv HG3 htl
      cases v9 with
      | false =>
        rw [if_neg (by decide)] at hg2
        injection hg2 with hg2
        injection hg2 with e1 e2
        injection e2 with e2 e3
        subst e1 e2 e3
        go_wp2_with (first | (go_at_call 11; refine (spec_ParseBay.valid k (hi : Int) _ tl _ tab false _ HTl.out (Kd.S_reads' HP.out.1).2.2 (by rw [HTl.out]; exact (Kd.S_reads' HP.out.1).2.1) HV.out).mono ?_; rintro e w7 ⟨rfl, hb⟩; have HP7 := Aside0.mk (HP.out.below hb); have HN7 := Aside0.mk (blk_below HN.out hb); clear hb HP HN; have hb0 : w7.cell? ⟨gb, 0, none⟩ = some (.int .i64 (hi : Int)) := HP7.out.box.1; have hb1 : w7.cell? ⟨gb, 1, none⟩ = some (.slice Av tl cv) := HP7.out.box.2; have hz0 : w7.cell? ⟨gr, 0, none⟩ = some (.int .i64 0) := (blk_cell HP7.out.2.2.1 0).trans rfl; have hz1 : w7.cell? ⟨gr, 1, none⟩ = some (.slice none 0 0) := (blk_cell HP7.out.2.2.1 1).trans rfl; have hf0 := blk_frozen HP7.out.2.2.1 0; have hf1 := blk_frozen HP7.out.2.2.1 1; have hy0 : w7.cell? ⟨gn, 0, none⟩ = some (.int .i64 0) := (blk_cell HN7.out 0).trans rfl; have hy1 : w7.cell? ⟨gn, 1, none⟩ = some (.slice none 0 0) := (blk_cell HN7.out 1).trans rfl))
        refine bodyPost_ret (results_ct rfl _ _ gr 24 #[.int .i64 0, .slice none 0 0] (0, 0) _ rfl (by refine blk_put (cs := #[.int .i64 0, .slice none 0 0]) ?_ 1 _ rfl; refine blk_put (cs := #[.int .i64 0, .slice none 0 0]) ?_ 0 _ rfl; exact HP7.out.2.2.1) hub rfl (by kernel_rfl)) rfl ?_
        exact ⟨_, rfl, Kd.S_nil _ _ _ _ _, (HP7.out.2.2.2.2.setCell (p := ⟨gr, 0, none⟩) (by rw [GR1.out]; exact Nat.le_refl _) _).setCell (p := ⟨gr, 1, none⟩) (by rw [GR1.out]; exact Nat.le_refl _) _⟩
      | true =>
        rw [if_pos rfl] at hg2
        obtain ⟨u, hu, hg3⟩ := Option.bind_eq_some_iff.1 hg2
        have HU := Aside0.mk hu
        clear hg2 hu
        by_cases hus : u = a0
        · rw [if_pos hus] at hg3
          injection hg3 with hg3
          injection hg3 with e1 e2
          injection e2 with e2 e3
          subst e1 e2 e3
          have u1 : (u.toList == a0.toList) = true := by rw [hus]; simp
          have u2 : (u.toList != a0.toList) = false := by rw [hus]; simp
          have u3 : decide (u.toList = a0.toList) = true := decide_eq_true (by rw [hus])
          subst hus
          go_wp2_with (first | (go_at_call 11; refine (spec_ParseBay.valid k (hi : Int) _ tl _ tab true _ HTl.out (Kd.S_reads' HP.out.1).2.2 (by rw [HTl.out]; exact (Kd.S_reads' HP.out.1).2.1) HV.out).mono ?_; rintro e w7 ⟨rfl, hb⟩; have HP7 := Aside0.mk (HP.out.below hb); have HN7 := Aside0.mk (blk_below HN.out hb); clear hb HP HN; have hb0 : w7.cell? ⟨gb, 0, none⟩ = some (.int .i64 (hi : Int)) := HP7.out.box.1; have hb1 : w7.cell? ⟨gb, 1, none⟩ = some (.slice Av tl cv) := HP7.out.box.2) | (go_at_call 12; refine (spec_ParseBay.text k (hi : Int) _ tl _ tab u _ HTl.out (Kd.S_reads' HP7.out.1).2.2 (by rw [HTl.out]; exact (Kd.S_reads' HP7.out.1).2.1) HU.out).mono ?_; rintro e w8 ⟨rfl, hb⟩; have HP8 := Aside0.mk (HP7.out.below hb); have HN8 := Aside0.mk (blk_below HN7.out hb); clear hb HP7 HN7 hb0 hb1; have hb0 : w8.cell? ⟨gb, 0, none⟩ = some (.int .i64 (hi : Int)) := HP8.out.box.1; have hb1 : w8.cell? ⟨gb, 1, none⟩ = some (.slice Av tl cv) := HP8.out.box.2; have hz0 : w8.cell? ⟨gr, 0, none⟩ = some (.int .i64 0) := (blk_cell HP8.out.2.2.1 0).trans rfl; have hz1 : w8.cell? ⟨gr, 1, none⟩ = some (.slice none 0 0) := (blk_cell HP8.out.2.2.1 1).trans rfl; have hf0 := blk_frozen HP8.out.2.2.1 0; have hf1 := blk_frozen HP8.out.2.2.1 1))
          refine bodyPost_ret (results_ct rfl _ _ gr 24 #[.int .i64 (hi : Int), .slice Av tl cv] (0, 0) _ rfl (by refine blk_put (cs := #[.int .i64 (hi : Int), .slice none 0 0]) ?_ 1 _ rfl; refine blk_put (cs := #[.int .i64 0, .slice none 0 0]) ?_ 0 _ rfl; exact HP8.out.2.2.1) hub rfl (by kernel_rfl)) rfl ?_
          have hS8 := Kd.S_set HP8.out.1 HP8.out.2.2.1 (by decide) 0 (.int .i64 (hi : Int))
          have hS9 := Kd.S_set hS8 (blk_put HP8.out.2.2.1 0 (.int .i64 (hi : Int)) rfl) (by decide) 1 (.slice Av tl cv)
          exact ⟨_, rfl, hS9, (HP8.out.2.2.2.2.setCell (p := ⟨gr, 0, none⟩) (by rw [GR1.out]; exact Nat.le_refl _) _).setCell (p := ⟨gr, 1, none⟩) (by rw [GR1.out]; exact Nat.le_refl _) _⟩
        · rw [if_neg hus] at hg3
          injection hg3 with hg3
          injection hg3 with e1 e2
          injection e2 with e2 e3
          subst e1 e2 e3
          have hul : ¬ u.toList = a0.toList := fun h => hus (by rw [sb_tl, sb_tl] at h; obtain ⟨⟨a⟩⟩ := u; obtain ⟨⟨b⟩⟩ := a0; simp at h; rw [h])
          have u1 : (u.toList == a0.toList) = false := by simpa using hul
          have u2 : (u.toList != a0.toList) = true := by simpa using hul
          have u3 : decide (u.toList = a0.toList) = false := decide_eq_false hul
          go_wp2_with (first | (go_at_call 11; refine (spec_ParseBay.valid k (hi : Int) _ tl _ tab true _ HTl.out (Kd.S_reads' HP.out.1).2.2 (by rw [HTl.out]; exact (Kd.S_reads' HP.out.1).2.1) HV.out).mono ?_; rintro e w7 ⟨rfl, hb⟩; have HP7 := Aside0.mk (HP.out.below hb); have HN7 := Aside0.mk (blk_below HN.out hb); clear hb HP HN; have hb0 : w7.cell? ⟨gb, 0, none⟩ = some (.int .i64 (hi : Int)) := HP7.out.box.1; have hb1 : w7.cell? ⟨gb, 1, none⟩ = some (.slice Av tl cv) := HP7.out.box.2) | (go_at_call 12; refine (spec_ParseBay.text k (hi : Int) _ tl _ tab u _ HTl.out (Kd.S_reads' HP7.out.1).2.2 (by rw [HTl.out]; exact (Kd.S_reads' HP7.out.1).2.1) HU.out).mono ?_; rintro e w8 ⟨rfl, hb⟩; have HP8 := Aside0.mk (HP7.out.below hb); have HN8 := Aside0.mk (blk_below HN7.out hb); clear hb HP7 HN7 hb0 hb1; have hb0 : w8.cell? ⟨gb, 0, none⟩ = some (.int .i64 (hi : Int)) := HP8.out.box.1; have hb1 : w8.cell? ⟨gb, 1, none⟩ = some (.slice Av tl cv) := HP8.out.box.2; have hz0 : w8.cell? ⟨gr, 0, none⟩ = some (.int .i64 0) := (blk_cell HP8.out.2.2.1 0).trans rfl; have hz1 : w8.cell? ⟨gr, 1, none⟩ = some (.slice none 0 0) := (blk_cell HP8.out.2.2.1 1).trans rfl; have hf0 := blk_frozen HP8.out.2.2.1 0; have hf1 := blk_frozen HP8.out.2.2.1 1; have hy0 : w8.cell? ⟨gn, 0, none⟩ = some (.int .i64 0) := (blk_cell HN8.out 0).trans rfl; have hy1 : w8.cell? ⟨gn, 1, none⟩ = some (.slice none 0 0) := (blk_cell HN8.out 1).trans rfl))
          refine bodyPost_ret (results_ct rfl _ _ gr 24 #[.int .i64 0, .slice none 0 0] (0, 0) _ rfl (by refine blk_put (cs := #[.int .i64 0, .slice none 0 0]) ?_ 1 _ rfl; refine blk_put (cs := #[.int .i64 0, .slice none 0 0]) ?_ 0 _ rfl; exact HP8.out.2.2.1) hub rfl (by kernel_rfl)) rfl ?_
          exact ⟨_, rfl, Kd.S_nil _ _ _ _ _, (HP8.out.2.2.2.2.setCell (p := ⟨gr, 0, none⟩) (by rw [GR1.out]; exact Nat.le_refl _) _).setCell (p := ⟨gr, 1, none⟩) (by rw [GR1.out]; exact Nat.le_refl _) _⟩


end Go.Proofs.YtoiboejefgejfaaDoor.P
