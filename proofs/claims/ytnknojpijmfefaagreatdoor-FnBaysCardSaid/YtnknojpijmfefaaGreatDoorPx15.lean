-- Written by a program of this session over the translation (a variant of the printer, see wip/gen); Lean checks it.
import Derived.Test.YtnknojpijmfefaaGreatDoorPx0
import Derived.Test.YtnknojpijmfefaaGreatDoorPx14
import Derived.Test.YtnknojpijmfefaaGreatDoorU
import Derived.Shelf.Strings.BuilderK
import Derived.Shelf.Strings.OnBuilder
import Derived.Test.YtnknojpijmfefaaGreatDoorShelf4
namespace Go.Proofs.YtnknojpijmfefaaGreatDoor.P
open Go.RowKit Go.Proofs.YtnknojpijmfefaaGreatDoorW.PrintWords Go.Proofs.YtnknojpijmfefaaGreatDoorW.PrintLast Go.Proofs.YtnknojpijmfefaaGreatDoorW.PrintMore
attribute [local go_sem] Go.Proofs.YtnknojpijmfefaaGreatDoor.V.isSome_setCell max2_int min2_int max_two min_two max_three min_three max_four min_four   -- for this text's walks alone
set_option linter.unusedVariables false
set_option linter.unusedSimpArgs false

/-! ### impl_bayText: function 28 -/
def btRd (xs : List (List Int)) (i : Int) : List Int := xs.getD i.toNat []
theorem impl_bayText.atL {w : World} {A : Option Addr} {n : Nat} {xs : List (List Int)} (h : Kd.C (Kd.slice 3 (Kd.int .i64)) w A n xs) (i : Int) (h0 : 0 ≤ i) (h1 : i < n) : ∃ ad A0 c0, A = some ad ∧ w.cell? (ad.add i.toNat) = some (.slice A0 (btRd xs i).length c0) ∧ (btRd xs i).length ≤ c0 ∧ (Kd.int .i64).C w A0 (btRd xs i).length (btRd xs i) := by
  obtain ⟨ad, c, e, _, hK, hc0⟩ := Kd.C_get h ([] : List Int) i h0 h1
  have hc : ∀ j u, c[j]? = some u → w.cell? (ad.add (i.toNat * 1 + j)) = some u := hc0
  obtain ⟨A0, c0, rfl, l0, g0⟩ := hK
  exact ⟨ad, A0, c0, e, by have hq := hc 0 _ rfl; rwa [Nat.mul_one, Nat.add_zero] at hq, l0, g0⟩
/-- A number below 100, in two digits. -/
def btPd (n : Int) : List UInt8 := [(48 + n.toNat / 10).toUInt8, (48 + n.toNat % 10).toUInt8]
/-- What stands at a tier of the rows, a text a row. -/
def btPart (tier : Nat) (row : List Int) : ByteArray := if tier < row.length then ⟨(btPd (row.getD tier 0)).toArray⟩ else ⟨#[46, 46]⟩
def btLine (rows : List (List Int)) (tier : Nat) : List UInt8 := Go.Lib.join ((rows.map (btPart tier)).map (·.data.toList)) [32] ++ [10]
/-- The text of the tiers below n, from the highest one down. -/
def btT (rows : List (List Int)) : Nat → List UInt8
  | 0 => []
  | n + 1 => btLine rows n ++ btT rows n
def btOk (k : Nat) (a : Int) (rows : List (List Int)) : Prop := 3 ≤ k ∧ (0 ≤ a ∧ a ≤ 1000) ∧ (0 < rows.length ∧ rows.length ≤ 1000) ∧ (btT rows a.toNat).length ≤ 1000000 ∧ (rows.all fun row => row.all fun n => decide (0 ≤ n ∧ n < 100)) = true
instance (k : Nat) (a : Int) (rows : List (List Int)) : Decidable (btOk k a rows) := by unfold btOk; exact inferInstance
def impl_bayText.f (k : Nat) (a0_0 : Int) (l0_1 : List (List Int)) : Option ByteArray := if btOk k a0_0 l0_1 then some ⟨(btT l0_1 a0_0.toNat).toArray⟩ else none
theorem impl_bayText.mono : ∀ a0 a1 k, LeO (impl_bayText.f k a0 a1) (impl_bayText.f (k + 1) a0 a1) := by
  intro a0 a1 k r h
  unfold impl_bayText.f at h ⊢
  split at h
  case isFalse => cases h
  case isTrue hc => rw [if_pos ⟨by have := hc.1; omega, hc.2⟩]; exact h
theorem impl_bayText.pad3 : ∀ n, n < 100 → impl_padded.f 3 (n : Nat) 2 = some ⟨(btPd (n : Nat)).toArray⟩ := by decide +kernel
theorem impl_bayText.pad (n : Int) (h0 : 0 ≤ n) (h1 : n < 100) : ∀ d, impl_padded.f (3 + d) n 2 = some ⟨(btPd n).toArray⟩
  | 0 => by
    obtain ⟨n, rfl⟩ := Int.eq_ofNat_of_zero_le h0
    exact impl_bayText.pad3 n (by omega)
  | d + 1 => impl_padded.mono _ _ (3 + d) _ (impl_bayText.pad n h0 h1 d)
theorem impl_bayText.atInt {w : World} {A : Option Addr} {n : Nat} {xs : List Int} (h : Kd.C (Kd.int .i64) w A n xs) (i : Nat) (h1 : i < n) : ∃ ad, A = some ad ∧ w.cell? (ad.add i) = some (.int .i64 (xs.getD i 0)) := by
  obtain ⟨ad, c, e, _, hK, hc0⟩ := Kd.C_get h (0 : Int) (i : Int) (by omega) (by omega)
  have hc : ∀ j u, c[j]? = some u → w.cell? (ad.add ((i : Int).toNat * 1 + j)) = some u := hc0
  have e1 : c = [.int .i64 (xs.getD (i : Int).toNat 0)] := hK
  subst e1
  have hq := hc 0 _ rfl
  rw [Nat.mul_one, Nat.add_zero, Int.toNat_natCast] at hq
  exact ⟨ad, e, hq⟩
theorem impl_bayText.cells {w : World} {g n : Nat} {xs : List ByteArray} (h : Kd.C Kd.string w (some ⟨g, 0, none⟩) n xs) (hn : n = xs.length) : ∀ (j : Nat) x, xs[j]? = some x → w.cell? ⟨g, 0 + j, none⟩ = some (.string x) := by
  intro j x hx
  obtain ⟨hj, hx⟩ := List.getElem?_eq_some_iff.1 hx
  obtain ⟨ad, e, h1⟩ := Kd.at_string h (j : Int) (by omega) (by omega)
  injection e with e
  subst e
  have hadd : (⟨g, 0, none⟩ : Addr).add j = ⟨g, j, none⟩ := by unfold Addr.add; split <;> simp_all
  rw [Int.toNat_natCast, hadd] at h1
  rw [Nat.zero_add, h1]
  unfold rdOf
  rw [Int.toNat_natCast, Go.Proofs.YtnknojpijmfefaaGreatDoor.U.getD_at _ _ _ hj, hx]
theorem impl_bayText.held {T e : TypeId} {B b : Nat} {bs : List Value} {w w' : World} (h : Go.Lib.IsBuilderF T e B b bs w) (hb : Below w.heap.size w w') : Go.Lib.IsBuilderF T e B b bs w' := by
  have one : ∀ {p}, Go.Lib.BuilderAtF T e B b p bs w → Go.Lib.BuilderAtF T e B b p bs w' := by
    rintro p ⟨hB, v, hbk, hown, hne⟩
    refine ⟨hB, v, (hb.block b (Array.getElem?_eq_some_iff.1 hbk).1).trans hbk, ⟨hown.1, ?_⟩, hne⟩
    rcases hown.2 with hn | ⟨g, cap, cur, fz, rfl, h1, hg, rest⟩
    · exact Or.inl hn
    · exact Or.inr ⟨g, cap, cur, fz, rfl, h1, (hb.block g (Array.getElem?_eq_some_iff.1 hg).1).trans hg, rest⟩
  exact h.elim (fun x => Or.inl (one x)) (fun x => Or.inr (one x))
theorem impl_bayText.new {T e : TypeId} {B b : Nat} {w : World} (hB : B ≤ b) (hb : w.heap[b]? = some (.cells #[.pointer none, .slice none 0 0] T (0, 0))) : Go.Lib.IsBuilderF T e B b (Go.Lib.byteCells []) w :=
  Or.inl ⟨hB, _, hb, World.ownsRowF_nil w B e 1, by simp [Value.ownBlock]⟩
theorem impl_bayText.info : (Tryz.prog.info? 9).map (fun i => (i.zero, i.size, i.bytes)) = some (some (.string ⟨#[]⟩), 1, 16) := by kernel_rfl
set_option maxHeartbeats 8000000 in
set_option maxRecDepth 100000 in
/-- THE CALL -/
theorem impl_bayText.calls (k : Nat) (a0_0 : Int) (A0_1 : Option Addr) (c0_1 : Nat) (l0_1 : List (List Int)) (r : ByteArray) (w : World) (hr0_1 : Kd.C (Kd.slice 3 (Kd.int .i64)) w A0_1 l0_1.length l0_1) (hc0_1 : l0_1.length ≤ c0_1) (h : impl_bayText.f k a0_0 l0_1 = some r) :
    Calls Tryz.prog 28 #[.agg #[.int .i64 a0_0, .slice A0_1 l0_1.length c0_1]] w fun e w' => e = .returned (.string r) ∧ Below w.heap.size w w' := by
  have hu := Tryz.underlying26
  have hln : l0_1.length ≤ 9223372036854775807 := hr0_1.2.1
  unfold impl_bayText.f at h
  split at h
  case isFalse => cases h
  case isTrue hcond =>
  obtain rfl := Option.some.inj h
  clear h
  obtain ⟨hk3, ⟨ha0, ha1⟩, hpos, hlen, hall⟩ := hcond
  obtain ⟨H, rfl⟩ := Int.eq_ofNat_of_zero_le ha0
  rw [Int.toNat_natCast] at hlen ⊢
  obtain ⟨kd, rfl⟩ : ∃ d, k = 3 + d := ⟨k - 3, by omega⟩
  have hH : H ≤ 1000 := by omega
  obtain ⟨text, htext⟩ : ∃ t, t = btT l0_1 H := ⟨_, rfl⟩
  rw [← htext] at hlen ⊢
  have HTx := Aside0.mk htext
  have HR0 := Aside0.mk hr0_1
  have HLn := Aside0.mk hlen
  have HAl := Aside0.mk hall
  have HPs := Aside0.mk hpos
  have HB0 := Aside0.mk (Below.refl w.heap.size w)
  clear hr0_1 hlen hall hpos htext ha0 ha1 hk3
  go_enter Tryz.func28, Tryz.ntmps28
  go_upto_region 2 with (first | ((with_reducible refine gate_dst (N := 1) rfl ?_); (try (refine gate_guard (by rfl) ?_; dsimp only)); refine box_event ?hg (N := 1) ?hd (cs := #[.int .i64 (H : Int), .slice A0_1 l0_1.length c0_1]) (t := 26) ?hr ?_; (case hd => rfl); (case hg => rfl); (case hr => first | (go_simp; done) | (go_simp; rfl)); intro gb hgb w1 hbox hb; have BK1 := Aside0.mk hbox; have HB1 := Aside0.mk (below_step (bel HB0) hb); clear hb hbox hgb) | ((with_reducible refine gate_dst (N := 3) rfl ?_); (try (refine gate_guard (by rfl) ?_; dsimp only)); refine box_event ?hg (N := 3) ?hd (cs := #[.pointer none, .slice none 0 0]) (t := 74) ?hr ?_; (case hd => rfl); (case hg => rfl); (case hr => first | (go_simp; done) | (go_simp; rfl)); intro go_ hgo w2 hbox hb; have BK2 := Aside0.mk (blk_below BK1.out hb); have BO2 := Aside0.mk (impl_bayText.new (e := 5) (show w.heap.size ≤ go_ by rw [hgo]; exact below_size HB1.out) hbox); have NE := Aside0.mk (show gb ≠ go_ by rw [hgo]; exact Nat.ne_of_lt (blk_lt BK1.out)); have HB2 := Aside0.mk (below_step HB1.out hb); clear hb hbox hgo))
  clear BK1 HB1 HB0
  have hcb2 : w2.cell? ⟨gb, 0, none⟩ = some (.int .i64 (H : Int)) := (blk_cell BK2.out 0).trans rfl
  have hwH : IntKind.i64.wrap ((H : Int) - 1) = (H : Int) - 1 := (i64_w _).trans (Go.Proofs.YtnknojpijmfefaaGreatDoor.U.wr (by omega) (by omega))
  go_wp2
  go_loopw [4] (fun v4 wr => ∃ (t : Nat) (acc : List UInt8), v4 = .int .i64 ((t : Int) - 1) ∧ Aside0 (t ≤ H) ∧ Aside0 (acc ++ btT l0_1 t = text) ∧ Aside0 (wr.heap[gb]? = some (.cells #[.int .i64 (H : Int), .slice A0_1 l0_1.length c0_1] 26 (0, 0))) ∧ Aside0 (Go.Lib.IsBuilderF 74 5 w.heap.size go_ (Go.Lib.byteCells acc) wr) ∧ Aside0 (Below w.heap.size w wr)) (fun v4 wr => (intOf v4 + 1).toNat)
  case atStart => exact ⟨H, [], by first | rfl | (rw [hwH]), ⟨Nat.le_refl _⟩, ⟨by rw [HTx.out]; rfl⟩, BK2, BO2, HB2⟩
  case round =>
    clear BK2 BO2 HB2 hcb2 hwH
    obtain ⟨t, acc, rfl, HTl, HAc, BK, BO, HB⟩ := hrel
    rename World => wo
    cases t with
    | zero =>
      have e := HAc.out
      rw [btT, List.append_nil] at e
      subst e
      go_wp2_with (first | (go_at_call 47; refine (Go.Proofs.Tryz.Builder_String_any_k w.heap.size go_ acc _ BO.out (below_size HB.out)).mono ?_; rintro e w' ⟨rfl, _, hb, _⟩))
      go_ret
      exact ⟨rfl, HB.out.trans hb⟩
    | succ t =>
    have hti : ((t + 1 : Nat) : Int) - 1 = (t : Int) := by omega
    rw [hti]
    have htH : t ≤ 1000 := by have := HTl.out; omega
    have hge : decide ((t : Int) ≥ 0) = true := decide_eq_true (by omega)
    have hge2 : decide ((0 : Int) ≤ (t : Int)) = true := decide_eq_true (by omega)
    have hcb1 : wo.cell? ⟨gb, 1, none⟩ = some (.slice A0_1 l0_1.length c0_1) := (blk_cell BK.out 1).trans rfl
    have HI0 := Aside0.mk (Below.refl wo.heap.size wo)
    clear hti
    go_wp2_with (first | ((with_reducible refine gate_dst (N := 16) rfl ?_); refine Kd.R_lit Kd.string (w0 := wo) wo.heap.size 9 ?hg (N := 16) ?hd (xs := ([] : List ByteArray)) (inner := []) (ok := fun _ => True) (okp := fun _ => True) ?hr ?hp (fun _ hk => hk) trivial (bel HI0) (below_size (bel HI0)) (by simp) ?_; (case hd => rfl); (case hg => rfl); (case hr => first | (go_simp; done) | (go_simp; rfl)); (case hp => exact (Reps.none _ _)); intro v16 w6 ho hb hg_ hnew_; have HO6 := Aside0.mk ho; have HI6 := Aside0.mk hb; have hcb6 : w6.cell? ⟨gb, 1, none⟩ = some (.slice A0_1 l0_1.length c0_1) := (hb.cell (World.block_lt_of_cell? _ _ hcb1)).trans hcb1; clear ho hb hg_ hnew_))
    go_loopw [5, 20] (fun v5 v20 wq => ∃ (i : Nat) (ps : List ByteArray), v20 = .int .i64 (i : Int) ∧ Aside0 (i ≤ l0_1.length) ∧ Aside0 (ps = (l0_1.take i).map (btPart t)) ∧ Aside0 (Kd.R Kd.string 9 wq wo.heap.size (fun _ => True) v5 ps) ∧ Aside0 (Below wo.heap.size wo wq)) (fun v5 v20 wq => l0_1.length - (intOf v20).toNat)
    case atStart => exact ⟨0, [], rfl, ⟨Nat.zero_le _⟩, ⟨rfl⟩, HO6, HI6⟩
    case round =>
      clear HO6 HI6 hcb6 hcb1
      obtain ⟨i, ps, rfl, HLe, HPq, HO, HI⟩ := hrel
      rename World => wq
      by_cases hlt : i < l0_1.length
      · have hltb : decide (i < l0_1.length) = true := decide_eq_true hlt
        have hlti : decide ((i : Int) < (l0_1.length : Int)) = true := decide_eq_true (by omega)
        obtain ⟨ad, Ar, cr, eA, hx, _, hCr⟩ := impl_bayText.atL HR0.out (i : Int) (by omega) (by omega)
        subst eA
        have HBq := Aside0.mk (HB.out.trans (HI.out.mono (below_size HB.out)))
        replace hx := cel HBq hx
        have hCr2 := Kd.C_below hCr HBq.out
        rw [Int.toNat_natCast] at hx
        have hrow : btRd l0_1 (i : Int) = l0_1[i] := by unfold btRd; rw [Int.toNat_natCast, Go.Proofs.YtnknojpijmfefaaGreatDoor.U.getD_at _ _ _ hlt]
        have hmem : btRd l0_1 (i : Int) ∈ l0_1 := by rw [hrow]; exact List.getElem_mem hlt
        have htk : l0_1.take (i + 1) = l0_1.take i ++ [btRd l0_1 (i : Int)] := by rw [hrow, List.take_succ_eq_append_getElem hlt]
        clear hrow
        generalize btRd l0_1 (i : Int) = row at hx hCr hCr2 hmem htk
        have HTk := Aside0.mk htk
        have HMm := Aside0.mk hmem
        have HPl := Aside0.mk (show ps.length = i by rw [HPq.out, List.length_map, List.length_take]; omega)
        have hrl : row.length ≤ 9223372036854775807 := hCr2.2.1
        clear htk hmem hCr
        by_cases hs : t < row.length
        · have hsb : decide (t < row.length) = true := decide_eq_true hs
          have hsi : decide ((t : Int) < (row.length : Int)) = true := decide_eq_true (by omega)
          have hsj : (t : Int) < (row.length : Int) := by omega
          obtain ⟨ad2, e2, hx2⟩ := impl_bayText.atInt hCr2 t hs
          subst e2
          have hin : 0 ≤ row.getD t 0 ∧ row.getD t 0 < 100 := by
            have h1 := List.all_eq_true.mp (List.all_eq_true.mp HAl.out _ HMm.out) (row.getD t 0) (by rw [Go.Proofs.YtnknojpijmfefaaGreatDoor.U.getD_at _ _ _ hs]; exact List.getElem_mem hs)
            exact of_decide_eq_true h1
          have HPd := Aside0.mk (impl_bayText.pad (row.getD t 0) hin.1 hin.2 kd)
          have hpt : btPart t row = ⟨(btPd (row.getD t 0)).toArray⟩ := by unfold btPart; rw [if_pos hs]
          have HPt := Aside0.mk hpt
          clear hin hpt hCr2
          generalize row.getD t 0 = n at hx2 HPd HPt
          generalize (⟨(btPd n).toArray⟩ : ByteArray) = pt at HPd HPt
          go_wp2_with (first | (go_at_call 44; refine (impl_padded.calls (3 + kd) n 2 pt _ HPd.out).mono ?_; rintro e w7 ⟨rfl, hd⟩; have n0_ := Aside0.mk (Kd.R_below HO.out hd.below); have n1_ := Aside0.mk (HI.out.trans (hd.below.mono (below_size HI.out))); clear HO HI hd; have HO := n0_; have HI := n1_; clear n0_ n1_) | ((with_reducible refine gate_builtin (b := .append) (xs := #[.tmp 33, .tmp 35]) rfl ?_); at_builtin; refine Kd.R_append Kd.string (w0 := wo) wo.heap.size rfl (.tmp 33) (.tmp 35) 57 9 (.string ⟨#[]⟩) 16 rfl Tryz.underlying57 impl_bayText.info rfl (by decide) (by omega) u5 ps pt [.string pt] (fun _ => True) (fun _ => False) rfl (by show Value.slice (some ⟨w7.heap.size, 0, none⟩) 1 1 = _; simp) ?aP (fun _ hk => hk.elim) ?aF ?aO ?aB ?aS ?aL ?_; (case aP => exact rfl); (case aB => exact bel HI); (case aF => exact fun _ _ => trivial); (case aO => exact HO.out); (case aS => exact below_size (bel HI)); (case aL => have := HPl.out; have := HPs.out; omega); intro v36 w9 ho hb hg hat; have n0_ := Aside0.mk ho; have n1_ := Aside0.mk hb; clear HO HI ho hb hg hat; have HO := n0_; have HI := n1_; clear n0_ n1_))
          go_roundw
          case rel => exact ⟨i + 1, ps ++ [pt], by go_num, ⟨hlt⟩, ⟨by rw [HTk.out, List.map_append, List.map_singleton, HPt.out, ← HPq.out]⟩, HO, HI⟩
          case measure => simp [intOf]; omega
        · have hsb : decide (t < row.length) = false := decide_eq_false hs
          have hsi : decide ((t : Int) < (row.length : Int)) = false := decide_eq_false (by omega)
          have hpt : btPart t row = ⟨#[46, 46]⟩ := by unfold btPart; rw [if_neg hs]
          have HPt := Aside0.mk hpt
          clear hpt hCr2
          go_wp2_with (first | ((with_reducible refine gate_builtin (b := .append) (xs := #[.tmp 33, .tmp 35]) rfl ?_); at_builtin; refine Kd.R_append Kd.string (w0 := wo) wo.heap.size rfl (.tmp 33) (.tmp 35) 57 9 (.string ⟨#[]⟩) 16 rfl Tryz.underlying57 impl_bayText.info rfl (by decide) (by omega) u5 ps (⟨#[46, 46]⟩ : ByteArray) [.string ⟨#[46, 46]⟩] (fun _ => True) (fun _ => False) rfl (by show Value.slice (some ⟨wq.heap.size, 0, none⟩) 1 1 = _; simp) ?aP (fun _ hk => hk.elim) ?aF ?aO ?aB ?aS ?aL ?_; (case aP => exact rfl); (case aB => exact bel HI); (case aF => exact fun _ _ => trivial); (case aO => exact HO.out); (case aS => exact below_size (bel HI)); (case aL => have := HPl.out; have := HPs.out; omega); intro v36 w9 ho hb hg hat; have n0_ := Aside0.mk ho; have n1_ := Aside0.mk hb; clear HO HI ho hb hg hat; have HO := n0_; have HI := n1_; clear n0_ n1_))
          go_roundw
          case rel => exact ⟨i + 1, ps ++ [⟨#[46, 46]⟩], by go_num, ⟨hlt⟩, ⟨by rw [HTk.out, List.map_append, List.map_singleton, HPt.out, ← HPq.out]⟩, HO, HI⟩
          case measure => simp [intOf]; omega
      · have hltb : decide (i < l0_1.length) = false := decide_eq_false hlt
        have hlti : decide ((i : Int) < (l0_1.length : Int)) = false := decide_eq_false (by omega)
        have hps : ps = l0_1.map (btPart t) := by rw [HPq.out, List.take_of_length_le (by omega)]
        have hpl : ps.length = l0_1.length := by rw [hps, List.length_map]
        have hro := HO.out
        obtain ⟨_, inner, ⟨_, ⟨_, h0⟩ | ⟨g, cap, cur, e5, _, hg, _, hcap, _, _⟩⟩, _⟩ := hro
        · exact absurd h0 (by have := HPs.out; omega)
        subst e5
        have hC := (Kd.R_reads' HO.out).2.2
        have hcp := (Kd.R_reads' HO.out).2.1
        have HCs := Aside0.mk (impl_bayText.cells hC rfl)
        have HGl := Aside0.mk (Array.getElem?_eq_some_iff.1 hg).1
        have hacc := HAc.out
        rw [btT] at hacc
        obtain ⟨jn, hjn⟩ : ∃ j, j = Go.Lib.join (ps.map (·.data.toList)) [32] := ⟨_, rfl⟩
        have hln2 : btLine l0_1 t = jn ++ [10] := by unfold btLine; rw [hjn, hps]
        rw [hln2] at hacc
        have hsum : acc.length + (jn.length + 1) ≤ 1000000 := by
          have h1 := HLn.out
          rw [← hacc, List.length_append, List.length_append, List.length_append, List.length_singleton] at h1
          omega
        have HAq := Aside0.mk hacc
        have HSm := Aside0.mk hsum
        have HJn := Aside0.mk hjn
        have HPp := Aside0.mk hpl
        have HCp := Aside0.mk hcp
        have hjs : (⟨jn.toArray⟩ : ByteArray).size = jn.length := by simp [ByteArray.size]
        have hj2 : ¬ (9223372036854775807 < jn.length + 1) := by omega
        have HLn2 := Aside0.mk hln2
        clear hC hcp hg hacc hln2 hsum hjn hps hpl
        go_wp2_with (first | (go_at_call 46; refine (Go.Proofs.Tryz.strings_Join g 0 cap ps ⟨#[32]⟩ _ HCs.out HGl.out (by have := HPp.out; have := HPs.out; have := HLn.out; omega) HCp.out (by have := HSm.out; have e := HJn.out; show (Go.Lib.join (ps.map (·.data.toList)) [32]).length ≤ _; rw [← e]; omega)).mono ?_; rintro e w8 ⟨rfl, hb⟩; have HI8 := Aside0.mk (HI.out.trans (hb.mono (below_size HI.out))); clear hb; rw [show Go.Lib.join (ps.map (·.data.toList)) (⟨#[32]⟩ : ByteArray).data.toList = jn from HJn.out.symm]) | (go_at_call 45; refine (Go.Proofs.Tryz.Builder_WriteString_k w.heap.size go_ (Go.Lib.byteCells acc) _ _ (impl_bayText.held BO.out HI8.out) ?hsz (Nat.le_trans (below_size HB.out) (below_size HI8.out))).mono ?_; (case hsz => have h1 := HSm.out; rw [Go.Lib.byteCells_length, ByteArray.size_append, hjs]; show acc.length + (jn.length + 1) ≤ _; omega); rintro e w9 ⟨rfl, hA, hb, hk⟩; have BO9 := Aside0.mk hA; have HB9 := Aside0.mk ((HB.out.trans (HI8.out.mono (below_size HB.out))).trans hb); have BK9 := Aside0.mk (hk gb _ (blk_below BK.out HI8.out) (by intro e; injection e with e; exact NE.out e) (by intro c fz e; injection e with _ e _; exact absurd e (by decide))); clear hA hb hk))
        go_roundw
        case rel => exact ⟨t, acc ++ (jn ++ [10]), by first | rfl | go_num, ⟨by have := HTl.out; omega⟩, ⟨by rw [List.append_assoc]; exact HAq.out⟩, BK9, ⟨by have h := BO9.out; refine Or.inr ?_; rw [Go.Lib.byteCells_append]; simpa [Go.Lib.strCells_eq] using h⟩, HB9⟩
        case measure => first | (simp [intOf]; done) | (simp [intOf]; omega)


end Go.Proofs.YtnknojpijmfefaaGreatDoor.P
