/- A bay that is read from a text: its box, its table, and what stands beside. No function of the program is walked here. -/
import Derived.Test.YtnknojpijmfefaaGreatDoorPx0
import Derived.Test.YtnknojpijmfefaaGreatDoorU
namespace Go.Proofs.YtnknojpijmfefaaGreatDoor.P
open Go.RowKit Go.Proofs.YtnknojpijmfefaaGreatDoorW.PrintWords Go.Proofs.YtnknojpijmfefaaGreatDoorW.PrintLast Go.Proofs.YtnknojpijmfefaaGreatDoorW.PrintMore
set_option linter.unusedVariables false
theorem pb_atRow {w : World} {A : Option Addr} {n : Nat} {xs : List (List Int)} (h : Kd.C (Kd.slice 3 (Kd.int .i64)) w A n xs) (i : Nat) (h1 : i < n) : ∃ ad A0 c0, A = some ad ∧ w.cell? (ad.add i) = some (.slice A0 (xs.getD i []).length c0) ∧ (xs.getD i []).length ≤ c0 ∧ Kd.C (Kd.int .i64) w A0 (xs.getD i []).length (xs.getD i []) := by
  obtain ⟨ad, c, e, _, hK, hc0⟩ := Kd.C_get h ([] : List Int) (i : Int) (by omega) (by omega)
  have hc : ∀ j u, c[j]? = some u → w.cell? (ad.add ((i : Int).toNat * 1 + j)) = some u := hc0
  obtain ⟨A0, c0, rfl, l0, g0⟩ := hK
  have hq := hc 0 _ rfl
  rw [Nat.mul_one, Nat.add_zero, Int.toNat_natCast] at hq
  exact ⟨ad, A0, c0, e, hq, l0, g0⟩
/-- An element of a table of the call's own: its row, and the table with a grown row stored back. -/
theorem pb_elem {W : World} {base gt n cap : Nat} {ok : Nat → Prop} {tab : List (List Int)} (h : Kd.S (Kd.slice 3 (Kd.int .i64)) 48 W base ok (.slice (some ⟨gt, 0, none⟩) n cap) tab) (t : Nat) (ht : t < tab.length) :
    ∃ A0 c0 oki, W.cell? ⟨gt, t, none⟩ = some (.slice A0 (tab.getD t []).length c0) ∧ Kd.R (Kd.int .i64) 3 W base oki (.slice A0 (tab.getD t []).length c0) (tab.getD t []) ∧ (∀ k, oki k → ok k ∧ k ≠ gt) ∧
      ∀ (W1 : World) (v1 : Value) (y : List Int), W.grownBy W1 (Value.slice A0 (tab.getD t []).length c0).ownBlock → Kd.R (Kd.int .i64) 3 W1 base (fun k => oki k ∨ ok k ∧ W.heap.size ≤ k) v1 y →
        W1.cell? ⟨gt, t, none⟩ = some (.slice A0 (tab.getD t []).length c0) ∧ W1.frozen? ⟨gt, t, none⟩ = false ∧ Kd.S (Kd.slice 3 (Kd.int .i64)) 48 (W1.setCell ⟨gt, t, none⟩ v1) base ok (.slice (some ⟨gt, 0, none⟩) n cap) (tab.set t y) := by
  have hn := (Kd.S_reads' h).1
  obtain ⟨ad, A0, c0, eA, hcell, hcr, hCr⟩ := pb_atRow (Kd.S_reads' h).2.2 t ht
  injection eA with eA
  subst eA
  obtain ⟨oki, c, hcl, hM, hcc, _, hoki, hH⟩ := Kd.S_elem h [] (t : Int) (by omega) (by omega)
  obtain ⟨v, rfl, hR⟩ := hM
  have hv := hcc 0 v rfl
  rw [show (Kd.slice 3 (Kd.int .i64)).sz = 1 from rfl, Nat.mul_one, Nat.add_zero, Int.toNat_natCast] at hv
  have hadd : (⟨gt, 0, none⟩ : Addr).add t = ⟨gt, t, none⟩ := by unfold Addr.add; split <;> simp_all
  rw [hadd] at hcell
  rw [hcell] at hv
  injection hv with hv
  subst hv
  rw [Int.toNat_natCast] at hR
  refine ⟨A0, c0, oki, hcell, hR, hoki, fun W1 v1 y hg hR1 => ?_⟩
  have hH1 := Kd.H_grown (Kd.H_widen hH) hg (fun k e_ => .inl (hR.1 k e_))
  obtain ⟨hc1, hf1⟩ := Kd.H_at hH1 (by omega) (by omega)
  have hc1 := hc1 0 _ rfl
  have hf1 := hf1 0
  have hs := (Kd.S_seg0 hH1 (by omega) (by omega) (seg := [v1]) (j := 0) (Nat.le_refl 1) (x' := y) (Kd.M_row hR1) (fun _ hk => hk)).1
  rw [show (Kd.slice 3 (Kd.int .i64)).sz = 1 from rfl, Nat.mul_one, Nat.add_zero, Int.toNat_natCast] at hc1 hf1 hs
  exact ⟨hc1, hf1, hs⟩
/-- What stands: the bay's box and table, the result's box. -/
def PbT (w : World) (gr gb : Nat) (H : Int) (v : Value) (tab : List (List Int)) (W : World) : Prop :=
  Kd.S (Kd.slice 3 (Kd.int .i64)) 48 W w.heap.size (fun _ => True) v tab ∧ W.heap[gb]? = some (.cells #[.int .i64 H, v] 26 (0, 0)) ∧ W.heap[gr]? = some (.cells #[.int .i64 0, .slice none 0 0] 26 (0, 0)) ∧ (w.heap.size ≤ gr ∧ w.heap.size ≤ gb ∧ gr ≠ gb) ∧ Below w.heap.size w W
theorem PbT.below {w W W' : World} {gr gb : Nat} {H : Int} {v : Value} {tab : List (List Int)} (h : PbT w gr gb H v tab W) (hb : Below W.heap.size W W') : PbT w gr gb H v tab W' :=
  ⟨Kd.S_below h.1 hb, blk_below h.2.1 hb, blk_below h.2.2.1 hb, h.2.2.2.1, below_step h.2.2.2.2 hb⟩
theorem PbT.drew {w W : World} {gr gb : Nat} {H : Int} {v : Value} {tab : List (List Int)} (h : PbT w gr gb H v tab W) : PbT w gr gb H v tab W.drew := h.below (below_drew1 (Below.refl _ _))
theorem PbT.box {w W : World} {gr gb : Nat} {H : Int} {v : Value} {tab : List (List Int)} (h : PbT w gr gb H v tab W) : W.cell? ⟨gb, 0, none⟩ = some (.int .i64 H) ∧ W.cell? ⟨gb, 1, none⟩ = some v := ⟨(blk_cell h.2.1 0).trans rfl, (blk_cell h.2.1 1).trans rfl⟩
/-- The table has one row more; its new value is stored in the box. -/
theorem PbT.put {w W W1 : World} {gr gb : Nat} {H : Int} {v v1 : Value} {tab tab1 : List (List Int)} (h : PbT w gr gb H v tab W) (hS : Kd.S (Kd.slice 3 (Kd.int .i64)) 48 W1 w.heap.size (fun _ => True) v1 tab1) (hB : Below w.heap.size w W1) (hg : W.grownBy W1 v.ownBlock) : PbT w gr gb H v1 tab1 (W1.setCell ⟨gb, 1, none⟩ v1) := by
  have h1 := blk_grown h.2.1 hg (Kd.S_ne h.1 h.2.1 (by decide))
  have h2 := blk_grown h.2.2.1 hg (Kd.S_ne h.1 h.2.2.1 (by decide))
  exact ⟨Kd.S_set hS h1 (by decide) 1 v1, blk_put h1 1 v1 rfl, blk_far h2 (p := ⟨gb, 1, none⟩) h.2.2.2.1.2.2 v1, h.2.2.2.1, hB.setCell (p := ⟨gb, 1, none⟩) h.2.2.2.1.2.1 v1⟩
/-- A row has one number more; its new value is stored in the table. -/
theorem PbT.set {w W W1 : World} {gr gb gt n cap i : Nat} {H : Int} {u v1 : Value} {tab tab1 : List (List Int)} {row : List Int} {oki : Nat → Prop} (h : PbT w gr gb H (.slice (some ⟨gt, 0, none⟩) n cap) tab W) (hR : Kd.R (Kd.int .i64) 3 W w.heap.size oki u row) (hS : Kd.S (Kd.slice 3 (Kd.int .i64)) 48 (W1.setCell ⟨gt, i, none⟩ v1) w.heap.size (fun _ => True) (.slice (some ⟨gt, 0, none⟩) n cap) tab1) (hB : Below w.heap.size w W1) (hg : W.grownBy W1 u.ownBlock) : PbT w gr gb H (.slice (some ⟨gt, 0, none⟩) n cap) tab1 (W1.setCell ⟨gt, i, none⟩ v1) := by
  have h1 := blk_grown h.2.1 hg (Kd.R_ne hR h.2.1 (by decide))
  have h2 := blk_grown h.2.2.1 hg (Kd.R_ne hR h.2.2.1 (by decide))
  have n1 : some gb ≠ some gt := Kd.S_ne h.1 h.2.1 (by decide)
  have n2 : some gr ≠ some gt := Kd.S_ne h.1 h.2.2.1 (by decide)
  exact ⟨hS, blk_far h1 (p := ⟨gt, i, none⟩) (fun e => n1 (congrArg some e)) v1, blk_far h2 (p := ⟨gt, i, none⟩) (fun e => n2 (congrArg some e)) v1, h.2.2.2.1, hB.setCell (p := ⟨gt, i, none⟩) (Kd.S_base h.1 gt rfl) v1⟩
theorem PbT.putR {w W W1 : World} {gr gb : Nat} {H : Int} {v v1 : Value} {tab : List (List Int)} {u : Value} {xs : List ByteArray} {ok : Nat → Prop} (h : PbT w gr gb H v tab W) (hR : Kd.R Kd.string 9 W w.heap.size ok u xs) (hg : W.grownBy W1 v.ownBlock) : Kd.R Kd.string 9 (W1.setCell ⟨gb, 1, none⟩ v1) w.heap.size ok u xs :=
  Kd.R_set (Kd.R_over' hR (Kd.S_typed h.1) (by decide) hg) (blk_grown h.2.1 hg (Kd.S_ne h.1 h.2.1 (by decide))) (by decide) 1 v1
theorem PbT.setR {w W W1 : World} {gr gb gt n cap i : Nat} {H : Int} {u v1 : Value} {tab : List (List Int)} {row : List Int} {oki : Nat → Prop} {y : Value} {xs : List ByteArray} {ok : Nat → Prop} (h : PbT w gr gb H (.slice (some ⟨gt, 0, none⟩) n cap) tab W) (hR : Kd.R (Kd.int .i64) 3 W w.heap.size oki u row) (hx : Kd.R Kd.string 9 W w.heap.size ok y xs) (hg : W.grownBy W1 u.ownBlock) : Kd.R Kd.string 9 (W1.setCell ⟨gt, i, none⟩ v1) w.heap.size ok y xs := by
  obtain ⟨cs, hc⟩ := Kd.S_typed h.1 gt rfl
  exact Kd.R_set (Kd.R_over' hx (Kd.R_typed hR) (by decide) hg) (blk_grown hc hg (Kd.R_ne hR hc (by decide))) (by decide) i v1
theorem PbT.putB {w W W1 : World} {gr gb g : Nat} {H : Int} {v v1 : Value} {tab : List (List Int)} {cs : Array Value} (h : PbT w gr gb H v tab W) (hn : W.heap[g]? = some (.cells cs 26 (0, 0))) (hne : g ≠ gb) (hg : W.grownBy W1 v.ownBlock) : (W1.setCell ⟨gb, 1, none⟩ v1).heap[g]? = some (.cells cs 26 (0, 0)) :=
  blk_far (blk_grown hn hg (Kd.S_ne h.1 hn (by decide))) (p := ⟨gb, 1, none⟩) hne v1
theorem PbT.setB {w W W1 : World} {gr gb gt n cap i g : Nat} {H : Int} {u v1 : Value} {tab : List (List Int)} {row : List Int} {oki : Nat → Prop} {cs : Array Value} (h : PbT w gr gb H (.slice (some ⟨gt, 0, none⟩) n cap) tab W) (hR : Kd.R (Kd.int .i64) 3 W w.heap.size oki u row) (hn : W.heap[g]? = some (.cells cs 26 (0, 0))) (hg : W.grownBy W1 u.ownBlock) : (W1.setCell ⟨gt, i, none⟩ v1).heap[g]? = some (.cells cs 26 (0, 0)) := by
  have n1 : some g ≠ some gt := Kd.S_ne h.1 hn (by decide)
  exact blk_far (blk_grown hn hg (Kd.R_ne hR hn (by decide))) (p := ⟨gt, i, none⟩) (fun e => n1 (congrArg some e)) v1
theorem pb_info : (Tryz.prog.info? 48).map (fun i => (i.zero, i.size, i.bytes)) = some (some (.slice none 0 0), 1, 24) := by kernel_rfl
/-- Texts in a block of their own. -/
theorem strR (w : World) (l : List ByteArray) (hl : l.length ≤ 9223372036854775807) : Kd.R Kd.string 9 (w.alloc (.cells (l.map Value.string).toArray 9)) w.heap.size (fun _ => True) (.slice (some ⟨w.heap.size, 0, none⟩) l.length l.length) l :=
  ⟨fun _ _ => trivial, OwnRow.lit w w.heap.size (Kd.reps_scalar l) (Nat.le_refl _) hl⟩
end Go.Proofs.YtnknojpijmfefaaGreatDoor.P
