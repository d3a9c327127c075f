-- Written by a program of this session over the translation (a variant of the printer, see wip/gen); Lean checks it.
import Derived.Test.YtfcbdfedolnkfaaDoorPx0
import Derived.Test.YtfcbdfedolnkfaaDoorPx9
import Derived.Test.YtfcbdfedolnkfaaDoorPx10
import Derived.Test.YtfcbdfedolnkfaaDoorPx12
import Derived.Test.YtfcbdfedolnkfaaDoorPx14
import Derived.Test.YtfcbdfedolnkfaaDoorPx15
import Derived.Test.YtfcbdfedolnkfaaDoorU
import Derived.Test.YtfcbdfedolnkfaaDoorGM
import Derived.Test.YtfcbdfedolnkfaaDoorUKey
import Derived.StillTailTactics
import Derived.Deep.CutBlock
namespace Go.Proofs.YtfcbdfedolnkfaaDoor.P
open Go.RowKit Go.Proofs.YtfcbdfedolnkfaaDoorW.PrintWords Go.Proofs.YtfcbdfedolnkfaaDoorW.PrintLast Go.Proofs.YtfcbdfedolnkfaaDoorW.PrintMore
attribute [local go_sem] Go.Proofs.YtfcbdfedolnkfaaDoor.V.isSome_setCell max2_int min2_int max_two min_two max_three min_three max_four min_four   -- for this text's walks alone
set_option linter.unusedVariables false
set_option linter.unusedSimpArgs false

/-! ### impl_planner_search: function 39 -/
/-- What is asked of a yard that is searched: at most six stacks of at most four numbers below 100. -/
def plNums (tab : List (List Int)) : Prop := tab.length ≤ 6 ∧ ∀ row, row ∈ tab → row.length ≤ 4 ∧ ∀ x, x ∈ row → 0 ≤ x ∧ x < 100
instance (tab : List (List Int)) : Decidable (plNums tab) := by unfold plNums; infer_instance
theorem plNums.okN {tab : List (List Int)} (h : plNums tab) : ∀ r, r ∈ tab → Go.Proofs.YtfcbdfedolnkfaaDoor.UK.okN r := fun r hr x hx => (h.2 r hr).2 x hx
/-- What is on top is retrieved, as far as the order goes. -/
def plPop (k : Nat) (ord : List Int) : Nat → List (List Int) → Nat → List S47 → Option (List (List Int) × Nat × List S47)
  | 0, tab, e, st => some (tab, e, st)
  | m + 1, tab, e, st => (impl_placeOf.f k tab (rd ord (e : Int))).bind fun q => if (0 ≤ q.1 ∧ q.1 < (tab.length : Int) ∧ 0 ≤ q.2) ∧ plNums tab ∧ st.length ≤ 1000 then (if q.2 = ((tab.getD q.1.toNat []).length : Int) - 1 then plPop k ord m (mvCut tab q.1.toNat) (e + 1) (st ++ [⟨rd ord (e : Int), -1⟩]) else some (tab, e, st)) else none
/-- The other stacks are tried, from stack i on. -/
def plLoop (k : Nat) (go : List (List Int) → Option (Option (List S47))) (tab : List (List Int)) (f : Nat) : Nat → Nat → Option (Option (List S47))
  | 0, _ => some none
  | m + 1, i => if i = f ∨ (tab.getD i []).length = 4 then plLoop k go tab f m (i + 1) else (impl_ownYard.f k tab).bind fun t2 => if (t2.length = tab.length ∧ 0 < (t2.getD f []).length) ∧ plNums t2 then (go (mvTab t2 f i)).bind fun r => match r with
    | some rest => if rest.length ≤ 1000 then some (some (⟨mvTop t2 f, (i : Int)⟩ :: rest)) else none
    | none => plLoop k go tab f m (i + 1) else none
def plCont (k : Nat) (ord : List Int) (go : List (List Int) → Nat → Option (Option (List S47))) (t : List (List Int)) (e : Nat) : Option (Option (List S47)) :=
  (impl_placeOf.f k t (rd ord (e : Int))).bind fun q => if 0 ≤ q.1 ∧ q.1 < (t.length : Int) then plLoop k (fun t2 => go t2 e) t q.1.toNat t.length 0 else none
def plAfter (k : Nat) (ord : List Int) (left : Int) (cont : List (List Int) → Nat → List S47 → Option (Option (List S47))) (p : List (List Int) × Nat × List S47) : Option (Option (List S47)) :=
  if p.2.1 = ord.length then some (some p.2.2) else (impl_relocationBound.f k p.1 (ord.drop p.2.1)).bind fun b => if left < b then some none else cont p.1 p.2.1 p.2.2
def plMid (k : Nat) (ord : List Int) (left : Int) (tab : List (List Int)) (e : Nat) (cont : List (List Int) → Nat → List S47 → Option (Option (List S47))) : Option (Option (List S47)) :=
  (plPop k ord (ord.length - e) tab e []).bind (plAfter k ord left cont)
/-- The first plan with at most d - 1 relocations for what is left of an order from place e on. -/
def plSearch (k : Nat) (ord : List Int) : Nat → List (List Int) → Nat → Option (Option (List S47))
  | 0, tab, e => plMid k ord (-1) tab e fun _ _ _ => none
  | d + 1, tab, e => plMid k ord (d : Int) tab e fun t e2 st => if (plNums t ∧ st.length ≤ 1000) ∧ d < 100 then (plCont k ord (plSearch k ord d) t e2).bind fun r => match r with
    | some rest => some (some (st ++ rest))
    | none => some none else none
theorem plPop_mono (k : Nat) (ord : List Int) : ∀ (m : Nat) (tab : List (List Int)) (e : Nat) (st : List S47), LeO (plPop k ord m tab e st) (plPop (k + 1) ord m tab e st)
  | 0, _, _, _ => LeO.refl _
  | m + 1, tab, e, st => LeO.bind (impl_placeOf.mono _ _ _) fun q => LeO.ite (LeO.ite (plPop_mono k ord m _ _ _) (LeO.refl _)) (LeO.refl _)
theorem plLoop_mono (k : Nat) {go go' : List (List Int) → Option (Option (List S47))} (hg : ∀ t, LeO (go t) (go' t)) (tab : List (List Int)) (f : Nat) : ∀ (m i : Nat), LeO (plLoop k go tab f m i) (plLoop (k + 1) go' tab f m i)
  | 0, _ => LeO.refl _
  | m + 1, i => LeO.ite (plLoop_mono k hg tab f m _) (LeO.bind (impl_ownYard.mono _ _) fun t2 => LeO.ite (LeO.bind (hg _) fun r => by
    cases r with
    | some rest => exact LeO.refl _
    | none => exact plLoop_mono k hg tab f m _) (LeO.refl _))
theorem plCont_mono (k : Nat) (ord : List Int) {go go' : List (List Int) → Nat → Option (Option (List S47))} (hg : ∀ t e, LeO (go t e) (go' t e)) (t : List (List Int)) (e : Nat) : LeO (plCont k ord go t e) (plCont (k + 1) ord go' t e) :=
  LeO.bind (impl_placeOf.mono _ _ _) fun q => LeO.ite (plLoop_mono k (fun t2 => hg t2 e) t _ _ _) (LeO.refl _)
theorem plMid_mono (k : Nat) (ord : List Int) (left : Int) (tab : List (List Int)) (e : Nat) {c c' : List (List Int) → Nat → List S47 → Option (Option (List S47))} (hc : ∀ t e st, LeO (c t e st) (c' t e st)) : LeO (plMid k ord left tab e c) (plMid (k + 1) ord left tab e c') :=
  LeO.bind (plPop_mono k ord _ _ _ _) fun p => LeO.ite (LeO.refl _) (LeO.bind (impl_relocationBound.mono _ _ _) fun b => LeO.ite (LeO.refl _) (hc _ _ _))
theorem plSearch_mono (k : Nat) (ord : List Int) : ∀ (d : Nat) (tab : List (List Int)) (e : Nat), LeO (plSearch k ord d tab e) (plSearch (k + 1) ord d tab e)
  | 0, tab, e => plMid_mono k ord _ tab e fun _ _ _ => LeO.refl _
  | d + 1, tab, e => plMid_mono k ord _ tab e fun t e2 st => LeO.ite (LeO.bind (plCont_mono k ord (plSearch_mono k ord d) t e2) fun r => LeO.refl _) (LeO.refl _)
theorem plSearch_cut {k : Nat} {ord : List Int} {d : Nat} {tab : List (List Int)} {e : Nat} {r : Option (List S47)} (h : plSearch k ord d tab e = some r) : ∃ cont p, plPop k ord (ord.length - e) tab e [] = some p ∧ plAfter k ord ((d : Int) - 1) cont p = some r ∧ ∀ t e2 st r, cont t e2 st = some r → ∃ d', d = d' + 1 ∧ ((plNums t ∧ st.length ≤ 1000) ∧ d' < 100) ∧ ∃ r2, plCont k ord (plSearch k ord d') t e2 = some r2 ∧ r = r2.map (st ++ ·) := by
  cases d with
  | zero =>
    obtain ⟨p, hp, h2⟩ := Option.bind_eq_some_iff.1 h
    exact ⟨_, p, hp, h2, fun t e2 st r hr => by cases hr⟩
  | succ d =>
    obtain ⟨p, hp, h2⟩ := Option.bind_eq_some_iff.1 h
    refine ⟨_, p, hp, by rw [show ((d + 1 : Nat) : Int) - 1 = (d : Int) by omega]; exact h2, fun t e2 st r hr => ?_⟩
    split at hr
    case isFalse => cases hr
    case isTrue hc =>
    obtain ⟨r2, h3, h4⟩ := Option.bind_eq_some_iff.1 hr
    refine ⟨d, rfl, hc, r2, h3, ?_⟩
    cases r2 with
    | none => injection h4 with h4; exact h4.symm
    | some l => injection h4 with h4; exact h4.symm
/-- The set of keys, as the map holds it. -/
def plSet : List (List UInt8) → DataW Unit
  | [] => .map []
  | n :: s => (plSet s).put (.string n) (.lit (.bool true))
theorem plSet_isMap : ∀ s, Go.Maps.IsMap (plSet s)
  | [] => Go.Maps.isMap_empty
  | n :: s => by
    obtain ⟨es, h⟩ := plSet_isMap s
    rw [plSet, h]
    exact ⟨_, rfl⟩
theorem plSet_at (n : List UInt8) : ∀ s : List (List UInt8), (plSet s).atKey (.string n) (.lit (.bool false)) = .lit (.bool (s.contains n))
  | [] => rfl
  | m :: s => by
    by_cases e : n = m
    · subst e
      rw [plSet, Go.Maps.atKey_put_same (plSet_isMap s) (by simp [WideAt.IsKeyLit])]
      simp
    · rw [plSet, Go.Maps.atKey_put_other (fun h => e (by injection h)), plSet_at n s]
      simp [e]
/-- From all that is remembered no plan was found. -/
def plSound (ord : List Int) (s : List (List UInt8)) : Prop := ∀ key, key ∈ s → ∃ (d : Nat) (t : List (List Int)) (e : Nat), plNums t ∧ e < 100 ∧ d < 100 ∧ key = Go.Proofs.YtfcbdfedolnkfaaDoor.UK.keyL t e d ∧ ∃ k, plCont k ord (plSearch k ord d) t e = some none
theorem plSound_hit {ord : List Int} {s : List (List UInt8)} (h : plSound ord s) {t : List (List Int)} {e d k : Nat} (ht : plNums t) (he : e < 100) (hd : d < 100) (hm : Go.Proofs.YtfcbdfedolnkfaaDoor.UK.keyL t e d ∈ s) {r : Option (List S47)} (hr : plCont k ord (plSearch k ord d) t e = some r) : r = none := by
  obtain ⟨d2, t2, e2, ht2, he2, hd2, hk, k2, h2⟩ := h _ hm
  obtain ⟨h3, h4, h5⟩ := Go.Proofs.YtfcbdfedolnkfaaDoor.UK.keyL_inj ht.okN ht2.okN he he2 hd hd2 hk
  subst h3 h4 h5
  have m := fun j => plCont_mono j ord (plSearch_mono j ord d) t e
  have e1 := at_rounds (g := fun j => plCont j ord (plSearch j ord d) t e) m (Nat.le_max_left k k2) hr
  have e2 := at_rounds (g := fun j => plCont j ord (plSearch j ord d) t e) m (Nat.le_max_right k k2) h2
  exact Option.some.inj (e1.symm.trans e2)
theorem plSound_put {ord : List Int} {s : List (List UInt8)} (h : plSound ord s) {t : List (List Int)} {e d k : Nat} (ht : plNums t) (he : e < 100) (hd : d < 100) (hr : plCont k ord (plSearch k ord d) t e = some none) : plSound ord (Go.Proofs.YtfcbdfedolnkfaaDoor.UK.keyL t e d :: s) := by
  intro key hk
  rcases List.mem_cons.1 hk with rfl | hk
  · exact ⟨d, t, e, ht, he, hd, rfl, k, hr⟩
  · exact h key hk
/-- How many keys a search may add. -/
def plCost : Nat → Nat
  | 0 => 0
  | d + 1 => 1 + 6 * plCost d
/-- The letters of a number below 100. -/
def plDec (n : Int) : ByteArray := ⟨(Go.Proofs.YtfcbdfedolnkfaaDoor.UK.decL n.toNat).toArray⟩
theorem plDec_all : ∀ n : Fin 100, strconv_Itoa_49.f (n.val : Int) = some (plDec (n.val : Int)) := by decide +kernel
theorem plDec_ok {n : Int} (h : 0 ≤ n ∧ n < 100) : strconv_Itoa_49.f n = some (plDec n) := by
  obtain ⟨m, rfl⟩ := Int.eq_ofNat_of_zero_le h.1
  exact plDec_all ⟨m, by omega⟩
theorem plDec_size (n : Int) : (plDec n).size ≤ 2 := Go.Proofs.YtfcbdfedolnkfaaDoor.UK.decL_len n.toNat
/-- What stands while a search goes on: the planner's own cells, the map of its keys. -/
def PlW (w0 : World) (pb mb : Nat) (A1 : Option Addr) (m c1 : Nat) (ord : List Int) (n : Nat) (W : World) : Prop :=
  W.heap[pb]? = some (.cells #[.slice A1 m c1, .map (some mb)] 59 (0, 0)) ∧ (∃ s, W.ownsMap Tryd.prog 9 (plainElem Tryd.prog 4) mb n (plSet s) ∧ plSound ord s) ∧ Below w0.heap.size w0 W
theorem ownsMap_at {w w' : World} {k : TypeId} {R : Value → Option (DataW Unit × List MemPlace)} {b n : Nat} {D : DataW Unit} (h : w.ownsMap Tryd.prog k R b n D) (hb : w'.heap[b]? = w.heap[b]?) : w'.ownsMap Tryd.prog k R b n D := by
  obtain ⟨es, clock, h1, F, hs, hD⟩ := h
  exact ⟨es, clock, hb.trans h1, F, hs, hD⟩
theorem PlW.at {w0 : World} {pb mb m c1 n : Nat} {A1 : Option Addr} {ord : List Int} {W W' : World} (h : PlW w0 pb mb A1 m c1 ord n W) (h1 : W'.heap[pb]? = W.heap[pb]?) (h2 : W'.heap[mb]? = W.heap[mb]?) (hB : Below w0.heap.size w0 W') : PlW w0 pb mb A1 m c1 ord n W' := by
  obtain ⟨hp, ⟨s, hs, hs2⟩, _⟩ := h
  exact ⟨h1.trans hp, ⟨s, ownsMap_at hs h2, hs2⟩, hB⟩
theorem PlW.pblt {w0 : World} {pb mb m c1 n : Nat} {A1 : Option Addr} {ord : List Int} {W : World} (h : PlW w0 pb mb A1 m c1 ord n W) : pb < W.heap.size ∧ mb < W.heap.size := by
  obtain ⟨hp, ⟨s, hs, hs2⟩, _⟩ := h
  exact ⟨blk_lt hp, hs.lt⟩
theorem PlW.below {w0 : World} {pb mb m c1 n : Nat} {A1 : Option Addr} {ord : List Int} {W W' : World} (h : PlW w0 pb mb A1 m c1 ord n W) (hb : Below W.heap.size W W') : PlW w0 pb mb A1 m c1 ord n W' :=
  h.at (hb.block pb h.pblt.1) (hb.block mb h.pblt.2) (below_step h.2.2 hb)
/-- A block that holds cells is not the map's; one of another type is not the planner's. -/
theorem PlW.ne {w0 : World} {pb mb m c1 n : Nat} {A1 : Option Addr} {ord : List Int} {W : World} (h : PlW w0 pb mb A1 m c1 ord n W) {k t : Nat} {cs : Array Value} (hk : W.heap[k]? = some (.cells cs t (0, 0))) : k ≠ mb ∧ (t ≠ 59 → k ≠ pb) := by
  obtain ⟨hp, ⟨s, ⟨es, clock, h1, _⟩, hs2⟩, _⟩ := h
  exact ⟨(fun e => by subst e; rw [h1] at hk; cases hk), fun ht e => by subst e; rw [hp] at hk; injection hk with hk; injection hk with _ h2; exact ht h2.symm⟩
theorem PlW.mono {w0 : World} {pb mb m c1 n n' : Nat} {A1 : Option Addr} {ord : List Int} {W : World} (h : PlW w0 pb mb A1 m c1 ord n W) (hn : n ≤ n') : PlW w0 pb mb A1 m c1 ord n' W := by
  obtain ⟨hp, ⟨s, hs, hs2⟩, hB⟩ := h
  exact ⟨hp, ⟨s, hs.mono hn, hs2⟩, hB⟩
theorem PlW.grown {w0 : World} {pb mb m c1 n : Nat} {A1 : Option Addr} {ord : List Int} {W W' : World} (h : PlW w0 pb mb A1 m c1 ord n W) {v : Value} {t : Nat} (hty : ∀ k, v.ownBlock = some k → ∃ cells, W.heap[k]? = some (.cells cells t (0, 0))) (ht : t ≠ 59) (hg : W.grownBy W' v.ownBlock) (hB : Below w0.heap.size w0 W') : PlW w0 pb mb A1 m c1 ord n W' :=
  h.at (hg.block pb h.pblt.1 fun e => by obtain ⟨cs, hc⟩ := hty pb e.symm; exact (h.ne hc).2 ht rfl) (hg.block mb h.pblt.2 fun e => by obtain ⟨cs, hc⟩ := hty mb e.symm; exact (h.ne hc).1 rfl) hB
/-- The contract of a search at d, told for all yards. -/
def PlC (w0 : World) (pb mb : Nat) (A1 : Option Addr) (m c1 : Nat) (ord : List Int) (k d : Nat) : Prop :=
  ∀ (gt cap e n : Nat) (tab : List (List Int)) (r : Option (List S47)) (ok : Nat → Prop) (w : World), PlW w0 pb mb A1 m c1 ord n w → Kd.S (Kd.slice 3 (Kd.int .i64)) 25 w w0.heap.size ok (.slice (some ⟨gt, 0, none⟩) tab.length cap) tab → (∀ q, w.heap.size ≤ q → ok q) → e ≤ m → n + plCost d ≤ 9000000000000000000 → plSearch k ord d tab e = some r →
    Calls Tryd.prog 39 #[.pointer (some ⟨pb, 0, none⟩), .agg #[.slice (some ⟨gt, 0, none⟩) tab.length cap], .int .i64 (e : Int), .int .i64 ((d : Int) - 1)] w fun x w' => ∃ v, x = .returned (.tuple #[v, .bool r.isSome]) ∧ Kd.R k47 47 w' w0.heap.size (fun q => w.heap.size ≤ q) v (r.getD []) ∧ PlW w0 pb mb A1 m c1 ord (n + plCost d) w' ∧ w.heap.size ≤ w'.heap.size ∧ ∀ q, q < w.heap.size → ¬ ok q → q ≠ mb → w'.heap[q]? = w.heap[q]?
/-- What stands on the way of a search: the map, the yard's table, its box; what was there before is kept. -/
def PlI (w0 : World) (pb mb : Nat) (A1 : Option Addr) (m c1 : Nat) (ord : List Int) (n gt cap tl gb : Nat) (ok : Nat → Prop) (w W : World) (tab : List (List Int)) : Prop :=
  tab.length = tl ∧ PlW w0 pb mb A1 m c1 ord n W ∧ Kd.S (Kd.slice 3 (Kd.int .i64)) 25 W w0.heap.size ok (.slice (some ⟨gt, 0, none⟩) tl cap) tab ∧ W.heap[gb]? = some (.cells #[.slice (some ⟨gt, 0, none⟩) tl cap] 30 (0, 0)) ∧ (w.heap.size ≤ W.heap.size ∧ w.heap.size ≤ gb) ∧ ∀ q, q < w.heap.size → ¬ ok q → q ≠ mb → W.heap[q]? = w.heap[q]?
theorem PlI.below {w0 : World} {pb mb m c1 n gt cap tl gb : Nat} {A1 : Option Addr} {ord : List Int} {ok : Nat → Prop} {w W W' : World} {tab : List (List Int)} (h : PlI w0 pb mb A1 m c1 ord n gt cap tl gb ok w W tab) (hb : Below W.heap.size W W') : PlI w0 pb mb A1 m c1 ord n gt cap tl gb ok w W' tab :=
  ⟨h.1, h.2.1.below hb, Kd.S_below h.2.2.1 hb, blk_below h.2.2.2.1 hb, ⟨Nat.le_trans h.2.2.2.2.1.1 hb.size, h.2.2.2.2.1.2⟩, fun q hq hno hm => (hb.block q (Nat.lt_of_lt_of_le hq h.2.2.2.2.1.1)).trans (h.2.2.2.2.2 q hq hno hm)⟩
theorem PlI.grown {w0 : World} {pb mb m c1 n gt cap tl gb : Nat} {A1 : Option Addr} {ord : List Int} {ok : Nat → Prop} {w W W' : World} {tab : List (List Int)} {v : Value} {st : List S47} (h : PlI w0 pb mb A1 m c1 ord n gt cap tl gb ok w W tab) (hR : Kd.R k47 47 W w0.heap.size (fun q => w.heap.size ≤ q) v st) (hg : W.grownBy W' v.ownBlock) (hB : Below w0.heap.size w0 W') : PlI w0 pb mb A1 m c1 ord n gt cap tl gb ok w W' tab :=
  ⟨h.1, h.2.1.grown (Kd.R_typed hR) (by decide) hg hB, Kd.S_over' h.2.2.1 (Kd.R_typed hR) (by decide) hg, blk_grown h.2.2.2.1 hg (Kd.R_ne hR h.2.2.2.1 (by decide)), ⟨Nat.le_trans h.2.2.2.2.1.1 hg.size, h.2.2.2.2.1.2⟩, fun q hq hno hm => (hg.block q (Nat.lt_of_lt_of_le hq h.2.2.2.2.1.1) (fun e => absurd (hR.1 q e.symm) (by omega))).trans (h.2.2.2.2.2 q hq hno hm)⟩
theorem PlI.box {w0 : World} {pb mb m c1 n gt cap tl gb : Nat} {A1 : Option Addr} {ord : List Int} {ok : Nat → Prop} {w W : World} {tab : List (List Int)} (h : PlI w0 pb mb A1 m c1 ord n gt cap tl gb ok w W tab) : W.cell? ⟨gb, 0, none⟩ = some (.slice (some ⟨gt, 0, none⟩) tl cap) := (blk_cell h.2.2.2.1 0).trans rfl
theorem PlI.pl {w0 : World} {pb mb m c1 n gt cap tl gb : Nat} {A1 : Option Addr} {ord : List Int} {ok : Nat → Prop} {w W : World} {tab : List (List Int)} (h : PlI w0 pb mb A1 m c1 ord n gt cap tl gb ok w W tab) : W.cell? ⟨pb, 0, none⟩ = some (.slice A1 m c1) ∧ W.cell? ⟨pb, 1, none⟩ = some (.map (some mb)) := ⟨(blk_cell h.2.1.1 0).trans rfl, (blk_cell h.2.1.1 1).trans rfl⟩
theorem PlI.drew {w0 : World} {pb mb m c1 n gt cap tl gb : Nat} {A1 : Option Addr} {ord : List Int} {ok : Nat → Prop} {w W : World} {tab : List (List Int)} (h : PlI w0 pb mb A1 m c1 ord n gt cap tl gb ok w W tab) : PlI w0 pb mb A1 m c1 ord n gt cap tl gb ok w W.drew tab := h.below (below_drew1 (Below.refl _ _))
/-- The numbers of an order, read in a later world. -/
theorem PlI.ord {w0 : World} {pb mb m c1 n gt cap tl gb : Nat} {A1 : Option Addr} {ord : List Int} {ok : Nat → Prop} {w W : World} {tab : List (List Int)} (h : PlI w0 pb mb A1 m c1 ord n gt cap tl gb ok w W tab) (hC : Kd.C (Kd.int .i64) w0 A1 ord.length ord) : Kd.C (Kd.int .i64) W A1 ord.length ord := Kd.C_below hC h.2.1.2.2
theorem impl_search.plc (k : Nat) (A0_0 : Option Addr) (n c0_0 : Nat) (l0_0 : List (List Int)) (a1 : Int) (r1 : Int) (r2 : Int) (w : World) (hn : l0_0.length = n) (hr0_0 : Kd.C (Kd.slice 3 (Kd.int .i64)) w A0_0 l0_0.length l0_0) (hc0_0 : l0_0.length ≤ c0_0) (h : impl_placeOf.f k l0_0 a1 = some (r1, r2)) :
    Calls Tryd.prog 36 #[.agg #[.slice A0_0 n c0_0], .int .i64 a1] w fun e w' => e = .returned (.tuple #[.int .i64 r1, .int .i64 r2]) ∧ Below w.heap.size w w' := by
  subst hn
  exact impl_placeOf.calls k A0_0 c0_0 l0_0 a1 r1 r2 w hr0_0 hc0_0 h
theorem PlI.gt {w0 : World} {pb mb m c1 n gt cap tl gb : Nat} {A1 : Option Addr} {ord : List Int} {ok : Nat → Prop} {w W : World} {tab : List (List Int)} (h : PlI w0 pb mb A1 m c1 ord n gt cap tl gb ok w W tab) : ok gt ∧ w0.heap.size ≤ gt ∧ ∃ cells, W.heap[gt]? = some (.cells cells 25 (0, 0)) :=
  ⟨(Kd.S_R h.2.2.1).1 gt (by simp [Value.ownBlock]), Kd.S_base h.2.2.1 gt (by simp [Value.ownBlock]), Kd.S_typed h.2.2.1 gt (by simp [Value.ownBlock])⟩
theorem PlI.cut {w0 : World} {pb mb m c1 n gt cap tl gb : Nat} {A1 : Option Addr} {ord : List Int} {ok : Nat → Prop} {w W : World} {tab : List (List Int)} (h : PlI w0 pb mb A1 m c1 ord n gt cap tl gb ok w W tab) {tab2 : List (List Int)} (hl : tab2.length = tab.length) {f : Nat} {u : Value} (hS : Kd.S (Kd.slice 3 (Kd.int .i64)) 25 (W.setCell ⟨gt, f, none⟩ u) w0.heap.size ok (.slice (some ⟨gt, 0, none⟩) tl cap) tab2) : PlI w0 pb mb A1 m c1 ord n gt cap tl gb ok w (W.setCell ⟨gt, f, none⟩ u) tab2 := by
  obtain ⟨hok, hb, cs, hg⟩ := h.gt
  have hne := h.2.1.ne hg
  refine ⟨hl.trans h.1, h.2.1.at (Below.heap_setCell W ⟨gt, f, none⟩ u pb (fun e => hne.2 (by decide) e.symm)) (Below.heap_setCell W ⟨gt, f, none⟩ u mb (fun e => hne.1 e.symm)) (h.2.1.2.2.setCell (p := ⟨gt, f, none⟩) hb u), hS, blk_far h.2.2.2.1 (p := ⟨gt, f, none⟩) (fun e => ?_) u, ⟨by rw [World.size_setCell]; exact h.2.2.2.2.1.1, h.2.2.2.2.1.2⟩, fun q hq hno hm => (Below.heap_setCell W ⟨gt, f, none⟩ u q (fun e => hno (by rw [show q = gt from e]; exact hok))).trans (h.2.2.2.2.2 q hq hno hm)⟩
  have hgb := h.2.2.2.1
  rw [show gb = gt from e, hg] at hgb
  injection hgb with hgb
  injection hgb with _ h2
  exact absurd h2 (by decide)
theorem impl_search.bnd (k : Nat) (A0_0 : Option Addr) (n c0_0 : Nat) (l0_0 : List (List Int)) (ad : Addr) (m c1 e : Nat) (ord : List Int) (b : Int) (w : World) (hn : l0_0.length = n) (hr0_0 : Kd.C (Kd.slice 3 (Kd.int .i64)) w A0_0 l0_0.length l0_0) (hc0_0 : l0_0.length ≤ c0_0) (hm : ord.length = m) (he : e < m) (hc : m ≤ c1) (hC : Kd.C (Kd.int .i64) w (some ad) ord.length ord) (h : impl_relocationBound.f k l0_0 (ord.drop e) = some b) :
    Calls Tryd.prog 38 #[.agg #[.slice A0_0 n c0_0], .slice (some (ad.add e)) (m - e) (c1 - e)] w fun x w' => x = .returned (.int .i64 b) ∧ Below w.heap.size w w' := by
  subst hn
  have hd := Kd.C_drop (m := e) (c := c1) hC (by omega) (by omega)
  rw [if_neg (by omega)] at hd
  have hd2 : Kd.C (Kd.int .i64) w (some (ad.add e)) (ord.drop e).length (ord.drop e) := by
    simp only [Option.map_some] at hd
    rw [show e * (Kd.int .i64).sz = e from Nat.mul_one e] at hd
    exact hd
  have h1 := impl_relocationBound.calls k A0_0 c0_0 l0_0 (some (ad.add e)) (c1 - e) (ord.drop e) b w hr0_0 hc0_0 hd2 (by rw [List.length_drop]; omega) h
  rw [List.length_drop, hm] at h1
  exact h1
theorem plApp (a b : ByteArray) : (a ++ b).data.toList = a.data.toList ++ b.data.toList := by rw [ByteArray.data_append, Array.toList_append]
theorem plSz (a : ByteArray) : a.size = a.data.toList.length := rfl
theorem plKeySz {t : List (List Int)} (h : plNums t) {e d : Nat} {s : ByteArray} {u : List UInt8} (hs : s.data.toList ++ u = Go.Proofs.YtfcbdfedolnkfaaDoor.UK.keyL t e d) : s.size ≤ 83 := by
  have h1 := Go.Proofs.YtfcbdfedolnkfaaDoor.UK.keyL_len t e d (fun r hr => (h.2 r hr).1)
  rw [← hs, List.length_append] at h1
  rw [plSz]
  have := h.1
  omega
theorem PlI.mono {w0 : World} {pb mb m c1 n n' gt cap tl gb : Nat} {A1 : Option Addr} {ord : List Int} {ok : Nat → Prop} {w W : World} {tab : List (List Int)} (h : PlI w0 pb mb A1 m c1 ord n gt cap tl gb ok w W tab) (hn : n ≤ n') : PlI w0 pb mb A1 m c1 ord n' gt cap tl gb ok w W tab := ⟨h.1, h.2.1.mono hn, h.2.2⟩
/-- All but the map is kept. -/
theorem PlI.kept {w0 : World} {pb mb m c1 n n' gt cap tl gb : Nat} {A1 : Option Addr} {ord : List Int} {ok : Nat → Prop} {w W W' : World} {tab : List (List Int)} (h : PlI w0 pb mb A1 m c1 ord n gt cap tl gb ok w W tab) (hk : ∀ q, q < W.heap.size → q ≠ mb → W'.heap[q]? = W.heap[q]?) (hs : W.heap.size ≤ W'.heap.size) (hW : PlW w0 pb mb A1 m c1 ord n' W') : PlI w0 pb mb A1 m c1 ord n' gt cap tl gb ok w W' tab := by
  refine ⟨h.1, hW, Kd.S_mono (Kd.S_step (Kd.S_bound h.2.2.1) fun q hq hlt => ?_) (fun _ hq => hq.1), (hk gb (blk_lt h.2.2.2.1) (h.2.1.ne h.2.2.2.1).1).trans h.2.2.2.1, ⟨Nat.le_trans h.2.2.2.2.1.1 hs, h.2.2.2.2.1.2⟩, fun q hq hno hm => (hk q (Nat.lt_of_lt_of_le hq h.2.2.2.2.1.1) hm).trans (h.2.2.2.2.2 q hq hno hm)⟩
  obtain ⟨_, _, _, ty, _, cs, hc⟩ := hq
  exact hk q hlt (h.2.1.ne hc).1
theorem PlI.keptR {w0 : World} {pb mb m c1 n gt cap tl gb : Nat} {A1 : Option Addr} {ord : List Int} {ok ok2 : Nat → Prop} {w W W' : World} {tab : List (List Int)} {v : Value} {st : List S47} (h : PlI w0 pb mb A1 m c1 ord n gt cap tl gb ok w W tab) (hk : ∀ q, q < W.heap.size → q ≠ mb → W'.heap[q]? = W.heap[q]?) (hR : Kd.R k47 47 W w0.heap.size ok2 v st) : Kd.R k47 47 W' w0.heap.size ok2 v st := by
  refine Kd.R_mono (Kd.R_step (Kd.R_bound hR) fun q hq hlt => ?_) (fun _ hq => hq.1)
  obtain ⟨_, _, _, ty, _, cs, hc⟩ := hq
  exact hk q hlt (h.2.1.ne hc).1
theorem impl_search.own (k : Nat) (A0_0 : Option Addr) (n c0_0 : Nat) (l0_0 : List (List Int)) (r : List (List Int)) (w w0 : World) (hw : w0.heap.size ≤ w.heap.size) (hn : l0_0.length = n) (hr : r.length = n) (hp : 0 < n) (hr0_0 : Kd.C (Kd.slice 3 (Kd.int .i64)) w A0_0 l0_0.length l0_0) (hc0_0 : l0_0.length ≤ c0_0) (h : impl_ownYard.f k l0_0 = some r) :
    Calls Tryd.prog 40 #[.agg #[.slice A0_0 n c0_0]] w fun e w' => ∃ g cap : Nat, e = .returned (.agg #[.slice (some ⟨g, 0, none⟩) n cap]) ∧ Kd.S (Kd.slice 3 (Kd.int .i64)) 25 w' w0.heap.size (fun q => w.heap.size ≤ q) (.slice (some ⟨g, 0, none⟩) n cap) r ∧ Below w.heap.size w w' := by
  subst hn
  refine (impl_ownYard.calls k A0_0 c0_0 l0_0 r w hr0_0 hc0_0 h).mono ?_
  rintro e w' ⟨v, rfl, hS, hb⟩
  obtain ⟨g, cap, rfl, _⟩ := Kd.S_form hS (by omega)
  rw [hr] at hS ⊢
  exact ⟨g, cap, rfl, Kd.S_lower (Kd.S_mono (Kd.S_bound hS) (fun q hq => hq.2.1)) hw, hb⟩
theorem impl_search.zeroB (w : World) : (zeroValue 4).run Tryd.prog w = .ok (.bool false) w := by kernel_rfl
theorem impl_search.keyed : Go.Maps.Keyed Tryd.prog 9 := Go.Maps.string_keyed Tryd.underlying9
/-- A plan is found or not: the found one stands behind what was retrieved. -/
theorem plPut {w0 : World} {pb mb m c1 n : Nat} {A1 : Option Addr} {ord : List Int} {W W' : World} (h : PlW w0 pb mb A1 m c1 ord n W) {key : List UInt8} {s : List (List UInt8)} (hs : plSound ord (key :: s)) (hmb : w0.heap.size ≤ mb) (ho : W'.ownsMap Tryd.prog 9 (plainElem Tryd.prog 4) mb (n + 1) ((plSet s).put (.string key) (.lit (.bool true)))) (hg : W.grownBy W' (some mb)) : PlW w0 pb mb A1 m c1 ord (n + 1) W' :=
  ⟨(hg.block pb h.pblt.1 (fun e => (h.ne h.1).1 (Option.some.inj e))).trans h.1, ⟨key :: s, ho, hs⟩, Below.grown h.2.2 hg (below_size h.2.2) (fun k hk => by cases hk; exact hmb)⟩
def impl_search.T3 : Bool × List (List Nat × List Nat) := (true, [([], []), ([], []), ([1], [1]), ([2], [2]), ([3], [3]), ([], []), ([4, 5], [4, 5]), ([6], [6]), ([0, 7], [0, 7]), ([8], [8]), ([9], [9]), ([9], [9]), ([10, 8, 0, 1, 2, 3, 4, 5, 6, 7, 8, 9, 10], [10]), ([11, 12, 0, 1, 2, 3, 4, 5, 6, 7, 8, 9, 10, 11, 12], [11])])
def impl_search.B3 : List Nat := [0, 0, 2, 6, 14, 0, 62, 126, 255, 511, 1023, 1023, 2047, 8191]
theorem impl_search.tab3 : rtab .any (opsOf Tryd.f39 3) = impl_search.T3 := by kernel_rfl
theorem impl_search.bits3 : waitsOk impl_search.T3.2 impl_search.B3 = true := by kernel_rfl
def impl_search.T10 : Bool × List (List Nat × List Nat) := (true, [([], []), ([], []), ([1], [1]), ([2], [2]), ([3], [3]), ([], []), ([4, 5], [4, 5]), ([0, 6], [0, 6]), ([], []), ([7, 8], [7, 8])])
def impl_search.B10 : List Nat := [0, 0, 2, 6, 14, 0, 62, 127, 0, 511]
theorem impl_search.tab10 : rtab .any (opsOf Tryd.f39 10) = impl_search.T10 := by kernel_rfl
theorem impl_search.bits10 : waitsOk impl_search.T10.2 impl_search.B10 = true := by kernel_rfl
def impl_search.T25 : Bool × List (List Nat × List Nat) := (true, [([], []), ([], []), ([1], [1]), ([2], [2]), ([3], [3]), ([], []), ([4, 5], [4, 5]), ([6], [6]), ([0, 7], [0, 7]), ([8], [8]), ([9], [9]), ([9], [9]), ([10, 8, 0, 1, 2, 3, 4, 5, 6, 7, 8, 9, 10], [10]), ([11, 12, 0, 1, 2, 3, 4, 5, 6, 7, 8, 9, 10, 11, 12], [11])])
def impl_search.B25 : List Nat := [0, 0, 2, 6, 14, 0, 62, 126, 255, 511, 1023, 1023, 2047, 8191]
theorem impl_search.tab25 : rtab .any (opsOf Tryd.f39 25) = impl_search.T25 := by kernel_rfl
theorem impl_search.bits25 : waitsOk impl_search.T25.2 impl_search.B25 = true := by kernel_rfl
set_option maxHeartbeats 8000000 in
set_option maxRecDepth 100000 in
/-- THE CALL -/
theorem impl_search.step (w0 : World) (pb mb : Nat) (A1 : Option Addr) (m c1 : Nat) (ord : List Int) (k d : Nat) (hm : ord.length = m) (hm8 : m ≤ 99) (hC : Kd.C (Kd.int .i64) w0 A1 ord.length ord) (hc : ord.length ≤ c1) (hmb : w0.heap.size ≤ mb) (hrec : ∀ d', d = d' + 1 → PlC w0 pb mb A1 m c1 ord k d') : PlC w0 pb mb A1 m c1 ord k d := by
  intro gt cap e n tab r ok w hW hS hfr he hcost h
  have hu := Tryd.underlying30
  have hu2 := Tryd.underlying47
  have hu3 := Tryd.underlying59
  obtain ⟨cont, p, hp, ha, hcont⟩ := plSearch_cut h
  rw [hm] at hp
  obtain ⟨tl, htl⟩ : ∃ n : Nat, tab.length = n := ⟨_, rfl⟩
  have HM := Aside0.mk hm
  have HC := Aside0.mk hC
  have Hc := Aside0.mk (show m ≤ c1 from hm ▸ hc)
  have HRec := Aside0.mk hrec
  have HW := Aside0.mk hW
  have HS := Aside0.mk hS
  have HFr := Aside0.mk hfr
  have HCost := Aside0.mk hcost
  have HP := Aside0.mk hp
  have HA := Aside0.mk ha
  have HCont := Aside0.mk hcont
  have HTl := Aside0.mk htl
  rw [htl] at HS ⊢
  have HE := Aside0.mk he
  clear hC hc hrec hW hS hfr hcost h hp ha hcont htl hm he
  go_enter Tryd.func39, Tryd.ntmps39
  go_upto_block 0 with (first | ((with_reducible refine gate_dst (N := 5) rfl ?_); (try (refine gate_guard (by rfl) ?_; dsimp only)); refine box_event ?hg (N := 5) ?hd (cs := #[.slice (some ⟨gt, 0, none⟩) tl cap]) (t := 30) ?hr ?_; (case hd => rfl); (case hg => rfl); (case hr => first | (go_simp; done) | (go_simp; rfl)); intro gb hgb w1 hbox hb; have HI := Aside0.mk (show PlI w0 pb mb A1 m c1 ord n gt cap tl gb ok w w1 tab from ⟨HTl.out, HW.out.below hb, Kd.S_below HS.out hb, hbox, ⟨hb.size, by rw [hgb]; exact Nat.le_refl _⟩, fun q hq _ _ => hb.block q hq⟩); clear hb hbox hgb HS) | ((with_reducible refine gate_dst (N := 26) rfl ?_); refine Kd.R_lit k47 _ 47 ?hg (N := 26) ?hd (xs := ([] : List S47)) (inner := []) (ok := fun _ => True) (okp := fun _ => True) ?hr ?hp (fun _ hk => hk) trivial (Below.refl _ _) (Nat.le_refl _) (by simp) ?_; (case hd => rfl); (case hg => rfl); (case hr => first | (go_simp; done) | (go_simp; rfl)); (case hp => exact (Reps.none _ _)); intro v26 w2 ho hb hg_ hnew_; have HR := Aside0.mk (show Kd.R k47 47 w2 w0.heap.size (fun q => w.heap.size ≤ q) v26 [] from Kd.R_lower (Kd.R_mono (Kd.R_bound ho) (fun q hq => Nat.le_trans HI.out.2.2.2.2.1.1 hq.2.1)) (below_size HI.out.2.1.2.2)); have HI2 := Aside0.mk (HI.out.below hb); clear HI ho hb hg_ hnew_))
  (try simp only [Act.put, List.setIfInBounds_toArray, List.set_cons_zero, List.set_cons_succ])
  go_cut [2, 10] (fun v2 v10 wc => ∃ (t : List (List Int)) (e2 : Nat) (st : List S47), v2 = .int .i64 (e2 : Int) ∧ Aside0 (e2 ≤ m) ∧ Aside0 (plAfter k ord ((d : Int) - 1) cont (t, e2, st) = some r) ∧ Aside0 (PlI w0 pb mb A1 m c1 ord n gt cap tl gb ok w wc t) ∧ Aside0 (Kd.R k47 47 wc w0.heap.size (fun q => w.heap.size ≤ q) v10 st))
  case first =>
    go_wp2_with (fail)
    go_loopg [2, 10] (m - e) (fun dq v2 v10 wr => ∃ (t : List (List Int)) (e2 : Nat) (st : List S47), v2 = .int .i64 (e2 : Int) ∧ Aside0 (e2 + dq = m) ∧ Aside0 (plPop k ord dq t e2 st = some p) ∧ Aside0 (PlI w0 pb mb A1 m c1 ord n gt cap tl gb ok w wr t) ∧ Aside0 (Kd.R k47 47 wr w0.heap.size (fun q => w.heap.size ≤ q) v10 st))
    case atStart => exact ⟨tab, e, [], rfl, ⟨by have := HE.out; omega⟩, HP, HI2, HR⟩
    case round =>
      clear HI2 HR HP HE
      obtain ⟨t, e2, st, rfl, HQ, HP, HI, HR⟩ := hrel
      have hpl := HI.out.pl.1
      cases gk with
      | zero =>
        have hem : e2 = m := by have := HQ.out; omega
        have hp := HP.out
        rw [plPop] at hp
        injection hp with hp
        have hlt : decide ((e2 : Int) < (m : Int)) = false := decide_eq_false (by omega)
        have hlt2 : decide (e2 < m) = false := decide_eq_false (by omega)
        have HA2 := Aside0.mk (show plAfter k ord ((d : Int) - 1) cont (t, e2, st) = some r by rw [hp]; exact HA.out)
        have HEm := Aside0.mk (show e2 ≤ m by omega)
        clear hp hem
        go_wp2
        go_meet
        case rel => exact ⟨t, e2, st, rfl, HEm, HA2, HI, HR⟩
      | succ dq =>
        have hem : e2 < m := by have := HQ.out; omega
        have hlt : decide ((e2 : Int) < (m : Int)) = true := decide_eq_true (by omega)
        have hlt2 : decide (e2 < m) = true := decide_eq_true (by omega)
        obtain ⟨ad, eA, hx0⟩ := Kd.at_int (HI.out.ord HC.out) (e2 : Int) (by omega) (by have := HM.out; omega)
        subst eA
        rw [Int.toNat_natCast] at hx0
        have hp := HP.out
        rw [plPop] at hp
        obtain ⟨q, hq, hp2⟩ := Option.bind_eq_some_iff.1 hp
        clear hp
        generalize rd ord (e2 : Int) = x at *
        obtain ⟨q1, q2⟩ := q
        split at hp2
        case isFalse => cases hp2
        case isTrue hcd =>
        obtain ⟨f, rfl⟩ := Int.eq_ofNat_of_zero_le hcd.1.1
        dsimp only at hcd hp2 hq
        rw [Int.toNat_natCast] at hp2
        have HCd := Aside0.mk hcd
        have HQq := Aside0.mk hq
        have HP2 := Aside0.mk hp2
        have HX0 := Aside0.mk hx0
        have HPl := Aside0.mk hpl
        clear hcd hq hp2 HP
        go_upto_region 3 with (fail)
        have HI0 := Aside0.mk HI.out.drew
        have HR0 := Aside0.mk (Kd.R_drew HR.out)
        have hS3 : wr.drew.cell? ⟨gb, 0, none⟩ = some (.slice (some ⟨gt, 0, none⟩) tl cap) ∧ wr.drew.cell? ⟨pb, 0, none⟩ = some (.slice (some ad) m c1) ∧ wr.drew.cell? (ad.add e2) = some (.int .i64 x) := ⟨HI0.out.box, HPl.out, HX0.out⟩
        clear HI HR hpl hx0
        refine start_ (n := 14) (S := fun w' => w'.cell? ⟨gb, 0, none⟩ = some (.slice (some ⟨gt, 0, none⟩) tl cap) ∧ w'.cell? ⟨pb, 0, none⟩ = some (.slice (some ad) m c1) ∧ w'.cell? (ad.add e2) = some (.int .i64 x)) (ds := []) #[false, false, false, false, false, false, false, false, false, false, false, false, false, false] (by kernel_rfl) rfl rfl hS3 (fun hHeld => ?_)
        refine with_tabW impl_search.tab3 impl_search.bits3 (fun HT_ HW_ => ?_)
        generalize wr.drew = W0 at HI0 HR0 hS3 hHeld ⊢
        refine pure_ (i := 1) (N := some 36) (v := ?_) (a' := ?_) #[false, true, false, false, false, false, false, false, false, false, false, false, false, false] rfl rfl (any_of HT_.out (by kernel_rfl)) (fun _ _ _ h => h) (Or.inl ⟨by rfl, ?_⟩) ?_ ?_
        rotate_left
        · intro w'
          go_simp
          with_reducible rfl
        rotate_left
        · simp only [Act.put, List.setIfInBounds_toArray, List.set_cons_zero, List.set_cons_succ, i64_w, i32_w]
          rfl
        refine pure_ (i := 2) (N := some 37) (v := ?_) (a' := ?_) #[false, true, true, false, false, false, false, false, false, false, false, false, false, false] rfl rfl (any_of HT_.out (by kernel_rfl)) (fun _ _ _ h => h) (Or.inl ⟨by rfl, ?_⟩) ?_ ?_
        rotate_left
        · intro w'
          go_simp
          with_reducible rfl
        rotate_left
        · simp only [Act.put, List.setIfInBounds_toArray, List.set_cons_zero, List.set_cons_succ, i64_w, i32_w]
          rfl
        refine pure_ (i := 3) (N := some 38) (v := ?_) (a' := ?_) #[false, true, true, true, false, false, false, false, false, false, false, false, false, false] rfl rfl (any_of HT_.out (by kernel_rfl)) (fun _ _ _ h => h) (Or.inl ⟨by rfl, ?_⟩) ?_ ?_
        rotate_left
        · intro w'
          go_simp
          with_reducible rfl
        rotate_left
        · simp only [Act.put, List.setIfInBounds_toArray, List.set_cons_zero, List.set_cons_succ, i64_w, i32_w]
          rfl
        refine take_ (i := 0) (N := some 35) (v := ?_) (a' := ?_) #[true, true, true, true, false, false, false, false, false, false, false, false, false, false] rfl rfl (take_ofW HT_.out HW_.out (by kernel_rfl)) (fun _ _ _ h => h) (Or.inl ⟨by rfl, ?_⟩) hHeld ?_ ?_
        rotate_left
        · rintro w' ⟨s0, s1, s2⟩
          go_simp
          with_reducible rfl
        rotate_left
        · simp only [Act.put, List.setIfInBounds_toArray, List.set_cons_zero, List.set_cons_succ, i64_w, i32_w]
          rfl
        refine take_ (i := 4) (N := some 39) (v := ?_) (a' := ?_) #[true, true, true, true, true, false, false, false, false, false, false, false, false, false] rfl rfl (take_ofW HT_.out HW_.out (by kernel_rfl)) (fun _ _ _ h => h) (Or.inl ⟨by rfl, ?_⟩) hHeld ?_ ?_
        rotate_left
        · rintro w' ⟨s0, s1, s2⟩
          go_simp
          with_reducible rfl
        rotate_left
        · simp only [Act.put, List.setIfInBounds_toArray, List.set_cons_zero, List.set_cons_succ, i64_w, i32_w]
          rfl
        refine pure_ (i := 5) (N := some 40) (v := ?_) (a' := ?_) #[true, true, true, true, true, true, false, false, false, false, false, false, false, false] rfl rfl (any_of HT_.out (by kernel_rfl)) (fun _ _ _ h => h) (Or.inl ⟨by rfl, ?_⟩) ?_ ?_
        rotate_left
        · intro w'
          go_simp
          with_reducible rfl
        rotate_left
        · simp only [Act.put, List.setIfInBounds_toArray, List.set_cons_zero, List.set_cons_succ, i64_w, i32_w]
          rfl
        refine pure_ (i := 6) (N := some 41) (v := ?_) (a' := ?_) #[true, true, true, true, true, true, true, false, false, false, false, false, false, false] rfl rfl (any_of HT_.out (by kernel_rfl)) (fun _ _ _ h => h) (Or.inl ⟨by rfl, ?_⟩) ?_ ?_
        rotate_left
        · intro w'
          go_simp
          with_reducible rfl
        rotate_left
        · simp only [Act.put, List.setIfInBounds_toArray, List.set_cons_zero, List.set_cons_succ, i64_w, i32_w]
          rfl
        refine take_ (i := 7) (N := some 42) (v := ?_) (a' := ?_) #[true, true, true, true, true, true, true, true, false, false, false, false, false, false] rfl rfl (take_ofW HT_.out HW_.out (by kernel_rfl)) (fun _ _ _ h => h) (Or.inl ⟨by rfl, ?_⟩) hHeld ?_ ?_
        rotate_left
        · rintro w' ⟨s0, s1, s2⟩
          go_simp
          with_reducible rfl
        rotate_left
        · simp only [Act.put, List.setIfInBounds_toArray, List.set_cons_zero, List.set_cons_succ, i64_w, i32_w]
          rfl
        refine one_ (i := 8) (N := some 43) #[true, true, true, true, true, true, true, true, true, false, false, false, false, false] rfl rfl (one_of HT_.out (by kernel_rfl)) (by decide) (fun K hK => ?_)
        refine goes_ Tryd.func36 (by kernel_rfl) rfl #[.agg #[.slice (some ⟨gt, 0, none⟩) tl cap], .int .i64 x] (by rfl) rfl rfl gmp ?_
        refine (impl_search.plc k _ tl _ t x f q2 _ HI0.out.1 (Kd.S_reads' HI0.out.2.2.1).2.2 (by rw [HI0.out.1]; exact (Kd.S_reads' HI0.out.2.2.1).2.1) HQq.out).mono ?_
        rintro e W1 ⟨rfl, hb⟩
        refine ⟨_, rfl, ?_⟩
        have HI1 := Aside0.mk (HI0.out.below hb)
        have HR1 := Aside0.mk (Kd.R_below HR0.out hb)
        have hS1 : W1.cell? ⟨gb, 0, none⟩ = some (.slice (some ⟨gt, 0, none⟩) tl cap) ∧ W1.cell? ⟨pb, 0, none⟩ = some (.slice (some ad) m c1) ∧ W1.cell? (ad.add e2) = some (.int .i64 x) := ⟨HI1.out.box, HI1.out.pl.1, (hb.cell (World.block_lt_of_cell? _ _ hS3.2.2)).trans hS3.2.2⟩
        clear hb
        refine hK.out _ _ hS1 (fun hHeld => ?_)
        clear hK K
        refine norm_ (a' := ?_) ?_ ?_
        rotate_left
        · show Act.put _ (some 43) _ = _
          simp only [Act.put, List.setIfInBounds_toArray, List.set_cons_zero, List.set_cons_succ, i64_w, i32_w]
          rfl
        refine pure_ (i := 9) (N := some 34) (v := ?_) (a' := ?_) #[true, true, true, true, true, true, true, true, true, true, false, false, false, false] rfl rfl (any_of HT_.out (by kernel_rfl)) (fun _ _ _ h => h) (Or.inl ⟨by rfl, ?_⟩) ?_ ?_
        rotate_left
        · intro w'
          go_simp
          with_reducible rfl
        rotate_left
        · simp only [Act.put, List.setIfInBounds_toArray, List.set_cons_zero, List.set_cons_succ, i64_w, i32_w]
          rfl
        refine pure_ (i := 10) (N := some 44) (v := ?_) (a' := ?_) #[true, true, true, true, true, true, true, true, true, true, true, false, false, false] rfl rfl (any_of HT_.out (by kernel_rfl)) (fun _ _ _ h => h) (Or.inl ⟨by rfl, ?_⟩) ?_ ?_
        rotate_left
        · intro w'
          go_simp
          with_reducible rfl
        rotate_left
        · simp only [Act.put, List.setIfInBounds_toArray, List.set_cons_zero, List.set_cons_succ, i64_w, i32_w]
          rfl
        refine pure_ (i := 11) (N := some 45) (v := ?_) (a' := ?_) #[true, true, true, true, true, true, true, true, true, true, true, true, false, false] rfl rfl (any_of HT_.out (by kernel_rfl)) (fun _ _ _ h => h) (Or.inl ⟨by rfl, ?_⟩) ?_ ?_
        rotate_left
        · intro w'
          go_simp
          with_reducible rfl
        rotate_left
        · simp only [Act.put, List.setIfInBounds_toArray, List.set_cons_zero, List.set_cons_succ, i64_w, i32_w]
          rfl
        refine pure_ (i := 12) (N := some 11) (v := ?_) (a' := ?_) #[true, true, true, true, true, true, true, true, true, true, true, true, true, false] rfl rfl (any_of HT_.out (by kernel_rfl)) (fun _ _ _ h => h) (Or.inl ⟨by rfl, ?_⟩) ?_ ?_
        rotate_left
        · intro w'
          go_simp
          with_reducible rfl
        rotate_left
        · simp only [Act.put, List.setIfInBounds_toArray, List.set_cons_zero, List.set_cons_succ, i64_w, i32_w]
          rfl
        refine pure_ (i := 13) (N := some 12) (v := ?_) (a' := ?_) #[true, true, true, true, true, true, true, true, true, true, true, true, true, true] rfl rfl (any_of HT_.out (by kernel_rfl)) (fun _ _ _ h => h) (Or.inl ⟨by rfl, ?_⟩) ?_ ?_
        rotate_left
        · intro w'
          go_simp
          with_reducible rfl
        rotate_left
        · simp only [Act.put, List.setIfInBounds_toArray, List.set_cons_zero, List.set_cons_succ, i64_w, i32_w]
          rfl
        have hx1 := hS1.2.2
        refine done_ (done_of HT_.out (by kernel_rfl)) ?_
        clear hHeld HT_ HW_ hS3 hS1 HI0 HR0
        obtain ⟨row, hrow⟩ : ∃ r : List Int, r = t.getD f [] := ⟨_, rfl⟩
        have hfl : f < tl := by have := HCd.out.1.2.1; have := HI1.out.1; omega
        have hft : f < t.length := by have := HI1.out.1; omega
        have hfb : decide (f < tl) = true := decide_eq_true hfl
        have hfi : (f : Int) < (tl : Int) := by omega
        obtain ⟨A3, c3, oki3, hcel3, hR3, _, _⟩ := impl_moveTop.elem HI1.out.2.2.1 f hft
        clear hR3
        rw [← hrow] at hcel3
        have HRow := Aside0.mk hrow
        have hrl : row.length ≤ 4 := (HCd.out.2.1.2 row (by rw [hrow, Go.Proofs.YtfcbdfedolnkfaaDoor.U.getD_at _ _ _ hft]; exact List.getElem_mem hft)).1
        have HFt := Aside0.mk hft
        clear hrow hft
        have hwm : IntKind.i64.wrap ((row.length : Int) - 1) = (row.length : Int) - 1 := (i64_w _).trans (Go.Proofs.YtfcbdfedolnkfaaDoor.U.wr (by omega) (by omega))
        have hbx1 := HI1.out.box
        have hpp1 := HI1.out.pl.1
        have hxx1 : W1.cell? (ad.add e2) = some (.int .i64 x) := hx1
        clear hx1
        by_cases hjm : q2 = (row.length : Int) - 1
        case neg =>
          have hjb : (q2 != (row.length : Int) - 1) = true := bne_iff_ne.mpr hjm
          have hp2 := HP2.out
          rw [if_neg (by rw [← HRow.out]; exact hjm)] at hp2
          injection hp2 with hp2
          have HA2 := Aside0.mk (show plAfter k ord ((d : Int) - 1) cont (t, e2, st) = some r by rw [hp2]; exact HA.out)
          have HEm := Aside0.mk (show e2 ≤ m by omega)
          clear hp2
          go_wp2
          go_meet
          case rel => exact ⟨t, e2, st, rfl, HEm, HA2, HI1, HR1⟩
        obtain ⟨mm, hmm⟩ : ∃ mm : Nat, row.length = mm + 1 := ⟨row.length - 1, by have := HCd.out.1.2.2; omega⟩
        obtain rfl : q2 = (mm : Int) := by omega
        have HMm := Aside0.mk hmm
        have hjb : ((mm : Int) != (row.length : Int) - 1) = false := by rw [hmm]; simp
        have HP3 := Aside0.mk (show plPop k ord dq (mvCut t f) (e2 + 1) (st ++ [⟨x, -1⟩]) = some p by have h2 := HP2.out; rw [if_pos (by rw [← HRow.out]; exact hjm)] at h2; exact h2)
        have HMi := Aside0.mk (show (row.length : Int) - 1 = (mm : Int) by omega)
        clear hmm hjm HP2
        go_upto_region 6 with (first | ((with_reducible refine gate_builtin (b := .append) (xs := #[.tmp 55, .tmp 64]) rfl ?_); at_builtin; refine Kd.R_append k47 (w0 := w0) w0.heap.size rfl (.tmp 55) (.tmp 64) 27 47 (.agg #[.int .i64 0, .int .i64 0]) 16 rfl Tryd.underlying27 info47 rfl (by decide) (by omega) u10 st (⟨x, -1⟩ : S47) [.int .i64 x, .int .i64 (-1)] (fun q => w.heap.size ≤ q) (fun _ => False) rfl (by first | (go_simp; done) | (go_simp; rfl)) ?aP (fun _ hk => hk.elim) ?aF ?aO ?aB ?aS ?aL ?_; (case aP => exact k47_mkM _ _ _ (⟨x, -1⟩ : S47)); (case aB => exact HI1.out.2.1.2.2); (case aF => exact fun q hq => Nat.le_trans HI1.out.2.2.2.2.1.1 hq); (case aO => exact HR1.out); (case aS => exact below_size HI1.out.2.1.2.2); (case aL => have := HCd.out.2.2; omega); intro v65 w5 ho hb hg hat; have HI5 := Aside0.mk (HI1.out.grown HR1.out hg hb); have HR5 := Aside0.mk ho; clear ho hb hg hat))
        have hbx5 := HI5.out.box
        have HI6 := Aside0.mk HI5.out.drew
        have HR6 := Aside0.mk (Kd.R_drew HR5.out)
        have hcd := impl_moveTop.elem HI6.out.2.2.1 f HFt.out
        obtain ⟨A4, c4, oki4, hcel4, hR4, _, hst4⟩ := hcd
        have hfz4 := (hst4 _ _ _ (World.grownBy.refl _ _) (Kd.R_mono hR4 (fun _ hk => Or.inl hk))).2.1
        have hmc : mm ≤ c4 := by
          have h1 := (Kd.R_reads' hR4).2.1
          have h2 := HMm.out
          rw [← HRow.out] at h1
          omega
        have hcut4 := impl_moveTop.cut HI6.out.2.2.1 (f : Int) (by omega) (by omega) (m := mm) (by rw [Int.toNat_natCast]; exact hcel4) (by rw [Int.toNat_natCast, ← HRow.out]; have := HMm.out; omega)
        rw [Int.toNat_natCast] at hcut4
        rw [← HRow.out] at hcel4 hcut4
        clear hR4 hst4
        have hmb : decide (mm ≤ c4) = true := decide_eq_true hmc
        have hmi : (mm : Int) ≤ (c4 : Int) := by omega
        have HCut := Aside0.mk (show Kd.S (Kd.slice 3 (Kd.int .i64)) 25 (w5.drew.setCell ⟨gt, f, none⟩ (.slice A4 mm c4)) w0.heap.size ok (.slice (some ⟨gt, 0, none⟩) tl cap) (mvCut t f) by
          have e1 : mvCut t f = t.set f (row.take mm) := by
            unfold mvCut
            rw [← HRow.out, show row.length - 1 = mm by have := HMm.out; omega]
          rw [e1]
          exact hcut4)
        have HFz := Aside0.mk hfz4
        have HCel := Aside0.mk hcel4
        have hcd3 : w5.cell? ⟨gt, f, none⟩ = some (.slice A4 row.length c4) := hcel4
        clear hcel4 hfz4 hcut4 hbx1 hpp1 hxx1 hcel3 hwm hjb
        go_still_tail 11, (by kernel_rfl)
        clear hcd3 hbx5
        change wpList _ _ _ _ _ w5.drew
        generalize w5.drew = w6 at HI6 HR6 HCut HCel HFz ⊢
        have hcel4 := HCel.out
        have hfz4 := HFz.out
        have HI7 := Aside0.mk (HI6.out.cut (tab2 := mvCut t f) (by unfold mvCut; rw [List.length_set]) HCut.out)
        have HR7 := Aside0.mk (show Kd.R k47 47 (w6.setCell ⟨gt, f, none⟩ (.slice A4 mm c4)) w0.heap.size (fun q => w.heap.size ≤ q) v65 (st ++ [⟨x, -1⟩]) from by obtain ⟨_, _, cs, hg⟩ := HI6.out.gt; exact Kd.R_set HR6.out hg (by decide) f _)
        clear HI5 HR5 HI1 HR1
        go_wp2
        go_roundg dq
        case rel => exact ⟨mvCut t f, e2 + 1, st ++ [⟨x, -1⟩], by go_num, ⟨by have := HQ.out; omega⟩, HP3, HI7, HR7⟩
        case measure => omega
  case rest =>
    clear HP HI2 HR HA HE
    obtain ⟨t, e2, st, rfl, HEm, HA, HI, HR⟩ := hcut
    have hpl := HI.out.pl.1
    have ha := HA.out
    unfold plAfter at ha
    dsimp only at ha
    by_cases hem : e2 = m
    · rw [if_pos (by rw [HM.out]; exact hem)] at ha
      injection ha with ha
      subst ha
      have heb : ((e2 : Int) == (m : Int)) = true := beq_iff_eq.mpr (by omega)
      have hed : decide ((e2 : Int) = (m : Int)) = true := decide_eq_true (by omega)
      have hen : decide (e2 = m) = true := decide_eq_true hem
      clear hem
      go_wp2
      go_ret2
      exact ⟨_, rfl, HR.out, HI.out.2.1.mono (by omega), HI.out.2.2.2.2.1.1, HI.out.2.2.2.2.2⟩
    · rw [if_neg (by rw [HM.out]; exact hem)] at ha
      obtain ⟨b, hb, ha2⟩ := Option.bind_eq_some_iff.1 ha
      have hlt : e2 < m := by have := HEm.out; omega
      have heb : ((e2 : Int) == (m : Int)) = false := beq_eq_false_iff_ne.mpr (by omega)
      have hed : decide ((e2 : Int) = (m : Int)) = false := decide_eq_false (by omega)
      have hen : decide (e2 = m) = false := decide_eq_false hem
      have HBd := Aside0.mk hb
      have HA2 := Aside0.mk ha2
      clear ha hb ha2 HA
      obtain ⟨ad, eA, hx0⟩ := Kd.at_int (HI.out.ord HC.out) (e2 : Int) (by omega) (by have := HM.out; omega)
      subst eA
      rw [Int.toNat_natCast] at hx0
      have hle2 : e2 ≤ m := Nat.le_of_lt hlt
      have hce : ¬ c1 = e2 := by have := Hc.out; omega
      go_upto_region 10 with (fail)
      have HI0 := Aside0.mk HI.out.drew
      have HR0 := Aside0.mk (Kd.R_drew HR.out)
      have hS3 : wc.drew.cell? ⟨gb, 0, none⟩ = some (.slice (some ⟨gt, 0, none⟩) tl cap) ∧ wc.drew.cell? ⟨pb, 0, none⟩ = some (.slice (some ad) m c1) := ⟨HI0.out.box, hpl⟩
      clear HI HR hpl hx0
      refine start_ (n := 10) (S := fun w' => w'.cell? ⟨gb, 0, none⟩ = some (.slice (some ⟨gt, 0, none⟩) tl cap) ∧ w'.cell? ⟨pb, 0, none⟩ = some (.slice (some ad) m c1)) (ds := []) #[false, false, false, false, false, false, false, false, false, false] (by kernel_rfl) rfl rfl hS3 (fun hHeld => ?_)
      refine with_tabW impl_search.tab10 impl_search.bits10 (fun HT_ HW_ => ?_)
      generalize wc.drew = W0 at HI0 HR0 hS3 hHeld ⊢
      refine pure_ (i := 1) (N := some 88) (v := ?_) (a' := ?_) #[false, true, false, false, false, false, false, false, false, false] rfl rfl (any_of HT_.out (by kernel_rfl)) (fun _ _ _ h => h) (Or.inl ⟨by rfl, ?_⟩) ?_ ?_
      rotate_left
      · intro w'
        go_simp
        with_reducible rfl
      rotate_left
      · simp only [Act.put, List.setIfInBounds_toArray, List.set_cons_zero, List.set_cons_succ, i64_w, i32_w]
        rfl
      refine pure_ (i := 2) (N := some 89) (v := ?_) (a' := ?_) #[false, true, true, false, false, false, false, false, false, false] rfl rfl (any_of HT_.out (by kernel_rfl)) (fun _ _ _ h => h) (Or.inl ⟨by rfl, ?_⟩) ?_ ?_
      rotate_left
      · intro w'
        go_simp
        with_reducible rfl
      rotate_left
      · simp only [Act.put, List.setIfInBounds_toArray, List.set_cons_zero, List.set_cons_succ, i64_w, i32_w]
        rfl
      refine pure_ (i := 3) (N := some 90) (v := ?_) (a' := ?_) #[false, true, true, true, false, false, false, false, false, false] rfl rfl (any_of HT_.out (by kernel_rfl)) (fun _ _ _ h => h) (Or.inl ⟨by rfl, ?_⟩) ?_ ?_
      rotate_left
      · intro w'
        go_simp
        with_reducible rfl
      rotate_left
      · simp only [Act.put, List.setIfInBounds_toArray, List.set_cons_zero, List.set_cons_succ, i64_w, i32_w]
        rfl
      refine take_ (i := 0) (N := some 87) (v := ?_) (a' := ?_) #[true, true, true, true, false, false, false, false, false, false] rfl rfl (take_ofW HT_.out HW_.out (by kernel_rfl)) (fun _ _ _ h => h) (Or.inl ⟨by rfl, ?_⟩) hHeld ?_ ?_
      rotate_left
      · rintro w' ⟨s0, s1⟩
        go_simp
        with_reducible rfl
      rotate_left
      · simp only [Act.put, List.setIfInBounds_toArray, List.set_cons_zero, List.set_cons_succ, i64_w, i32_w]
        rfl
      refine take_ (i := 4) (N := some 91) (v := ?_) (a' := ?_) #[true, true, true, true, true, false, false, false, false, false] rfl rfl (take_ofW HT_.out HW_.out (by kernel_rfl)) (fun _ _ _ h => h) (Or.inl ⟨by rfl, ?_⟩) hHeld ?_ ?_
      rotate_left
      · rintro w' ⟨s0, s1⟩
        go_simp
        with_reducible rfl
      rotate_left
      · simp only [Act.put, List.setIfInBounds_toArray, List.set_cons_zero, List.set_cons_succ, i64_w, i32_w]
        rfl
      refine pure_ (i := 5) (N := some 92) (v := ?_) (a' := ?_) #[true, true, true, true, true, true, false, false, false, false] rfl rfl (any_of HT_.out (by kernel_rfl)) (fun _ _ _ h => h) (Or.inl ⟨by rfl, ?_⟩) ?_ ?_
      rotate_left
      · intro w'
        go_simp
        with_reducible rfl
      rotate_left
      · simp only [Act.put, List.setIfInBounds_toArray, List.set_cons_zero, List.set_cons_succ, i64_w, i32_w]
        rfl
      refine pure_ (i := 6) (N := some 93) (v := ?_) (a' := ?_) #[true, true, true, true, true, true, true, false, false, false] rfl rfl (any_of HT_.out (by kernel_rfl)) (fun _ _ _ h => h) (Or.inl ⟨by rfl, ?_⟩) ?_ ?_
      rotate_left
      · intro w'
        go_simp
        with_reducible rfl
      rotate_left
      · simp only [Act.put, List.setIfInBounds_toArray, List.set_cons_zero, List.set_cons_succ, i64_w, i32_w]
        rfl
      refine pure_ (i := 8) (N := some 95) (v := ?_) (a' := ?_) #[true, true, true, true, true, true, true, false, true, false] rfl rfl (any_of HT_.out (by kernel_rfl)) (fun _ _ _ h => h) (Or.inl ⟨by rfl, ?_⟩) ?_ ?_
      rotate_left
      · intro w'
        go_simp
        with_reducible rfl
      rotate_left
      · simp only [Act.put, List.setIfInBounds_toArray, List.set_cons_zero, List.set_cons_succ, i64_w, i32_w]
        rfl
      refine one_ (i := 7) (N := some 94) #[true, true, true, true, true, true, true, true, true, false] rfl rfl (one_of HT_.out (by kernel_rfl)) (by decide) (fun K hK => ?_)
      refine goes_ Tryd.func38 (by kernel_rfl) rfl #[.agg #[.slice (some ⟨gt, 0, none⟩) tl cap], .slice (some (ad.add e2)) (m - e2) (c1 - e2)] (by rfl) rfl rfl gmp ?_
      refine (impl_search.bnd k _ tl _ t ad m c1 e2 ord b _ HI0.out.1 (Kd.S_reads' HI0.out.2.2.1).2.2 (by rw [HI0.out.1]; exact (Kd.S_reads' HI0.out.2.2.1).2.1) HM.out hlt Hc.out (HI0.out.ord HC.out) HBd.out).mono ?_
      rintro e W1 ⟨rfl, hb⟩
      refine ⟨_, rfl, ?_⟩
      have HI1 := Aside0.mk (HI0.out.below hb)
      have HR1 := Aside0.mk (Kd.R_below HR0.out hb)
      have hS1 : W1.cell? ⟨gb, 0, none⟩ = some (.slice (some ⟨gt, 0, none⟩) tl cap) ∧ W1.cell? ⟨pb, 0, none⟩ = some (.slice (some ad) m c1) := ⟨HI1.out.box, HI1.out.pl.1⟩
      clear hb
      refine hK.out _ _ hS1 (fun hHeld => ?_)
      clear hK K
      refine norm_ (a' := ?_) ?_ ?_
      rotate_left
      · show Act.put _ (some 94) _ = _
        simp only [Act.put, List.setIfInBounds_toArray, List.set_cons_zero, List.set_cons_succ, i64_w, i32_w]
        rfl
      refine pure_ (i := 9) (N := some 96) (v := ?_) (a' := ?_) #[true, true, true, true, true, true, true, true, true, true] rfl rfl (any_of HT_.out (by kernel_rfl)) (fun _ _ _ h => h) (Or.inl ⟨by rfl, ?_⟩) ?_ ?_
      rotate_left
      · intro w'
        go_simp
        with_reducible rfl
      rotate_left
      · simp only [Act.put, List.setIfInBounds_toArray, List.set_cons_zero, List.set_cons_succ, i64_w, i32_w]
        rfl
      refine done_ (done_of HT_.out (by kernel_rfl)) ?_
      clear hHeld HT_ HW_ hS3 hS1 HI0 HR0
      have ha2 := HA2.out
      by_cases hbd : (d : Int) - 1 < b
      · rw [if_pos hbd] at ha2
        injection ha2 with ha2
        subst ha2
        have hbb : decide ((d : Int) - 1 < b) = true := decide_eq_true hbd
        have hbc : decide ((d : Int) ≤ b) = true := decide_eq_true (by omega)
        have hbd2 : (d : Int) ≤ b := by omega
        clear hbd
        go_wp2
        go_ret2
        exact ⟨_, rfl, Kd.R_nil _ _ _ _ _, HI1.out.2.1.mono (by omega), HI1.out.2.2.2.2.1.1, HI1.out.2.2.2.2.2⟩
      rw [if_neg hbd] at ha2
      obtain ⟨d', rfl, hcd, r2, hr2, hr⟩ := HCont.out _ _ _ _ ha2
      have hbb : decide (((d' + 1 : Nat) : Int) - 1 < b) = false := decide_eq_false hbd
      have hdd : ((d' + 1 : Nat) : Int) - 1 = (d' : Int) := by omega
      rw [hdd] at hbb ⊢
      clear hdd
      clear ha2 HA2 HCont
      subst hr
      have HNm := Aside0.mk hcd.1.1
      have HSt := Aside0.mk hcd.1.2
      have hd1 := hcd.2
      have HR2 := Aside0.mk hr2
      have HRec2 := Aside0.mk (HRec.out d' rfl)
      have he1 : e2 < 100 := by omega
      have hbx1 := HI1.out.box
      have hbl : b ≤ (d' : Int) := by omega
      have hbn : ¬ ((d' : Int) < b) := by omega
      have hz1 : ¬ (9223372036854775807 < (plDec (e2 : Int)).size + 1) := by have := plDec_size (e2 : Int); omega
      have hz2 : ¬ (9223372036854775807 < (plDec (e2 : Int)).size + 1 + (plDec (d' : Int)).size) := by have := plDec_size (e2 : Int); have := plDec_size (d' : Int); omega
      clear hcd hr2 HRec hem heb hed hen HBd hbd
      go_wp2_with (first | (go_at_call 49; (first | (with_reducible refine (strconv_Itoa_49.calls (e2 : Int) _ _ (plDec_ok ⟨by omega, by omega⟩)).mono ?_) | (with_reducible refine (strconv_Itoa_49.calls (d' : Int) _ _ (plDec_ok ⟨by omega, by omega⟩)).mono ?_)); rintro e w' ⟨rfl, hd⟩; have n0_ := Aside0.mk (HI1.out.below hd.below); have n1_ := Aside0.mk (Kd.R_below HR1.out hd.below); clear HI1 HR1 hd hbx1; have HI1 := n0_; have HR1 := n1_; clear n0_ n1_; have hbx1 := HI1.out.box))
      clear hz1 hz2 hbb hbl hbn
      have htl6 : tl ≤ 6 := by have := HNm.out.1; have := HI1.out.1; omega
      have HKy0 := Aside0.mk (show (plDec (e2 : Int) ++ ⟨#[32]⟩ ++ plDec (d' : Int)).data.toList ++ Go.Proofs.YtfcbdfedolnkfaaDoor.UK.tabL (t.drop 0) = Go.Proofs.YtfcbdfedolnkfaaDoor.UK.keyL t e2 d' by
        rw [plApp, plApp, List.drop_zero]
        show Go.Proofs.YtfcbdfedolnkfaaDoor.UK.decL e2 ++ [32] ++ Go.Proofs.YtfcbdfedolnkfaaDoor.UK.decL d' ++ Go.Proofs.YtfcbdfedolnkfaaDoor.UK.tabL t = _
        unfold Go.Proofs.YtfcbdfedolnkfaaDoor.UK.keyL
        simp)
      go_loopw [13, 106] (fun v13 v106 wr => ∃ (i : Nat) (s : ByteArray), v106 = .int .i64 (i : Int) ∧ v13 = .string s ∧ Aside0 (i ≤ tl) ∧ Aside0 (s.data.toList ++ Go.Proofs.YtfcbdfedolnkfaaDoor.UK.tabL (t.drop i) = Go.Proofs.YtfcbdfedolnkfaaDoor.UK.keyL t e2 d') ∧ Aside0 (PlI w0 pb mb (some ad) m c1 ord n gt cap tl gb ok w wr t) ∧ Aside0 (Kd.R k47 47 wr w0.heap.size (fun q => w.heap.size ≤ q) u10 st)) (fun v13 v106 wr => tl - (intOf v106).toNat)
      case atStart => exact ⟨0, _, rfl, rfl, ⟨Nat.zero_le _⟩, HKy0, HI1, HR1⟩
      case round =>
        clear HI1 HR1 HKy0 hbx1
        obtain ⟨i, s, rfl, rfl, HLe, HKy, HI, HR⟩ := hrel
        have hsz := plKeySz HNm.out HKy.out
        by_cases hit : i < tl
        · have hitb : decide (i < tl) = true := decide_eq_true hit
          have hiti : (i : Int) < (tl : Int) := by omega
          have hil : i < t.length := by have := HI.out.1; omega
          obtain ⟨A3, c3, oki3, hcel3, hR3, _, _⟩ := impl_moveTop.elem HI.out.2.2.1 i hil
          have HKy2 := Aside0.mk (show (s ++ ⟨#[59]⟩).data.toList ++ (Go.Proofs.YtfcbdfedolnkfaaDoor.UK.rowL ((t.getD i []).drop 0) ++ Go.Proofs.YtfcbdfedolnkfaaDoor.UK.tabL (t.drop (i + 1))) = Go.Proofs.YtfcbdfedolnkfaaDoor.UK.keyL t e2 d' by
            rw [← HKy.out, plApp, show t.drop i = t.getD i [] :: t.drop (i + 1) by rw [List.drop_eq_getElem_cons hil, Go.Proofs.YtfcbdfedolnkfaaDoor.U.getD_at _ _ _ hil], List.drop_zero, Go.Proofs.YtfcbdfedolnkfaaDoor.UK.tabL]
            show s.data.toList ++ [59] ++ _ = _
            simp)
          have hrw := HNm.out.2 (t.getD i []) (by rw [Go.Proofs.YtfcbdfedolnkfaaDoor.U.getD_at _ _ _ hil]; exact List.getElem_mem hil)
          have hCr := (Kd.R_reads' hR3).2.2
          clear hR3 hil
          generalize t.getD i [] = row at *
          have HCr := Aside0.mk hCr
          have hrl : row.length ≤ 4 := hrw.1
          have HRw := Aside0.mk hrw.2
          have hz1 : ¬ (9223372036854775807 < s.size + 1) := by omega
          clear hCr hrw
          go_wp2
          clear hcel3 hz1 hsz
          obtain ⟨wo, rfl⟩ : ∃ wo : World, wo = wr := ⟨_, rfl⟩
          go_loopw [13, 114] (fun v13 v114 wr => ∃ (j : Nat) (s : ByteArray), v114 = .int .i64 (j : Int) ∧ v13 = .string s ∧ Aside0 (j ≤ row.length) ∧ Aside0 (s.data.toList ++ (Go.Proofs.YtfcbdfedolnkfaaDoor.UK.rowL (row.drop j) ++ Go.Proofs.YtfcbdfedolnkfaaDoor.UK.tabL (t.drop (i + 1))) = Go.Proofs.YtfcbdfedolnkfaaDoor.UK.keyL t e2 d') ∧ Aside0 (PlI w0 pb mb (some ad) m c1 ord n gt cap tl gb ok w wr t) ∧ Aside0 (Kd.R k47 47 wr w0.heap.size (fun q => w.heap.size ≤ q) u10 st) ∧ Aside0 (Kd.C (Kd.int .i64) wr A3 row.length row)) (fun v13 v114 wr => row.length - (intOf v114).toNat)
          case atStart => exact ⟨0, _, rfl, rfl, ⟨Nat.zero_le _⟩, HKy2, HI, HR, HCr⟩
          case round =>
            clear HI HR HKy HKy2 HCr
            obtain ⟨j, s, rfl, rfl, HLj, HKy, HI, HR, HCr⟩ := hrel
            have hsz := plKeySz HNm.out HKy.out
            by_cases hjt : j < row.length
            · have hjtb : decide (j < row.length) = true := decide_eq_true hjt
              obtain ⟨ad2, eA2, hx2⟩ := Kd.at_int HCr.out (j : Int) (by omega) (by omega)
              subst eA2
              rw [Int.toNat_natCast] at hx2
              have hxr := HRw.out (rd row (j : Int)) (by unfold rd; rw [Int.toNat_natCast, Go.Proofs.YtfcbdfedolnkfaaDoor.U.getD_at _ _ _ hjt]; exact List.getElem_mem hjt)
              have HKy2 := Aside0.mk (show (s ++ (plDec (rd row (j : Int)) ++ ⟨#[32]⟩)).data.toList ++ (Go.Proofs.YtfcbdfedolnkfaaDoor.UK.rowL (row.drop (j + 1)) ++ Go.Proofs.YtfcbdfedolnkfaaDoor.UK.tabL (t.drop (i + 1))) = Go.Proofs.YtfcbdfedolnkfaaDoor.UK.keyL t e2 d' by
                rw [← HKy.out, plApp, plApp, show row.drop j = rd row (j : Int) :: row.drop (j + 1) by unfold rd; rw [Int.toNat_natCast, List.drop_eq_getElem_cons hjt, Go.Proofs.YtfcbdfedolnkfaaDoor.U.getD_at _ _ _ hjt], Go.Proofs.YtfcbdfedolnkfaaDoor.UK.rowL]
                show s.data.toList ++ (Go.Proofs.YtfcbdfedolnkfaaDoor.UK.decL _ ++ [32]) ++ _ = _
                simp)
              generalize rd row (j : Int) = x at *
              have hz1 : ¬ (9223372036854775807 < (plDec x).size + 1) := by have := plDec_size x; omega
              have hz2 : ¬ (9223372036854775807 < s.size + ((plDec x).size + 1)) := by have := plDec_size x; omega
              go_wp2_with (first | (go_at_call 49; (refine (strconv_Itoa_49.calls x _ _ (plDec_ok hxr)).mono ?_); rintro e w' ⟨rfl, hd⟩; have n0_ := Aside0.mk (HI.out.below hd.below); have n1_ := Aside0.mk (Kd.R_below HR.out hd.below); have n2_ := Aside0.mk (Kd.C_below HCr.out hd.below); clear HI HR HCr hd hx2; have HI := n0_; have HR := n1_; have HCr := n2_; clear n0_ n1_ n2_))
              go_roundw
              case rel => exact ⟨j + 1, _, by go_num, rfl, ⟨hjt⟩, HKy2, HI, HR, HCr⟩
              case measure => simp [intOf]; omega
            · have hjtb : decide (j < row.length) = false := decide_eq_false hjt
              have HKy2 := Aside0.mk (show s.data.toList ++ Go.Proofs.YtfcbdfedolnkfaaDoor.UK.tabL (t.drop (i + 1)) = Go.Proofs.YtfcbdfedolnkfaaDoor.UK.keyL t e2 d' by
                have h1 := HKy.out
                rw [List.drop_of_length_le (by omega), Go.Proofs.YtfcbdfedolnkfaaDoor.UK.rowL, List.nil_append] at h1
                exact h1)
              go_wp2
              go_roundw
              case rel => exact ⟨i + 1, s, by go_num, rfl, ⟨hit⟩, HKy2, HI, HR⟩
              case measure => simp [intOf]; omega
        · have hitb : decide (i < tl) = false := decide_eq_false hit
          have HKy2 := Aside0.mk (show s.data.toList = Go.Proofs.YtfcbdfedolnkfaaDoor.UK.keyL t e2 d' by
            have h1 := HKy.out
            rw [List.drop_of_length_le (by have := HI.out.1; omega), Go.Proofs.YtfcbdfedolnkfaaDoor.UK.tabL, List.append_nil] at h1
            exact h1)
          have hmp := HI.out.pl.2
          obtain ⟨ss, hown, hsound⟩ := HI.out.2.1.2.1
          have HOwn := Aside0.mk hown
          have HSd := Aside0.mk hsound
          have HKz := Aside0.mk (show s.size ≤ maxLen by unfold maxLen; omega)
          clear hown hsound HKy hsz
          cases hcn : ss.contains s.data.toList
          case true =>
            have e := plSound_hit HSd.out HNm.out he1 hd1 (by rw [← HKy2.out]; simpa using hcn) HR2.out
            subst e
            have HCn := Aside0.mk hcn
            clear hcn
            go_wp2_with (first | (at_lookup; refine Go.Proofs.YtfcbdfedolnkfaaDoor.GM.wpList_lookup_own_bool _ rfl _ _ 57 rfl 9 4 impl_search.keyed Tryd.underlying57 Tryd.underlying4 (impl_search.zeroB _) mb n (plSet ss) rfl HOwn.out _ _ rfl (Go.WideMaps.keyOf_string_mk Tryd.underlying9 HKz.out) true ((plSet_at _ ss).trans (by rw [HCn.out])) ?_))
            go_ret2
            exact ⟨_, rfl, Kd.R_nil _ _ _ _ _, HI.out.2.1.mono (by omega), HI.out.2.2.2.2.1.1, HI.out.2.2.2.2.2⟩
          case false =>
          have HCn := Aside0.mk hcn
          clear hcn
          have hr2 := HR2.out
          unfold plCont at hr2
          obtain ⟨⟨q1, q2⟩, hq, hr2⟩ := Option.bind_eq_some_iff.1 hr2
          split at hr2
          case isFalse => cases hr2
          case isTrue hcd =>
          obtain ⟨f, rfl⟩ := Int.eq_ofNat_of_zero_le hcd.1
          dsimp only at hcd hq hr2
          rw [Int.toNat_natCast] at hr2
          have HCd := Aside0.mk hcd
          have HLp := Aside0.mk hr2
          obtain ⟨ad3, eA3, hx0⟩ := Kd.at_int (HI.out.ord HC.out) (e2 : Int) (by omega) (by have := HM.out; omega)
          injection eA3 with eA3
          subst eA3
          rw [Int.toNat_natCast] at hx0
          generalize rd ord (e2 : Int) = x at hx0 hq
          have HQq := Aside0.mk hq
          have HX0 := Aside0.mk hx0
          clear hcd hq hr2 hx0
          go_upto_region 25 with (first | (at_lookup; refine Go.Proofs.YtfcbdfedolnkfaaDoor.GM.wpList_lookup_own_bool _ rfl _ _ 57 rfl 9 4 impl_search.keyed Tryd.underlying57 Tryd.underlying4 (impl_search.zeroB _) mb n (plSet ss) rfl HOwn.out _ _ rfl (Go.WideMaps.keyOf_string_mk Tryd.underlying9 HKz.out) false ((plSet_at _ ss).trans (by rw [HCn.out])) ?_))
          have HI0 := Aside0.mk HI.out.drew
          have HR0 := Aside0.mk (Kd.R_drew HR.out)
          have hS3 : wr.drew.cell? ⟨gb, 0, none⟩ = some (.slice (some ⟨gt, 0, none⟩) tl cap) ∧ wr.drew.cell? ⟨pb, 0, none⟩ = some (.slice (some ad) m c1) ∧ wr.drew.cell? (ad.add e2) = some (.int .i64 x) := ⟨HI0.out.box, HI0.out.pl.1, HX0.out⟩
          clear HI HR HOwn HSd hmp
          refine start_ (n := 14) (S := fun w' => w'.cell? ⟨gb, 0, none⟩ = some (.slice (some ⟨gt, 0, none⟩) tl cap) ∧ w'.cell? ⟨pb, 0, none⟩ = some (.slice (some ad) m c1) ∧ w'.cell? (ad.add e2) = some (.int .i64 x)) (ds := []) #[false, false, false, false, false, false, false, false, false, false, false, false, false, false] (by kernel_rfl) rfl rfl hS3 (fun hHeld => ?_)
          refine with_tabW impl_search.tab25 impl_search.bits25 (fun HT_ HW_ => ?_)
          generalize wr.drew = W0 at HI0 HR0 hS3 hHeld ⊢
          refine pure_ (i := 1) (N := some 133) (v := ?_) (a' := ?_) #[false, true, false, false, false, false, false, false, false, false, false, false, false, false] rfl rfl (any_of HT_.out (by kernel_rfl)) (fun _ _ _ h => h) (Or.inl ⟨by rfl, ?_⟩) ?_ ?_
          rotate_left
          · intro w'
            go_simp
            with_reducible rfl
          rotate_left
          · simp only [Act.put, List.setIfInBounds_toArray, List.set_cons_zero, List.set_cons_succ, i64_w, i32_w]
            rfl
          refine pure_ (i := 2) (N := some 134) (v := ?_) (a' := ?_) #[false, true, true, false, false, false, false, false, false, false, false, false, false, false] rfl rfl (any_of HT_.out (by kernel_rfl)) (fun _ _ _ h => h) (Or.inl ⟨by rfl, ?_⟩) ?_ ?_
          rotate_left
          · intro w'
            go_simp
            with_reducible rfl
          rotate_left
          · simp only [Act.put, List.setIfInBounds_toArray, List.set_cons_zero, List.set_cons_succ, i64_w, i32_w]
            rfl
          refine pure_ (i := 3) (N := some 135) (v := ?_) (a' := ?_) #[false, true, true, true, false, false, false, false, false, false, false, false, false, false] rfl rfl (any_of HT_.out (by kernel_rfl)) (fun _ _ _ h => h) (Or.inl ⟨by rfl, ?_⟩) ?_ ?_
          rotate_left
          · intro w'
            go_simp
            with_reducible rfl
          rotate_left
          · simp only [Act.put, List.setIfInBounds_toArray, List.set_cons_zero, List.set_cons_succ, i64_w, i32_w]
            rfl
          refine take_ (i := 0) (N := some 132) (v := ?_) (a' := ?_) #[true, true, true, true, false, false, false, false, false, false, false, false, false, false] rfl rfl (take_ofW HT_.out HW_.out (by kernel_rfl)) (fun _ _ _ h => h) (Or.inl ⟨by rfl, ?_⟩) hHeld ?_ ?_
          rotate_left
          · rintro w' ⟨s0, s1, s2⟩
            go_simp
            with_reducible rfl
          rotate_left
          · simp only [Act.put, List.setIfInBounds_toArray, List.set_cons_zero, List.set_cons_succ, i64_w, i32_w]
            rfl
          refine take_ (i := 4) (N := some 136) (v := ?_) (a' := ?_) #[true, true, true, true, true, false, false, false, false, false, false, false, false, false] rfl rfl (take_ofW HT_.out HW_.out (by kernel_rfl)) (fun _ _ _ h => h) (Or.inl ⟨by rfl, ?_⟩) hHeld ?_ ?_
          rotate_left
          · rintro w' ⟨s0, s1, s2⟩
            go_simp
            with_reducible rfl
          rotate_left
          · simp only [Act.put, List.setIfInBounds_toArray, List.set_cons_zero, List.set_cons_succ, i64_w, i32_w]
            rfl
          refine pure_ (i := 5) (N := some 137) (v := ?_) (a' := ?_) #[true, true, true, true, true, true, false, false, false, false, false, false, false, false] rfl rfl (any_of HT_.out (by kernel_rfl)) (fun _ _ _ h => h) (Or.inl ⟨by rfl, ?_⟩) ?_ ?_
          rotate_left
          · intro w'
            go_simp
            with_reducible rfl
          rotate_left
          · simp only [Act.put, List.setIfInBounds_toArray, List.set_cons_zero, List.set_cons_succ, i64_w, i32_w]
            rfl
          refine pure_ (i := 6) (N := some 138) (v := ?_) (a' := ?_) #[true, true, true, true, true, true, true, false, false, false, false, false, false, false] rfl rfl (any_of HT_.out (by kernel_rfl)) (fun _ _ _ h => h) (Or.inl ⟨by rfl, ?_⟩) ?_ ?_
          rotate_left
          · intro w'
            go_simp
            with_reducible rfl
          rotate_left
          · simp only [Act.put, List.setIfInBounds_toArray, List.set_cons_zero, List.set_cons_succ, i64_w, i32_w]
            rfl
          refine take_ (i := 7) (N := some 139) (v := ?_) (a' := ?_) #[true, true, true, true, true, true, true, true, false, false, false, false, false, false] rfl rfl (take_ofW HT_.out HW_.out (by kernel_rfl)) (fun _ _ _ h => h) (Or.inl ⟨by rfl, ?_⟩) hHeld ?_ ?_
          rotate_left
          · rintro w' ⟨s0, s1, s2⟩
            go_simp
            with_reducible rfl
          rotate_left
          · simp only [Act.put, List.setIfInBounds_toArray, List.set_cons_zero, List.set_cons_succ, i64_w, i32_w]
            rfl
          refine one_ (i := 8) (N := some 140) #[true, true, true, true, true, true, true, true, true, false, false, false, false, false] rfl rfl (one_of HT_.out (by kernel_rfl)) (by decide) (fun K hK => ?_)
          refine goes_ Tryd.func36 (by kernel_rfl) rfl #[.agg #[.slice (some ⟨gt, 0, none⟩) tl cap], .int .i64 x] (by rfl) rfl rfl gmp ?_
          refine (impl_search.plc k _ tl _ t x f q2 _ HI0.out.1 (Kd.S_reads' HI0.out.2.2.1).2.2 (by rw [HI0.out.1]; exact (Kd.S_reads' HI0.out.2.2.1).2.1) HQq.out).mono ?_
          rintro e W1 ⟨rfl, hb⟩
          refine ⟨_, rfl, ?_⟩
          have HI1 := Aside0.mk (HI0.out.below hb)
          have HR1 := Aside0.mk (Kd.R_below HR0.out hb)
          have hS1 : W1.cell? ⟨gb, 0, none⟩ = some (.slice (some ⟨gt, 0, none⟩) tl cap) ∧ W1.cell? ⟨pb, 0, none⟩ = some (.slice (some ad) m c1) ∧ W1.cell? (ad.add e2) = some (.int .i64 x) := ⟨HI1.out.box, HI1.out.pl.1, (hb.cell (World.block_lt_of_cell? _ _ hS3.2.2)).trans hS3.2.2⟩
          clear hb
          refine hK.out _ _ hS1 (fun hHeld => ?_)
          clear hK K
          refine norm_ (a' := ?_) ?_ ?_
          rotate_left
          · show Act.put _ (some 140) _ = _
            simp only [Act.put, List.setIfInBounds_toArray, List.set_cons_zero, List.set_cons_succ, i64_w, i32_w]
            rfl
          refine pure_ (i := 9) (N := some 131) (v := ?_) (a' := ?_) #[true, true, true, true, true, true, true, true, true, true, false, false, false, false] rfl rfl (any_of HT_.out (by kernel_rfl)) (fun _ _ _ h => h) (Or.inl ⟨by rfl, ?_⟩) ?_ ?_
          rotate_left
          · intro w'
            go_simp
            with_reducible rfl
          rotate_left
          · simp only [Act.put, List.setIfInBounds_toArray, List.set_cons_zero, List.set_cons_succ, i64_w, i32_w]
            rfl
          refine pure_ (i := 10) (N := some 141) (v := ?_) (a' := ?_) #[true, true, true, true, true, true, true, true, true, true, true, false, false, false] rfl rfl (any_of HT_.out (by kernel_rfl)) (fun _ _ _ h => h) (Or.inl ⟨by rfl, ?_⟩) ?_ ?_
          rotate_left
          · intro w'
            go_simp
            with_reducible rfl
          rotate_left
          · simp only [Act.put, List.setIfInBounds_toArray, List.set_cons_zero, List.set_cons_succ, i64_w, i32_w]
            rfl
          refine pure_ (i := 11) (N := some 142) (v := ?_) (a' := ?_) #[true, true, true, true, true, true, true, true, true, true, true, true, false, false] rfl rfl (any_of HT_.out (by kernel_rfl)) (fun _ _ _ h => h) (Or.inl ⟨by rfl, ?_⟩) ?_ ?_
          rotate_left
          · intro w'
            go_simp
            with_reducible rfl
          rotate_left
          · simp only [Act.put, List.setIfInBounds_toArray, List.set_cons_zero, List.set_cons_succ, i64_w, i32_w]
            rfl
          refine pure_ (i := 12) (N := some 18) (v := ?_) (a' := ?_) #[true, true, true, true, true, true, true, true, true, true, true, true, true, false] rfl rfl (any_of HT_.out (by kernel_rfl)) (fun _ _ _ h => h) (Or.inl ⟨by rfl, ?_⟩) ?_ ?_
          rotate_left
          · intro w'
            go_simp
            with_reducible rfl
          rotate_left
          · simp only [Act.put, List.setIfInBounds_toArray, List.set_cons_zero, List.set_cons_succ, i64_w, i32_w]
            rfl
          refine pure_ (i := 13) (N := some 19) (v := ?_) (a' := ?_) #[true, true, true, true, true, true, true, true, true, true, true, true, true, true] rfl rfl (any_of HT_.out (by kernel_rfl)) (fun _ _ _ h => h) (Or.inl ⟨by rfl, ?_⟩) ?_ ?_
          rotate_left
          · intro w'
            go_simp
            with_reducible rfl
          rotate_left
          · simp only [Act.put, List.setIfInBounds_toArray, List.set_cons_zero, List.set_cons_succ, i64_w, i32_w]
            rfl
          have hx1 := hS1.2.2
          refine done_ (done_of HT_.out (by kernel_rfl)) ?_
          clear hHeld HT_ HW_ hS3 hS1 HI0 HR0
          clear hx1 hit hitb HLe HX0
          obtain ⟨wo, rfl⟩ : ∃ wo : World, wo = wr := ⟨_, rfl⟩
          have hbx1 := HI1.out.box
          have hfl : f < tl := by have := HCd.out.2; have := HI1.out.1; omega
          go_wp2
          have HLp2 := Aside0.mk (show plLoop k (fun t2 => plSearch k ord d' t2 e2) t f (tl - 0) 0 = some r2 by have h1 := HLp.out; rw [HI1.out.1] at h1; exact h1)
          have HIs := Aside0.mk (HI1.out.mono (n' := n + 0 * plCost d') (by omega))
          clear hbx1
          go_loopw [146] (fun v146 wr => ∃ (i : Nat), v146 = .int .i64 (i : Int) ∧ Aside0 (i ≤ tl) ∧ Aside0 (plLoop k (fun t2 => plSearch k ord d' t2 e2) t f (tl - i) i = some r2) ∧ Aside0 (PlI w0 pb mb (some ad) m c1 ord (n + i * plCost d') gt cap tl gb ok w wr t) ∧ Aside0 (Kd.R k47 47 wr w0.heap.size (fun q => w.heap.size ≤ q) u10 st)) (fun v146 wr => tl - (intOf v146).toNat)
          case atStart => exact ⟨0, rfl, ⟨Nat.zero_le _⟩, HLp2, HIs, HR1⟩
          case round =>
            clear HI1 HR1 HIs HLp HLp2
            obtain ⟨i, rfl, HLi, HLp, HI, HR⟩ := hrel
            have hmul : (i + 1) * plCost d' = i * plCost d' + plCost d' := Nat.succ_mul _ _
            have HMul := Aside0.mk hmul
            clear hmul
            have hbx := HI.out.box
            by_cases hit : i < tl
            · have hitb : decide (i < tl) = true := decide_eq_true hit
              have hiti : (i : Int) < (tl : Int) := by omega
              have hil : i < t.length := by have := HI.out.1; omega
              have hl := HLp.out
              rw [show tl - i = (tl - (i + 1)) + 1 by omega, plLoop] at hl
              obtain ⟨A3, c3, oki3, hcel3, hR3, _, _⟩ := impl_moveTop.elem HI.out.2.2.1 i hil
              clear hR3 hil
              have hrw := (HNm.out.2 (t.getD i []) (by rw [Go.Proofs.YtfcbdfedolnkfaaDoor.U.getD_at _ _ _ (show i < t.length by have := HI.out.1; omega)]; exact List.getElem_mem _)).1
              generalize t.getD i [] = row at hl hcel3 hrw
              by_cases hif : i = f
              · have f1 : decide (i = f) = true := decide_eq_true hif
                have f2 : decide ((i : Int) = (f : Int)) = true := decide_eq_true (by omega)
                have f3 : ((i : Int) == (f : Int)) = true := beq_iff_eq.mpr (by omega)
                rw [if_pos (Or.inl hif)] at hl
                have HL2 := Aside0.mk hl
                clear hl hif HLp
                go_wp2
                go_roundw
                case rel => exact ⟨i + 1, by go_num, ⟨hit⟩, HL2, ⟨HI.out.mono (by rw [HMul.out]; omega)⟩, HR⟩
                case measure => simp [intOf]; omega
              have f1 : decide (i = f) = false := decide_eq_false hif
              have f2 : decide ((i : Int) = (f : Int)) = false := decide_eq_false (by omega)
              have f3 : ((i : Int) == (f : Int)) = false := beq_eq_false_iff_ne.mpr (by omega)
              by_cases hr4 : row.length = 4
              · have f4 : decide (row.length = 4) = true := decide_eq_true hr4
                have f5 : decide ((row.length : Int) = 4) = true := decide_eq_true (by omega)
                have f6 : ((row.length : Int) == 4) = true := beq_iff_eq.mpr (by omega)
                rw [if_pos (Or.inr hr4)] at hl
                have HL2 := Aside0.mk hl
                clear hl hr4 HLp
                go_wp2
                go_roundw
                case rel => exact ⟨i + 1, by go_num, ⟨hit⟩, HL2, ⟨HI.out.mono (by rw [HMul.out]; omega)⟩, HR⟩
                case measure => simp [intOf]; omega
              have f4 : decide (row.length = 4) = false := decide_eq_false hr4
              have f5 : decide ((row.length : Int) = 4) = false := decide_eq_false (by omega)
              have f6 : ((row.length : Int) == 4) = false := beq_eq_false_iff_ne.mpr (by omega)
              rw [if_neg (by intro h; rcases h with h | h; exact hif h; exact hr4 h)] at hl
              obtain ⟨t2, ht2, hl2⟩ := Option.bind_eq_some_iff.1 hl
              split at hl2
              case isFalse => cases hl2
              case isTrue hc2 =>
              obtain ⟨r3, hr3, hl3⟩ := Option.bind_eq_some_iff.1 hl2
              have HOy := Aside0.mk ht2
              have HC2 := Aside0.mk hc2
              have HR3 := Aside0.mk hr3
              have HL3 := Aside0.mk hl3
              clear hl hl2 hl3 ht2 hc2 hr3 hif hr4 HLp
              go_upto_region 31 with (first | (go_at_call 40; refine (impl_search.own k _ tl _ t t2 _ w0 (below_size HI.out.2.1.2.2) HI.out.1 (HC2.out.1.1.trans HI.out.1) (by omega) (Kd.S_reads' HI.out.2.2.1).2.2 (by rw [HI.out.1]; exact (Kd.S_reads' HI.out.2.2.1).2.1) HOy.out).mono ?_; rintro e w5 ⟨g2, cap2, rfl, hS, hb⟩; have HI5 := Aside0.mk (HI.out.below hb); have HS5 := Aside0.mk hS; have HB5 := Aside0.mk hb; clear hS hb))
              have HS6 := Aside0.mk (Kd.S_types (Kd.S_alloc HS5.out (.cells #[.slice (some ⟨g2, 0, none⟩) tl cap2] 30)) (blk_new w5 (.cells #[.slice (some ⟨g2, 0, none⟩) tl cap2] 30 (0, 0))) (by decide))
              have BN6 := Aside0.mk (blk_new w5 (.cells #[.slice (some ⟨g2, 0, none⟩) tl cap2] 30 (0, 0)))
              have HI6 := Aside0.mk (HI5.out.below (below_alloc (Below.refl _ _) (.cells #[.slice (some ⟨g2, 0, none⟩) tl cap2] 30)))
              have HK6 := Aside0.mk (show ∀ q, q < wr.heap.size → (w5.alloc (.cells #[.slice (some ⟨g2, 0, none⟩) tl cap2] 30)).heap[q]? = wr.heap[q]? from fun q hq => ((below_alloc (Below.refl w5.heap.size w5) _).block q (Nat.lt_of_lt_of_le hq HB5.out.size)).trans (HB5.out.block q hq))
              have HZ6 := Aside0.mk (show wr.heap.size ≤ w5.heap.size ∧ w5.heap.size < (w5.alloc (.cells #[.slice (some ⟨g2, 0, none⟩) tl cap2] 30)).heap.size from ⟨HB5.out.size, by simp⟩)
              clear HI5 HS5 HB5 hbx hcel3
              generalize w5.alloc (.cells #[.slice (some ⟨g2, 0, none⟩) tl cap2] 30) = w6 at HS6 BN6 HI6 HK6 HZ6 ⊢
              generalize w5.heap.size = gn at HS6 BN6 HZ6 ⊢
              have hbn : w6.cell? ⟨gn, 0, none⟩ = some (.slice (some ⟨g2, 0, none⟩) tl cap2) := (blk_cell BN6.out 0).trans rfl
              obtain ⟨y, hy⟩ : ∃ y : Int, y = mvTop t2 f := ⟨_, rfl⟩
              have HMv := Aside0.mk (impl_moveTop.calls g2 tl cap2 f i w0.heap.size (fun q => wr.heap.size ≤ q ∧ q ≠ gn) t2 w6 HS6.out (below_size HI6.out.2.1.2.2) (fun q hq => ⟨by have := HZ6.out; omega, by have := HZ6.out; omega⟩) hfl hit HC2.out.1.2 (fun row hr => by have := (HC2.out.2.2 row hr).1; omega))
              rw [← hy] at HMv
              have HY := Aside0.mk hy
              clear hy HS6
              go_upto_region 32 with (first | (go_at_call 50; refine HMv.out.mono ?_; rintro e w7 ⟨rfl, hS, hb, hk⟩; have HS7 := Aside0.mk hS; have BN7 := Aside0.mk ((hk gn HZ6.out.2 (fun h => h.2 rfl)).trans BN6.out); have HK7 := Aside0.mk (show ∀ q, q < wr.heap.size → w7.heap[q]? = wr.heap[q]? from fun q hq => (hk q (by have := HZ6.out; omega) (fun h => by have := h.1; omega)).trans (HK6.out q hq)); have HB7 := Aside0.mk (HI6.out.2.1.2.2.trans hb); have HZ7 := Aside0.mk (show wr.heap.size ≤ w7.heap.size ∧ gn < w7.heap.size from ⟨by have := HZ6.out; have := hb.size; omega, by have := HZ6.out; have := hb.size; omega⟩); have hbn7 : w7.cell? ⟨gn, 0, none⟩ = some (.slice (some ⟨g2, 0, none⟩) tl cap2) := (blk_cell BN7.out 0).trans rfl; clear hS hb hk hbn HMv))
              have HW7 := Aside0.mk (show PlW w0 pb mb (some ad) m c1 ord (n + i * plCost d') w7 from HI.out.2.1.at (HK7.out pb HI.out.2.1.pblt.1) (HK7.out mb HI.out.2.1.pblt.2) HB7.out)
              have hlen : (mvTab t2 f i).length = tl := by unfold mvTab mvCut; rw [List.length_set, List.length_set, HC2.out.1.1, HI.out.1]
              have hc8 := HRec2.out g2 cap2 e2 (n + i * plCost d') (mvTab t2 f i) r3 (fun q => wr.heap.size ≤ q ∧ q ≠ gn) w7 HW7.out (by rw [hlen]; exact HS7.out) (fun q hq => ⟨by have := HZ7.out; omega, by have := HZ7.out; omega⟩) (Nat.le_of_lt hlt) (by
                have h1 := HCost.out
                have h2 : (i + 1) * plCost d' ≤ 6 * plCost d' := Nat.mul_le_mul_right _ (by omega)
                rw [HMul.out] at h2
                rw [plCost] at h1
                omega) HR3.out
              rw [hlen] at hc8
              have HC8 := Aside0.mk hc8
              have HCs := Aside0.mk (show n + i * plCost d' + plCost d' ≤ n + plCost (d' + 1) by
                have h2 : (i + 1) * plCost d' ≤ 6 * plCost d' := Nat.mul_le_mul_right _ (by omega)
                rw [HMul.out] at h2
                rw [plCost]
                omega)
              have HNe0 := Aside0.mk (show ∀ q, w7.heap.size ≤ q → (u10 : Value).ownBlock ≠ some q from fun q hq e => by have := Kd.R_lt HR.out q e; have := HZ7.out; omega)
              clear hc8 hlen
              cases r3 with
              | some rest =>
                have hl3 := HL3.out
                dsimp only at hl3
                split at hl3
                case isFalse => cases hl3
                case isTrue hrl =>
                injection hl3 with hl3
                subst hl3
                have HRl := Aside0.mk hrl
                clear hrl HL3
                go_wp2_with (first | (go_at_call 39; refine HC8.out.mono ?_; rintro e w8 ⟨v8, rfl, hV, hW, hsz, hk⟩; have HK8 := Aside0.mk (show ∀ q, q < wr.heap.size → q ≠ mb → w8.heap[q]? = wr.heap[q]? from fun q hq hm => (hk q (by have := HZ7.out; omega) (fun h => by have := h.1; omega) hm).trans (HK7.out q hq)); have HI8 := Aside0.mk (HI.out.kept HK8.out (by have := HZ7.out; omega) hW); have HR8 := Aside0.mk (HI.out.keptR HK8.out HR.out); have HV8 := Aside0.mk (show Kd.R k47 47 w8 w0.heap.size (fun q => w7.heap.size ≤ q) v8 rest from hV); have HNe := HNe0; clear hV hW hsz hk hbn7; obtain ⟨A8, c8, e8⟩ := Kd.R_slice HV8.out; subst e8) | ((with_reducible refine gate_builtin (b := .append) (xs := #[.tmp 175, .tmp 179]) rfl ?_); at_builtin; refine Kd.R_append k47 (w0 := w0) w0.heap.size rfl (.tmp 175) (.tmp 179) 27 47 (.agg #[.int .i64 0, .int .i64 0]) 16 rfl Tryd.underlying27 info47 rfl (by decide) (by omega) u10 st (⟨y, (i : Int)⟩ : S47) [.int .i64 y, .int .i64 (i : Int)] (fun q => w.heap.size ≤ q) (fun _ => False) rfl (by first | (go_simp; done) | (go_simp; rfl)) ?aP (fun _ hk => hk.elim) ?aF ?aO ?aB ?aS ?aL ?_; (case aP => exact k47_mkM _ _ _ (⟨y, (i : Int)⟩ : S47)); (case aB => exact HI8.out.2.1.2.2); (case aF => exact fun q hq => Nat.le_trans HI8.out.2.2.2.2.1.1 hq); (case aO => exact HR8.out); (case aS => exact below_size HI8.out.2.1.2.2); (case aL => have := HSt.out; omega); intro v180 w9 ho hb hg hat; have HI9 := Aside0.mk (HI8.out.grown HR8.out hg hb); have HR9 := Aside0.mk ho; have HV9 := Aside0.mk (Kd.R_grown HV8.out hg (fun q hq e => HNe.out q hq e.symm)); clear ho hb hg hat HI8 HR8 HV8 HNe) | ((with_reducible refine gate_builtin (b := .append) (xs := #[.tmp 180, .tmp 181]) rfl ?_); at_builtin; refine Kd.R_append_rows k47 (w0 := w0) w0.heap.size rfl (.tmp 180) (.tmp 181) 27 47 (.agg #[.int .i64 0, .int .i64 0]) 16 rfl Tryd.underlying27 info47 rfl (by decide) (by omega) v180 (st ++ [⟨y, (i : Int)⟩]) rest _ _ _ (fun q => w.heap.size ≤ q) (fun _ => False) rfl rfl ?aO ?aR (fun _ _ h => h) (fun _ h => h.elim) ?aF ?aB ?aS ?aL ?_; (case aR => exact (Kd.R_reads' HV9.out).2.2); (case aB => exact HI9.out.2.1.2.2); (case aF => exact fun q hq => Nat.le_trans HI9.out.2.2.2.2.1.1 hq); (case aO => exact HR9.out); (case aS => exact below_size HI9.out.2.1.2.2); (case aL => have h1 := HSt.out; have h2 := HRl.out; rw [List.length_append, List.length_singleton]; omega); intro v182 w10 ho hb hg hat; have HI10 := Aside0.mk (HI9.out.grown HR9.out hg hb); have HR10 := Aside0.mk ho; clear ho hb hg hat HI9 HR9 HV9))
                go_ret2
                exact ⟨_, rfl, by have h := HR10.out; rw [List.append_assoc, HY.out] at h; exact h, HI10.out.2.1.mono HCs.out, HI10.out.2.2.2.2.1.1, HI10.out.2.2.2.2.2⟩
              | none =>
                go_wp2_with (first | (go_at_call 39; refine HC8.out.mono ?_; rintro e w8 ⟨v8, rfl, hV, hW, hsz, hk⟩; have HK8 := Aside0.mk (show ∀ q, q < wr.heap.size → q ≠ mb → w8.heap[q]? = wr.heap[q]? from fun q hq hm => (hk q (by have := HZ7.out; omega) (fun h => by have := h.1; omega) hm).trans (HK7.out q hq)); have HI8 := Aside0.mk (HI.out.kept HK8.out (by have := HZ7.out; omega) hW); have HR8 := Aside0.mk (HI.out.keptR HK8.out HR.out); clear hV hW hsz hk hbn7))
                go_roundw
                case rel => exact ⟨i + 1, by go_num, ⟨hit⟩, ⟨HL3.out⟩, ⟨by rw [HMul.out, ← Nat.add_assoc]; exact HI8.out⟩, HR8⟩
                case measure => simp [intOf]; omega
            · have hitb : decide (i < tl) = false := decide_eq_false hit
              have hl := HLp.out
              rw [show tl - i = 0 by omega, plLoop] at hl
              injection hl with hl
              subst hl
              have hmp := HI.out.pl.2
              obtain ⟨ss, hown, hsound⟩ := HI.out.2.1.2.1
              have HOwn := Aside0.mk hown
              have HSd := Aside0.mk (show plSound ord (s.data.toList :: ss) by rw [HKy2.out]; exact plSound_put hsound HNm.out he1 hd1 HR2.out)
              have HCs := Aside0.mk (show n + i * plCost d' + 1 ≤ n + plCost (d' + 1) by
                have h2 : i * plCost d' ≤ 6 * plCost d' := Nat.mul_le_mul_right _ (by have := HLi.out; omega)
                rw [plCost]
                omega)
              clear hown hsound HLp hbx
              go_wp2_with (first | (at_mapUpdate; refine wpList_mapUpdate_own _ rfl _ _ _ 57 rfl 9 4 impl_search.keyed Tryd.underlying57 (plainElem Tryd.prog 4) mb (n + i * plCost d') (plSet ss) rfl HOwn.out (by have h1 := HCs.out; have h2 := HCost.out; unfold maxLen; omega) _ _ _ rfl rfl (Go.WideMaps.keyOf_string_mk Tryd.underlying9 HKz.out) _ [] (plainElem_bool Tryd.underlying4 true) ?_; intro w1 hown1 hgrow1))
              go_ret2
              have HW1 := plPut HI.out.2.1 HSd.out hmb hown1 hgrow1
              exact ⟨_, rfl, Kd.R_nil _ _ _ _ _, HW1.mono HCs.out, Nat.le_trans HI.out.2.2.2.2.1.1 hgrow1.size, fun q hq hno hm => (hgrow1.block q (Nat.lt_of_lt_of_le hq HI.out.2.2.2.2.1.1) (fun e => hm (Option.some.inj e))).trans (HI.out.2.2.2.2.2 q hq hno hm)⟩
theorem impl_search.all (w0 : World) (pb mb : Nat) (A1 : Option Addr) (m c1 : Nat) (ord : List Int) (k : Nat) (hm : ord.length = m) (hm8 : m ≤ 99) (hC : Kd.C (Kd.int .i64) w0 A1 ord.length ord) (hc : ord.length ≤ c1) (hmb : w0.heap.size ≤ mb) : ∀ d, PlC w0 pb mb A1 m c1 ord k d
  | 0 => impl_search.step w0 pb mb A1 m c1 ord k 0 hm hm8 hC hc hmb (fun d' e => by cases e)
  | d + 1 => impl_search.step w0 pb mb A1 m c1 ord k (d + 1) hm hm8 hC hc hmb (fun d' e => by
    injection e with e
    rw [← e]
    exact impl_search.all w0 pb mb A1 m c1 ord k hm hm8 hC hc hmb d)


end Go.Proofs.YtfcbdfedolnkfaaDoor.P
