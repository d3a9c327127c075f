/- A finding's sentence is read again: the reference's search and the program's parse. -/
import Derived.Test.YtooknbndbfkpcaaDoorPx0
import Derived.Test.YtooknbndbfkpcaaDoorPx1
import Derived.Test.YtooknbndbfkpcaaDoorPx12
import Derived.Test.YtooknbndbfkpcaaDoorPx13
import Derived.Test.YtooknbndbfkpcaaDoorPx2
import Derived.Test.YtooknbndbfkpcaaDoorPx6
import Derived.Test.YtooknbndbfkpcaaDoorU
namespace Go.Proofs.YtooknbndbfkpcaaDoor.UP
open Go.RowKit Go.Proofs.YtooknbndbfkpcaaDoorW.PrintWords Go.Proofs.YtooknbndbfkpcaaDoorW.PrintMore Go.Proofs.YtooknbndbfkpcaaDoor.P Go.Proofs.YtooknbndbfkpcaaDoor.U
set_option linter.unusedVariables false

theorem good_tot (a b c : Int) : (∃ v, spec_l7Good.f a b c = some v) ∧ (spec_l7Good.f a b c = some true → (0 ≤ a ∧ a < 5) ∧ (0 ≤ b ∧ b < 6) ∧ (0 ≤ c ∧ c < 4)) := by
  unfold spec_l7Good.f spec_l1In.f
  by_cases h1 : a ≥ 1 <;> by_cases h2 : a ≤ 4 <;> by_cases h3 : b ≥ 0 <;> by_cases h4 : b ≤ 5 <;> by_cases h5 : c ≥ 0 <;> by_cases h6 : c ≤ 3 <;> by_cases h7 : c > 0 <;> simp [h1, h2, h3, h4, h5, h6, h7] <;> omega
theorem good_impl (a b c : Int) : impl_isFinding.f a b c = spec_l7Good.f a b c := rfl
/-- The sentence of a finding. -/
def txt (a b c : Int) : ByteArray := (impl_yardFindingText.f a b c).getD ⟨#[]⟩
/-- What a round of the parse reads at a rule. -/
def rdg (x : ByteArray) (r : Int) : Option (Option (Int × Int)) :=
  (impl_yardReasons.f).bind fun l => (strings_CutSuffix.f x (rdOf ByteArray.empty l r)).bind fun c => if c.2 = true then
    (strings_TrimPrefix.f c.1 (⟨#[84, 104, 101, 32, 99, 111, 110, 116, 97, 105, 110, 101, 114, 32, 105, 110, 32, 115, 116, 97, 99, 107, 32]⟩ : ByteArray)).bind fun t => (strings_Cut.f t (⟨#[44, 32, 116, 105, 101, 114, 32]⟩ : ByteArray)).bind fun d => (impl_ParseInt.f d.1).bind fun a => (impl_ParseInt.f d.2.1).bind fun b => some (some (a.1, b.1)) else some none
def chkT (r s t : Nat) : Bool := match spec_l7Good.f (r : Int) (s : Int) (t : Int) with
  | some true => (match spec_YardFindingText.f 3 (r : Int) (s : Int) (t : Int) with | some (x, v) => v && (x.data.toList == (txt (r : Int) (s : Int) (t : Int)).data.toList) | none => false) && (impl_yardFindingText.f (r : Int) (s : Int) (t : Int)).isSome
  | _ => true
def chkR (r s t : Nat) : Bool := match spec_l7Good.f (r : Int) (s : Int) (t : Int) with
  | some true => ((List.range 5).all fun q => if q = r then decide (rdg (txt (r : Int) (s : Int) (t : Int)) (q : Int) = some (some ((s : Int), (t : Int)))) else if q = 0 then true else decide (rdg (txt (r : Int) (s : Int) (t : Int)) (q : Int) = some none))
  | _ => true
theorem allT : ((List.range 5).all fun r => (List.range 6).all fun s => (List.range 4).all fun t => chkT r s t) = true := by decide +kernel
def rowR (r : Nat) : Bool := (List.range 6).all fun s => (List.range 4).all fun t => chkR r s t
theorem rowR0 : rowR 0 = true := by decide +kernel
theorem rowR1 : rowR 1 = true := by decide +kernel
theorem rowR2 : rowR 2 = true := by decide +kernel
theorem rowR3 : rowR 3 = true := by decide +kernel
theorem rowR4 : rowR 4 = true := by decide +kernel
theorem allR : ((List.range 5).all fun r => (List.range 6).all fun s => (List.range 4).all fun t => chkR r s t) = true := by
  rw [List.all_eq_true]
  intro r hr
  have h : r < 5 := List.mem_range.mp hr
  show rowR r = true
  match r, h with
  | 0, _ => exact rowR0
  | 1, _ => exact rowR1
  | 2, _ => exact rowR2
  | 3, _ => exact rowR3
  | 4, _ => exact rowR4
theorem at3 {f : Nat → Nat → Nat → Bool} (h : ((List.range 5).all fun r => (List.range 6).all fun s => (List.range 4).all fun t => f r s t) = true) (r : Nat) (hr : r < 5) (s : Nat) (hs : s < 6) (t : Nat) (ht : t < 4) : f r s t = true :=
  List.all_eq_true.mp (List.all_eq_true.mp (List.all_eq_true.mp h r (List.mem_range.mpr hr)) s (List.mem_range.mpr hs)) t (List.mem_range.mpr ht)
theorem texts (r : Nat) (hr : r < 5) (s : Nat) (hs : s < 6) (t : Nat) (ht : t < 4) (hg : spec_l7Good.f (r : Int) (s : Int) (t : Int) = some true) : spec_YardFindingText.f 3 (r : Int) (s : Int) (t : Int) = some (txt (r : Int) (s : Int) (t : Int), true) ∧ impl_yardFindingText.f (r : Int) (s : Int) (t : Int) = some (txt (r : Int) (s : Int) (t : Int)) := by
  have h := at3 allT r hr s hs t ht
  unfold chkT at h
  rw [hg] at h
  dsimp only at h
  rw [Bool.and_eq_true] at h
  obtain ⟨h1, h2⟩ := h
  constructor
  · cases hq : spec_YardFindingText.f 3 (r : Int) (s : Int) (t : Int) with
    | none => rw [hq] at h1; cases h1
    | some p =>
      obtain ⟨x, v⟩ := p
      rw [hq] at h1
      dsimp only at h1
      rw [Bool.and_eq_true, beq_iff_eq] at h1
      obtain ⟨rfl, h3⟩ := h1
      rw [ByteArray.ext (Array.toList_inj.mp h3)]
  · obtain ⟨x, hx⟩ := Option.isSome_iff_exists.1 h2
    unfold txt
    rw [hx]
    rfl
theorem reads (r : Nat) (hr : r < 5) (s : Nat) (hs : s < 6) (t : Nat) (ht : t < 4) (hg : spec_l7Good.f (r : Int) (s : Int) (t : Int) = some true) : rdg (txt (r : Int) (s : Int) (t : Int)) (r : Int) = some (some ((s : Int), (t : Int))) := by
  have h := at3 allR r hr s hs t ht
  unfold chkR at h
  rw [hg] at h
  have h2 := List.all_eq_true.mp h r (List.mem_range.mpr hr)
  rw [if_pos rfl] at h2
  exact of_decide_eq_true h2
theorem skips (r : Nat) (hr : r < 5) (s : Nat) (hs : s < 6) (t : Nat) (ht : t < 4) (hg : spec_l7Good.f (r : Int) (s : Int) (t : Int) = some true) (q : Nat) (hq : q < 5) (q0 : 0 < q) (hne : q ≠ r) : rdg (txt (r : Int) (s : Int) (t : Int)) (q : Int) = some none := by
  have h := at3 allR r hr s hs t ht
  unfold chkR at h
  rw [hg] at h
  have h2 := List.all_eq_true.mp h q (List.mem_range.mpr hq)
  rw [if_neg hne, if_neg (by omega)] at h2
  exact of_decide_eq_true h2
/-- Two findings with one sentence are one. -/
theorem one {a b c a' b' c' : Int} (h : spec_l7Good.f a b c = some true) (h' : spec_l7Good.f a' b' c' = some true) (e : txt a b c = txt a' b' c') : a = a' ∧ b = b' ∧ c = c' := by
  obtain ⟨⟨p1, p2⟩, ⟨p3, p4⟩, p5, p6⟩ := (good_tot a b c).2 h
  obtain ⟨⟨q1, q2⟩, ⟨q3, q4⟩, q5, q6⟩ := (good_tot a' b' c').2 h'
  obtain ⟨a, rfl⟩ := Int.eq_ofNat_of_zero_le p1
  obtain ⟨b, rfl⟩ := Int.eq_ofNat_of_zero_le p3
  obtain ⟨c, rfl⟩ := Int.eq_ofNat_of_zero_le p5
  obtain ⟨a', rfl⟩ := Int.eq_ofNat_of_zero_le q1
  obtain ⟨b', rfl⟩ := Int.eq_ofNat_of_zero_le q3
  obtain ⟨c', rfl⟩ := Int.eq_ofNat_of_zero_le q5
  have h1 := reads a (by omega) b (by omega) c (by omega) h
  have h2 := reads a' (by omega) b' (by omega) c' (by omega) h'
  by_cases ea : a' = a
  · subst ea
    rw [e, h2] at h1
    injection h1 with h1
    injection h1 with h1
    injection h1 with h3 h4
    exact ⟨rfl, h3.symm, h4.symm⟩
  · have pos : 0 < a' := by
      rcases Nat.eq_zero_or_pos a' with h0 | h0
      · subst h0
        have : spec_l7Good.f ((0 : Nat) : Int) (b' : Int) (c' : Int) = some false := rfl
        rw [this] at h'
        cases h'
      · exact h0
    have h3 := skips a (by omega) b (by omega) c (by omega) h a' (by omega) pos ea
    rw [e, h2] at h3
    injection h3 with h3
    cases h3
theorem wr64 (n m : Nat) (h : m ≤ n) (hn : n ≤ 9223372036854775807) : wrap64 ((n : Int) - (m : Int)) = ((n - m : Nat) : Int) := by
  rw [wr (by omega) (by omega)]; omega
theorem cs_tot (x y : ByteArray) (hx : x.size ≤ 1048576) : ∃ b e, strings_CutSuffix.f x y = some (b, e) ∧ b.size ≤ x.size := by
  unfold strings_CutSuffix.f stringslite_CutSuffix.f stringslite_HasSuffix.f
  by_cases h : y.size ≤ x.size
  · rw [wr64 _ _ h (by omega), if_pos (by omega), if_pos (by omega), if_pos (by omega)]
    dsimp only [Option.bind_some]
    split
    · rw [if_pos (by omega), if_pos (by omega)]
      refine ⟨_, _, rfl, ?_⟩
      rw [ByteArray.size_extract]; omega
    · exact ⟨_, _, rfl, Nat.le_refl _⟩
  · rw [if_neg (by omega)]
    exact ⟨_, _, rfl, Nat.le_refl _⟩
theorem tp_tot (x y : ByteArray) (hx : x.size ≤ 1048576) : ∃ b, strings_TrimPrefix.f x y = some b ∧ b.size ≤ x.size := by
  unfold strings_TrimPrefix.f stringslite_TrimPrefix.f stringslite_HasPrefix.f
  by_cases h : y.size ≤ x.size
  · rw [if_pos (by omega), if_pos (by omega), if_pos (by omega)]
    dsimp only [Option.bind_some]
    split
    · rw [if_pos (by omega), if_pos (by omega)]
      refine ⟨_, rfl, ?_⟩
      rw [ByteArray.size_extract]; omega
    · exact ⟨_, rfl, Nat.le_refl _⟩
  · rw [if_neg (by omega)]
    exact ⟨_, rfl, Nat.le_refl _⟩
theorem cut_tot (x y : ByteArray) (hx : x.size ≤ 1048576) : ∃ b c e, strings_Cut.f x y = some (b, c, e) ∧ b.size ≤ 1048576 ∧ c.size ≤ 1048576 := by
  unfold strings_Cut.f
  rw [if_pos hx]
  have hl : x.data.toList.length ≤ 1048576 := by rw [← Go.Lib.size_eq]; exact hx
  refine ⟨_, _, _, rfl, ?_, ?_⟩
  · show ((Go.Lib.cut x.data.toList y.data.toList).1.toArray).size ≤ _
    rw [List.size_toArray]
    unfold Go.Lib.cut
    split
    · rw [List.length_take]; omega
    · exact hl
  · show ((Go.Lib.cut x.data.toList y.data.toList).2.1.toArray).size ≤ _
    rw [List.size_toArray]
    unfold Go.Lib.cut
    split
    · rw [List.length_drop]; omega
    · simp
theorem reasons : impl_yardReasons.f = some (impl_yardReasons.f.getD []) := rfl
theorem reasons_len : (impl_yardReasons.f.getD []).length = 5 := rfl
/-- A round of the program's parse: the reading is a finding with this sentence, or the parse goes on. -/
theorem round (x : ByteArray) (hx : x.size ≤ 1048576) (r : Nat) (hr : r < 5) (res : Int × Int × Int × Bool)
    (hit : ∀ a b, rdg x (r : Int) = some (some (a, b)) → spec_l7Good.f (r : Int) a b = some true → txt (r : Int) a b = x → res = ((r : Int), a, b, true))
    (next : (∀ a b, rdg x (r : Int) = some (some (a, b)) → spec_l7Good.f (r : Int) a b = some true → txt (r : Int) a b ≠ x) → Ev (fun k => impl_ParseYardFinding.l0 k x ((r + 1 : Nat) : Int)) res) : Ev (fun k => impl_ParseYardFinding.l0 k x (r : Int)) res := by
  refine Ev.step (fun k => by simp only [impl_ParseYardFinding.l0]; rfl) (ev_pos (by omega) (Ev.bind (ev_const reasons) ?_))
  rw [reasons_len]
  refine ev_pos (by omega) (ev_pos (by omega) ?_)
  rw [wsucc (n := 5) hr (by omega)]
  obtain ⟨c, e, h1, z1⟩ := cs_tot x (rdOf ByteArray.empty (impl_yardReasons.f.getD []) (r : Int)) hx
  refine Ev.bind (ev_const h1) ?_
  cases e with
  | false =>
    refine ev_neg (by simp) (next ?_)
    intro a b h
    unfold rdg at h
    rw [reasons, Option.bind_some, h1] at h
    simp at h
  | true =>
  refine ev_pos rfl ?_
  obtain ⟨t, h2, z2⟩ := tp_tot c (⟨#[84, 104, 101, 32, 99, 111, 110, 116, 97, 105, 110, 101, 114, 32, 105, 110, 32, 115, 116, 97, 99, 107, 32]⟩ : ByteArray) (by omega)
  refine Ev.bind (ev_const h2) ?_
  obtain ⟨d1, d2, d3, h3, z3, z4⟩ := cut_tot t (⟨#[44, 32, 116, 105, 101, 114, 32]⟩ : ByteArray) (by omega)
  refine Ev.bind (ev_const h3) ?_
  have h4 : impl_ParseInt.f d1 = some (piF d1.data.toList) := by unfold impl_ParseInt.f; rw [if_pos z3]
  have h5 : impl_ParseInt.f d2 = some (piF d2.data.toList) := by unfold impl_ParseInt.f; rw [if_pos z4]
  refine Ev.bind (ev_const h4) (Ev.bind (ev_const h5) ?_)
  have hrd : rdg x (r : Int) = some (some ((piF d1.data.toList).1, (piF d2.data.toList).1)) := by
    unfold rdg
    rw [reasons, Option.bind_some, h1, Option.bind_some, if_pos rfl, h2, Option.bind_some, h3, Option.bind_some, h4, Option.bind_some, h5, Option.bind_some]
  generalize (piF d1.data.toList).1 = a at hrd ⊢
  generalize (piF d2.data.toList).1 = b at hrd ⊢
  obtain ⟨⟨v, hv⟩, hrg⟩ := good_tot (r : Int) a b
  refine Ev.bind (ev_const ((good_impl _ _ _).trans hv)) ?_
  cases v with
  | false =>
    refine ev_neg (by simp) (next ?_)
    intro a' b' h hg
    rw [hrd] at h
    injection h with h
    injection h with h
    injection h with e1 e2
    subst e1 e2
    rw [hv] at hg
    cases hg
  | true =>
  obtain ⟨_, ⟨q1, q2⟩, q3, q4⟩ := hrg hv
  obtain ⟨a, rfl⟩ := Int.eq_ofNat_of_zero_le q1
  obtain ⟨b, rfl⟩ := Int.eq_ofNat_of_zero_le q3
  refine ev_pos rfl (Ev.bind (ev_const (texts r hr a (by omega) b (by omega) hv).2) ?_)
  by_cases ht : txt (r : Int) (a : Int) (b : Int) = x
  · rw [hit _ _ hrd hv ht]
    exact ev_pos (by rw [ht]) (ev_const rfl)
  · refine ev_neg ?_ (next ?_)
    · intro e
      rw [impl_ParseInt.tl, impl_ParseInt.tl] at e
      exact ht (ByteArray.ext (Array.toList_inj.mp e))
    · intro a' b' h _ h7
      rw [hrd] at h
      injection h with h
      injection h with h
      injection h with e1 e2
      subst e1 e2
      exact ht h7
theorem done (x : ByteArray) (res : Int × Int × Int × Bool) (h : res = (0, 0, 0, false)) : Ev (fun k => impl_ParseYardFinding.l0 k x ((5 : Nat) : Int)) res := by
  subst h
  exact Ev.step (fun k => by simp only [impl_ParseYardFinding.l0]; rfl) (ev_neg (by omega) (ev_const rfl))
/-- What is to be found: res is the one finding whose sentence x is, or none. -/
def Fnd (x : ByteArray) (res : Int × Int × Int × Bool) : Prop :=
  (res.2.2.2 = true ∧ spec_l7Good.f res.1 res.2.1 res.2.2.1 = some true ∧ txt res.1 res.2.1 res.2.2.1 = x) ∨ (res = (0, 0, 0, false) ∧ ∀ a b c, spec_l7Good.f a b c = some true → txt a b c ≠ x)
theorem fnd_hit {x : ByteArray} {res : Int × Int × Int × Bool} (h : Fnd x res) {a b c : Int} (hg : spec_l7Good.f a b c = some true) (ht : txt a b c = x) : res = (a, b, c, true) := by
  rcases h with ⟨h1, h2, h3⟩ | ⟨_, h2⟩
  · obtain ⟨r1, r2, r3, r4⟩ := res
    dsimp only at h1 h2 h3
    obtain ⟨e1, e2, e3⟩ := one h2 hg (h3.trans ht.symm)
    rw [h1, e1, e2, e3]
  · exact absurd ht (h2 _ _ _ hg)
theorem impl_fnd (x : ByteArray) (hx : x.size ≤ 1048576) (res : Int × Int × Int × Bool) (h : Fnd x res) : Ev (fun k => impl_ParseYardFinding.f k x) res := by
  unfold impl_ParseYardFinding.f
  have go : ∀ d r : Nat, r + d = 5 → 0 < r → (∀ q : Nat, 0 < q → q < r → ¬ (res.2.2.2 = true ∧ res.1 = (q : Int))) → Ev (fun k => impl_ParseYardFinding.l0 k x (r : Int)) res := by
    intro d
    induction d with
    | zero =>
      intro r hr h0 hq
      obtain rfl : r = 5 := by omega
      refine done x res ?_
      rcases h with ⟨h1, h2, h3⟩ | ⟨h1, _⟩
      · exfalso
        obtain ⟨⟨p1, p2⟩, _⟩ := (good_tot _ _ _).2 h2
        obtain ⟨n, hn⟩ := Int.eq_ofNat_of_zero_le p1
        have n0 : 0 < n := by
          rcases Nat.eq_zero_or_pos n with e | e
          · rw [hn, e] at h2
            have : spec_l7Good.f ((0 : Nat) : Int) res.2.1 res.2.2.1 = some false := rfl
            rw [this] at h2
            cases h2
          · exact e
        exact hq n n0 (by omega) ⟨h1, hn⟩
      · exact h1
    | succ d ih =>
      intro r hr h0 hq
      refine round x hx r (by omega) res (fun a b _ hg ht => fnd_hit h hg ht) (fun hno => ih (r + 1) (by omega) (by omega) ?_)
      intro q q0 q1 hh
      by_cases hqr : q < r
      · exact hq q q0 hqr hh
      obtain rfl : q = r := by omega
      rcases h with ⟨h1, h2, h3⟩ | ⟨h1, _⟩
      · rw [hh.2] at h2 h3
        obtain ⟨_, ⟨p3, p4⟩, p5, p6⟩ := (good_tot _ _ _).2 h2
        obtain ⟨m, hm⟩ := Int.eq_ofNat_of_zero_le p3
        obtain ⟨n, hn⟩ := Int.eq_ofNat_of_zero_le p5
        rw [hm, hn] at h2 h3
        have h7 := reads q (by omega) m (by omega) n (by omega) h2
        rw [h3] at h7
        exact hno _ _ h7 h2 h3
      · rw [h1] at hh
        cases hh.1
  exact go 4 1 (by omega) (by omega) (fun q q0 q1 => by omega)
/-- The reference's search. -/
theorem text_spec (a b c : Int) : ∃ x v, Ev (fun k => spec_YardFindingText.f k a b c) (x, v) ∧ (v = true → spec_l7Good.f a b c = some true ∧ x = txt a b c) ∧ (v = false → spec_l7Good.f a b c = some false) := by
  obtain ⟨⟨v, hv⟩, hrg⟩ := good_tot a b c
  cases v with
  | false =>
    refine ⟨⟨#[]⟩, false, ?_, (fun h => by cases h), (fun _ => hv)⟩
    unfold spec_YardFindingText.f
    exact Ev.bind (ev_const hv) (ev_neg (by simp) (ev_const rfl))
  | true =>
    obtain ⟨⟨p1, p2⟩, ⟨p3, p4⟩, p5, p6⟩ := hrg hv
    obtain ⟨a, rfl⟩ := Int.eq_ofNat_of_zero_le p1
    obtain ⟨b, rfl⟩ := Int.eq_ofNat_of_zero_le p3
    obtain ⟨c, rfl⟩ := Int.eq_ofNat_of_zero_le p5
    have h3 := (texts a (by omega) b (by omega) c (by omega) hv).1
    refine ⟨_, true, ⟨3, fun k hk => ?_⟩, (fun _ => ⟨hv, rfl⟩), (fun h => by cases h)⟩
    obtain ⟨d, rfl⟩ : ∃ d, k = 3 + d := ⟨k - 3, by omega⟩
    clear hk
    induction d with
    | zero => exact h3
    | succ d ih => exact spec_YardFindingText.mono _ _ _ (3 + d) _ ih
/-- What lies ahead of a place of the search: none of it has the sentence. -/
theorem spec_fnd (x : ByteArray) (hx : x.size ≤ 1048576) (res : Int × Int × Int × Bool) (h : Fnd x res) : Ev (fun k => spec_ParseYardFinding.f k x) res := by
  unfold spec_ParseYardFinding.f
  have fin : ∀ d r : Nat, r + d = 5 → (∀ a b c, spec_l7Good.f a b c = some true → txt a b c = x → (r : Int) ≤ a) → Ev (fun k => spec_ParseYardFinding.l0 k x (r : Int)) res := by
    intro d
    induction d with
    | zero =>
      intro r hr hno
      obtain rfl : r = 5 := by omega
      refine Ev.step (fun k => by simp only [spec_ParseYardFinding.l0]; rfl) (ev_neg (by omega) (ev_const ?_))
      rcases h with ⟨h1, h2, h3⟩ | ⟨h1, _⟩
      · exfalso
        have h4 := hno _ _ _ h2 h3
        have h5 := ((good_tot _ _ _).2 h2).1.2
        omega
      · rw [h1]
    | succ d ihr =>
      intro r hr hno
      refine Ev.step (fun k => by simp only [spec_ParseYardFinding.l0]; rfl) (ev_pos (by omega) ?_)
      have mid : ∀ d2 s : Nat, s + d2 = 6 → (∀ b c, spec_l7Good.f (r : Int) b c = some true → txt (r : Int) b c = x → (s : Int) ≤ b) → Ev (fun k => spec_ParseYardFinding.l1 k x (r : Int) (s : Int)) res := by
        intro d2
        induction d2 with
        | zero =>
          intro s hs hno2
          refine Ev.step (fun k => by simp only [spec_ParseYardFinding.l1]; rfl) (ev_neg (by omega) ?_)
          rw [wsucc (n := 5) (show r < 5 by omega) (by omega)]
          refine ihr (r + 1) (by omega) (fun a b c hg ht => ?_)
          have h1 := hno a b c hg ht
          by_cases e : a = (r : Int)
          · subst e
            have h2 := hno2 b c hg ht
            have h3 := ((good_tot _ _ _).2 hg).2.1.2
            omega
          · omega
        | succ d2 ihs =>
          intro s hs hno2
          refine Ev.step (fun k => by simp only [spec_ParseYardFinding.l1]; rfl) (ev_pos (by omega) ?_)
          have low : ∀ d3 t : Nat, t + d3 = 4 → (∀ c, spec_l7Good.f (r : Int) (s : Int) c = some true → txt (r : Int) (s : Int) c = x → (t : Int) ≤ c) → Ev (fun k => spec_ParseYardFinding.l2 k x (r : Int) (s : Int) (t : Int)) res := by
            intro d3
            induction d3 with
            | zero =>
              intro t ht hno3
              refine Ev.step (fun k => by simp only [spec_ParseYardFinding.l2]; rfl) (ev_neg (by omega) ?_)
              rw [wsucc (n := 6) (show s < 6 by omega) (by omega)]
              refine ihs (s + 1) (by omega) (fun b c hg hc => ?_)
              have h1 := hno2 b c hg hc
              by_cases e : b = (s : Int)
              · subst e
                have h2 := hno3 c hg hc
                have h3 := ((good_tot _ _ _).2 hg).2.2.2
                omega
              · omega
            | succ d3 iht =>
              intro t ht hno3
              refine Ev.step (fun k => by simp only [spec_ParseYardFinding.l2]; rfl) (ev_pos (by omega) ?_)
              rw [wsucc (n := 4) (show t < 4 by omega) (by omega)]
              obtain ⟨y, v, h1, h2, h3⟩ := text_spec (r : Int) (s : Int) (t : Int)
              refine Ev.bind h1 ?_
              have skip : (spec_l7Good.f (r : Int) (s : Int) (t : Int) = some true → txt (r : Int) (s : Int) (t : Int) ≠ x) → Ev (fun k => spec_ParseYardFinding.l2 k x (r : Int) (s : Int) ((t + 1 : Nat) : Int)) res := fun hs2 => by
                refine iht (t + 1) (by omega) (fun c hg hc => ?_)
                have h4 := hno3 c hg hc
                by_cases e : c = (t : Int)
                · subst e
                  exact absurd hc (hs2 hg)
                · omega
              cases v with
              | false =>
                refine ev_neg (by simp) (skip (fun hg => ?_))
                rw [h3 rfl] at hg
                cases hg
              | true =>
                obtain ⟨hg, rfl⟩ := h2 rfl
                refine ev_pos rfl ?_
                by_cases hc : txt (r : Int) (s : Int) (t : Int) = x
                · rw [fnd_hit h hg hc]
                  exact ev_pos (by rw [hc]) (ev_const rfl)
                · refine ev_neg ?_ (skip (fun _ => hc))
                  intro e
                  rw [impl_ParseInt.tl, impl_ParseInt.tl] at e
                  exact hc (ByteArray.ext (Array.toList_inj.mp e))
          exact low 4 0 (by omega) (fun c hg _ => by have := ((good_tot _ _ _).2 hg).2.2.1; omega)
      exact mid 6 0 (by omega) (fun b c hg _ => by have := ((good_tot _ _ _).2 hg).2.1.1; omega)
  refine fin 4 1 (by omega) (fun a b c hg _ => ?_)
  have h0 := ((good_tot _ _ _).2 hg).1.1
  by_cases e : a = 0
  · subst e
    have : spec_l7Good.f 0 b c = some false := rfl
    rw [this] at hg
    cases hg
  · omega
theorem parse_same (x : ByteArray) (hx : x.size ≤ 1048576) : ∃ res, Ev (fun k => spec_ParseYardFinding.f k x) res ∧ Ev (fun k => impl_ParseYardFinding.f k x) res := by
  by_cases h : ∃ a b c, spec_l7Good.f a b c = some true ∧ txt a b c = x
  · obtain ⟨a, b, c, h1, h2⟩ := h
    exact ⟨(a, b, c, true), spec_fnd x hx _ (Or.inl ⟨rfl, h1, h2⟩), impl_fnd x hx _ (Or.inl ⟨rfl, h1, h2⟩)⟩
  · have h2 : ∀ a b c, spec_l7Good.f a b c = some true → txt a b c ≠ x := fun a b c hg ht => h ⟨a, b, c, hg, ht⟩
    exact ⟨(0, 0, 0, false), spec_fnd x hx _ (Or.inr ⟨rfl, h2⟩), impl_fnd x hx _ (Or.inr ⟨rfl, h2⟩)⟩
end Go.Proofs.YtooknbndbfkpcaaDoor.UP
