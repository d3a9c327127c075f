/- Containers: the laws' helpers, the reference's validity beside the program's. -/
import Derived.Test.YtgeakpogmjbjkaaPx0
import Derived.Test.YtgeakpogmjbjkaaPx1
import Derived.Test.YtgeakpogmjbjkaaPx10
import Derived.Test.YtgeakpogmjbjkaaPx11
import Derived.Test.YtgeakpogmjbjkaaPx12
import Derived.Test.YtgeakpogmjbjkaaPx2
import Derived.Test.YtgeakpogmjbjkaaPx6
import Derived.Test.YtgeakpogmjbjkaaPx8
import Derived.Test.YtgeakpogmjbjkaaUTab
namespace Go.Proofs.Ytgeakpogmjbjkaa.UC
open Go.RowKit Go.Proofs.YtgeakpogmjbjkaaW.PrintWords Go.Proofs.YtgeakpogmjbjkaaW.PrintMore Go.Proofs.Ytgeakpogmjbjkaa.P Go.Proofs.Ytgeakpogmjbjkaa.U Go.Proofs.Ytgeakpogmjbjkaa.UT
set_option linter.unusedVariables false

abbrev C0 := S55
abbrev C := S61
theorem rd_c0 (l : List C0) (i : Nat) (h : i < l.length) : rd_T55 l (i : Int) = l[i] := by
  unfold rd_T55
  rw [Int.toNat_natCast]
  exact getD_at l i _ h
theorem rd_c (l : List C) (i : Nat) (h : i < l.length) : rd_T61 l (i : Int) = l[i] := by
  unfold rd_T61
  rw [Int.toNat_natCast]
  exact getD_at l i _ h
def cv (x : C0) : C := ⟨x.f0, x.f1, x.f2, x.f3, x.f4⟩

/-! Their sizes. -/
def szC : List C0 → Int → Int
  | [], n => n
  | x :: l, n => if n - (x.f0.size : Int) < 0 then -1 else szC l (n - (x.f0.size : Int))
theorem szC_le : ∀ (l : List C0) (n : Int), 0 ≤ szC l n → ∀ x, x ∈ l → (x.f0.size : Int) ≤ n
  | [], _, _, x, hx => by cases hx
  | y :: l, n, h, x, hx => by
    unfold szC at h
    by_cases hc : n - (y.f0.size : Int) < 0
    · rw [if_pos hc] at h; omega
    · rw [if_neg hc] at h
      rcases List.mem_cons.mp hx with rfl | hx
      · omega
      · have := szC_le l _ h x hx
        omega
theorem szc_l (l : List C0) (hl : l.length ≤ 9223372036854775807) (hx : ∀ x, x ∈ l → x.f0.size ≤ 9223372036854775807) : ∀ d i (n : Int), i + d = l.length → 0 ≤ n ∧ n ≤ 1048576 →
    Ev (fun k => laws_szContainerS.l0 k l n (i : Int)) (szC (l.drop i) n) := by
  intro d
  induction d with
  | zero =>
    intro i n hi hn
    refine Ev.step (fun k => by simp only [laws_szContainerS.l0]; rfl) ?_
    refine ev_neg (by omega) (ev_const ?_)
    rw [List.drop_of_length_le (by omega)]; rfl
  | succ d ih =>
    intro i n hi hn
    have hlt : i < l.length := by omega
    have hxi := hx _ (List.getElem_mem hlt)
    refine Ev.step (fun k => by simp only [laws_szContainerS.l0]; rfl) ?_
    refine ev_pos (by omega) (ev_pos (by omega) ?_)
    rw [rd_c0 l i hlt, wsucc hlt hl, List.drop_eq_getElem_cons hlt]
    have e : laws_szContainer.f l[i].f0 l[i].f1 l[i].f2 l[i].f3 l[i].f4 n = some (if n - (l[i].f0.size : Int) < 0 then -1 else n - (l[i].f0.size : Int)) := by
      unfold laws_szContainer.f
      rw [wr (x := n - (l[i].f0.size : Int)) (by omega) (by omega)]
      split <;> rfl
    refine ev_call e ?_
    unfold szC
    by_cases hc : n - (l[i].f0.size : Int) < 0
    · rw [if_pos hc, if_pos hc]; exact ev_pos (by omega) (ev_const rfl)
    · rw [if_neg hc, if_neg hc]; exact ev_neg (by omega) (ih (i + 1) _ (by omega) (by omega))
theorem szc_ev (l : List C0) (hl : l.length ≤ 9223372036854775807) (hx : ∀ x, x ∈ l → x.f0.size ≤ 9223372036854775807) (n : Int) (hn : 0 ≤ n ∧ n ≤ 1048576) :
    ∃ r, Ev (fun k => laws_szContainerS.f k l n) r ∧ r ≤ n ∧ (0 ≤ r → l.length ≤ 1048576 ∧ ∀ x, x ∈ l → x.f0.size ≤ 1048576) := by
  unfold laws_szContainerS.f
  rw [wr (x := n - (l.length : Int)) (by omega) (by omega)]
  by_cases hc : n - (l.length : Int) < 0
  · exact ⟨-1, ev_pos hc (ev_const rfl), by omega, fun h => by omega⟩
  · refine ⟨szC l (n - (l.length : Int)), ev_neg hc (szc_l l hl hx l.length 0 _ (by omega) (by omega)), ?_, fun h => ⟨by omega, fun x hx2 => ?_⟩⟩
    · have : ∀ (l : List C0) (m : Int), 0 ≤ m → szC l m ≤ m := by
        intro l
        induction l with
        | nil => intro m hm; exact Int.le_refl _
        | cons x l ih =>
          intro m hm
          unfold szC
          split
          · omega
          · have := ih (m - (x.f0.size : Int)) (by omega); omega
      have := this l (n - (l.length : Int)) (by omega)
      omega
    · have := szC_le l _ h x hx2
      omega

/-! To the other side, and beside it. -/
theorem toc_l (l : List C0) (hn : l.length ≤ 1048576) : ∀ d i (acc : List C), i + d = l.length → acc.length = l.length → acc.take i = (l.take i).map cv → Ev (fun k => laws_toContainerS.l0 k l acc (i : Int)) (l.map cv) := by
  intro d
  induction d with
  | zero =>
    intro i acc hi ha ht
    refine Ev.step (fun k => by simp only [laws_toContainerS.l0]; rfl) (ev_neg (by omega) ?_)
    rw [List.take_of_length_le (by omega), List.take_of_length_le (by omega)] at ht
    exact ev_const (by rw [ht])
  | succ d ih =>
    intro i acc hi ha ht
    refine Ev.step (fun k => by simp only [laws_toContainerS.l0]; rfl) (ev_pos (by omega) (ev_pos (by omega) (ev_call rfl (ev_pos (by omega) ?_))))
    rw [wsucc (show i < l.length by omega) (by omega), Int.toNat_natCast]
    refine ih (i + 1) _ (by omega) (by rw [List.length_set]; exact ha) ?_
    rw [fill_step ht (by omega), List.take_succ_eq_append_getElem (show i < l.length by omega), List.map_append]
    rw [rd_c0 l i (by omega)]
    rfl
theorem toc_ev (l : List C0) (hn : l.length ≤ 1048576) : Ev (fun k => laws_toContainerS.f k l) (l.map cv) := by
  unfold laws_toContainerS.f
  refine ev_pos (by omega) (ev_pos (by omega) ?_)
  exact toc_l l hn l.length 0 _ (by omega) (by simp) (by simp)
theorem eqc_l (l : List C) (hn : l.length ≤ 9223372036854775807) : ∀ d i, i + d = l.length → Ev (fun k => laws_eqContainerS.l0 k l l (i : Int)) true := by
  intro d
  induction d with
  | zero => intro i hi; exact Ev.step (fun k => by simp only [laws_eqContainerS.l0]; rfl) (ev_neg (by omega) (ev_const rfl))
  | succ d ih =>
    intro i hi
    refine Ev.step (fun k => by simp only [laws_eqContainerS.l0]; rfl) (ev_pos (by omega) (ev_pos (by omega) (ev_pos (by omega) (ev_call (a := true) (by simp [laws_eqContainer.f]) (ev_pos rfl ?_)))))
    rw [wsucc (show i < l.length by omega) (by omega)]
    exact ih (i + 1) (by omega)
theorem eqc_ev (l : List C) (hn : l.length ≤ 9223372036854775807) : Ev (fun k => laws_eqContainerS.f k l l) true := by
  unfold laws_eqContainerS.f
  exact ev_pos rfl (eqc_l l hn l.length 0 (by omega))

/-! The marks: three letters, four digits, the check letter. -/
def ltr (a : ByteArray) (i : Nat) : Bool := if i < 3 then inr (bt a (i : Int)) 65 90 else inr (bt a (i : Int)) 48 57
def val (a : ByteArray) (i : Nat) : Int := ((i : Int) + 2) * (if i < 3 then bt a (i : Int) - 64 else bt a (i : Int) - 48)
def chk (a : ByteArray) : Nat → Nat → Int → Option Int
  | 0, _, s => some s
  | d + 1, i, s => if ltr a i then chk a d (i + 1) (s + val a i) else none
theorem chk_isSome (a : ByteArray) : ∀ (d i : Nat) (s t : Int), (chk a d i s).isSome = (chk a d i t).isSome
  | 0, _, _, _ => rfl
  | d + 1, i, s, t => by
    unfold chk
    cases ltr a i
    · rfl
    · exact chk_isSome a d (i + 1) _ _
theorem val_range (a : ByteArray) (i : Nat) (hi : i < 7) (h : ltr a i = true) : 0 ≤ val a i ∧ val a i ≤ 1000 := by
  unfold ltr at h
  unfold val
  have hr := bt_range a (i : Int)
  rcases (show i = 0 ∨ i = 1 ∨ i = 2 ∨ i = 3 ∨ i = 4 ∨ i = 5 ∨ i = 6 by omega) with rfl | rfl | rfl | rfl | rfl | rfl | rfl <;> (simp [inr_iff] at h ⊢; omega)
theorem chk_range (a : ByteArray) : ∀ (d i : Nat) (s t : Int), i + d = 7 → 0 ≤ s ∧ s ≤ 1000 * i → chk a d i s = some t → 0 ≤ t ∧ t ≤ 7000
  | 0, i, s, t, hi, hs, h => by
    injection h with h; subst h; omega
  | d + 1, i, s, t, hi, hs, h => by
    unfold chk at h
    cases hl : ltr a i
    · rw [hl] at h; cases h
    · rw [hl, if_pos rfl] at h
      have := val_range a i (by omega) hl
      exact chk_range a d (i + 1) _ t (by omega) (by omega) h
theorem seven_l (a : ByteArray) (ha : a.size = 7) : ∀ (d i : Nat), i + d = 7 → Ev (fun k => spec_l2Seven.l0 k a (i : Int)) ((chk a d i 0).isSome) := by
  intro d
  induction d with
  | zero =>
    intro i hi
    refine Ev.step (fun k => by simp only [spec_l2Seven.l0]; rfl) ?_
    exact ev_neg (by omega) (ev_const rfl)
  | succ d ih =>
    intro i hi
    refine Ev.step (fun k => by simp only [spec_l2Seven.l0]; rfl) ?_
    refine ev_pos (by omega) ?_
    rw [wsucc (show i < 7 by omega) (by omega)]
    have h2 := ih (i + 1) (by omega)
    rw [chk_isSome a d (i + 1) 0 (0 + val a i)] at h2
    unfold chk
    by_cases h3 : i < 3
    · refine ev_pos (by omega) (ev_pos (by omega) (ev_pos (by omega) ?_))
      have el : ltr a i = inr (bt a (i : Int)) 65 90 := if_pos h3
      by_cases c1 : bt a (i : Int) < 65
      · refine ev_eq (ev_pos c1 (ev_const rfl)) ?_
        rw [el, inr_not.mpr (by omega)]; rfl
      · refine ev_neg c1 ?_
        by_cases c2 : bt a (i : Int) > 90
        · refine ev_eq (ev_pos c2 (ev_const rfl)) ?_
          rw [el, inr_not.mpr (by omega)]; rfl
        · refine ev_neg c2 (ev_neg (by omega) ?_)
          rw [el, inr_iff.mpr (by omega), if_pos rfl]
          exact h2
    · refine ev_neg (by omega) (ev_pos (by omega) (ev_pos (by omega) (ev_pos (by omega) ?_)))
      have el : ltr a i = inr (bt a (i : Int)) 48 57 := if_neg h3
      by_cases c1 : bt a (i : Int) < 48
      · refine ev_eq (ev_pos c1 (ev_const rfl)) ?_
        rw [el, inr_not.mpr (by omega)]; rfl
      · refine ev_neg c1 ?_
        by_cases c2 : bt a (i : Int) > 57
        · refine ev_eq (ev_pos c2 (ev_const rfl)) ?_
          rw [el, inr_not.mpr (by omega)]; rfl
        · refine ev_neg c2 ?_
          rw [el, inr_iff.mpr (by omega), if_pos rfl]
          exact h2
theorem check_l (a : ByteArray) (ha : a.size = 7) : ∀ (d i : Nat) (s t : Int), i + d = 7 → 0 ≤ s ∧ s ≤ 1000 * i → chk a d i s = some t → Ev (fun k => spec_l2Check.l0 k a s (i : Int)) (65 + t % 23) := by
  intro d
  induction d with
  | zero =>
    intro i s t hi hs h
    injection h with h; subst h
    refine Ev.step (fun k => by simp only [spec_l2Check.l0]; rfl) ?_
    refine ev_neg (by omega) (ev_const ?_)
    rw [Int.tmod_eq_emod_of_nonneg hs.1]
    have := Int.emod_nonneg s (show (23 : Int) ≠ 0 by decide)
    have := Int.emod_lt_of_pos s (show (0 : Int) < 23 by decide)
    congr 1; omega
  | succ d ih =>
    intro i s t hi hs h
    unfold chk at h
    cases hl : ltr a i
    · rw [hl] at h; cases h
    rw [hl, if_pos rfl] at h
    have hv := val_range a i (by omega) hl
    have h2 := ih (i + 1) _ t (by omega) (by omega) h
    have hr := bt_range a (i : Int)
    refine Ev.step (fun k => by simp only [spec_l2Check.l0]; rfl) ?_
    refine ev_pos (by omega) (ev_pos (by omega) (ev_pos (by omega) ?_))
    rw [wsucc (show i < 7 by omega) (by omega)]
    by_cases h3 : i < 3
    · refine ev_pos (by omega) ?_
      have e : wrap64 (s + (wrap64 ((wrap64 ((wrap64 ((wrap64 (bt a (i : Int))) - 65)) + 1)) * (wrap64 ((i : Int) + 2))))) = s + val a i := by
        rw [wr (x := bt a (i : Int)) (by omega) (by omega), wr (x := bt a (i : Int) - 65) (by omega) (by omega), wr (x := bt a (i : Int) - 65 + 1) (by omega) (by omega), wr (x := (i : Int) + 2) (by omega) (by omega)]
        have ev : (bt a (i : Int) - 65 + 1) * ((i : Int) + 2) = val a i := by
          unfold val; rw [if_pos h3, Int.mul_comm]; congr 1; omega
        rw [ev, wr (x := val a i) (by omega) (by omega), wr (by omega) (by omega)]
      rw [e]; exact h2
    · refine ev_neg (by omega) ?_
      have e : wrap64 (s + (wrap64 ((wrap64 ((wrap64 (bt a (i : Int))) - 48)) * (wrap64 ((i : Int) + 2))))) = s + val a i := by
        rw [wr (x := bt a (i : Int)) (by omega) (by omega), wr (x := bt a (i : Int) - 48) (by omega) (by omega), wr (x := (i : Int) + 2) (by omega) (by omega)]
        have ev : (bt a (i : Int) - 48) * ((i : Int) + 2) = val a i := by
          unfold val; rw [if_neg h3, Int.mul_comm]
        rw [ev, wr (x := val a i) (by omega) (by omega), wr (by omega) (by omega)]
      rw [e]; exact h2
/-- What the program's check says: nothing, or the letter. -/
def lett (o : Option Int) : Int × Bool := match o with
  | none => (0, false)
  | some t => (65 + t % 23, true)
theorem letter_l (a : ByteArray) (ha : a.size = 7) : ∀ (d i : Nat) (s : Int), i + d = 7 → 0 ≤ s ∧ s ≤ 1000 * i → Ev (fun k => impl_checkLetter.l0 k a s (a.size : Int) (i : Int)) (lett (chk a d i s)) := by
  intro d
  induction d with
  | zero =>
    intro i s hi hs
    refine Ev.step (fun k => by simp only [impl_checkLetter.l0]; rfl) ?_
    refine ev_neg (by omega) (ev_const ?_)
    unfold chk lett
    rw [Int.tmod_eq_emod_of_nonneg hs.1]
    have h1 := Int.emod_nonneg s (show (23 : Int) ≠ 0 by decide)
    have h2 := Int.emod_lt_of_pos s (show (0 : Int) < 23 by decide)
    rw [wr (x := 65 + s % 23) (by omega) (by omega)]
    simp only [Option.some.injEq, Prod.mk.injEq, and_true]
    omega
  | succ d ih =>
    intro i s hi hs
    have hr := bt_range a (i : Int)
    refine Ev.step (fun k => by simp only [impl_checkLetter.l0]; rfl) ?_
    refine ev_pos (by omega) (ev_pos (by omega) (ev_pos (by omega) ?_))
    have go : ∀ t : Bool, (t = true → i < 3 ∧ ltr a i = true) → (t = false → i < 3 → ltr a i = false) → Ev (fun k => impl_checkLetter.j1 k a s (i : Int) (bt a (i : Int)) (a.size : Int) (i : Int) t) (lett (chk a (d + 1) i s)) := by
      intro t ht hf
      refine Ev.step (fun k => by simp only [impl_checkLetter.j1]; rfl) ?_
      rw [wsucc (show i < 7 by omega) (by omega)]
      unfold chk
      cases t
      · refine ev_neg (by simp) ?_
        by_cases h3 : i < 3
        · rw [hf rfl h3]
          exact ev_neg (by omega) (ev_const rfl)
        · refine ev_pos (by omega) ?_
          have el : ltr a i = inr (bt a (i : Int)) 48 57 := if_neg h3
          by_cases c1 : bt a (i : Int) ≥ 48
          · refine ev_pos c1 ?_
            by_cases c2 : bt a (i : Int) ≤ 57
            · have hl : ltr a i = true := by rw [el]; exact inr_iff.mpr (by omega)
              have hv := val_range a i (by omega) hl
              rw [hl, if_pos rfl]
              refine ev_pos c2 ?_
              have e : wrap64 (s + (wrap64 ((wrap64 ((i : Int) + 2)) * ((bt a (i : Int) - 48) % 256)))) = s + val a i := by
                rw [wr (x := (i : Int) + 2) (by omega) (by omega), show (bt a (i : Int) - 48) % 256 = bt a (i : Int) - 48 by omega]
                have ev : ((i : Int) + 2) * (bt a (i : Int) - 48) = val a i := by
                  unfold val; rw [if_neg h3]
                rw [ev, wr (x := val a i) (by omega) (by omega), wr (by omega) (by omega)]
              rw [e]
              exact ih (i + 1) _ (by omega) (by omega)
            · refine ev_eq (ev_neg c2 (ev_const rfl)) ?_
              rw [el, inr_not.mpr (by omega)]; rfl
          · refine ev_eq (ev_neg c1 (ev_const rfl)) ?_
            rw [el, inr_not.mpr (by omega)]; rfl
      · obtain ⟨h3, hl⟩ := ht rfl
        have hv := val_range a i (by omega) hl
        have hb : inr (bt a (i : Int)) 65 90 = true := by rw [← hl]; exact (if_pos h3).symm
        rw [inr_iff] at hb
        rw [hl, if_pos rfl]
        refine ev_pos rfl ?_
        have e : wrap64 (s + (wrap64 ((wrap64 ((i : Int) + 2)) * (((bt a (i : Int) - 65) % 256) + 1)))) = s + val a i := by
          rw [wr (x := (i : Int) + 2) (by omega) (by omega), show (bt a (i : Int) - 65) % 256 + 1 = bt a (i : Int) - 64 by omega]
          have ev : ((i : Int) + 2) * (bt a (i : Int) - 64) = val a i := by
            unfold val; rw [if_pos h3]
          rw [ev, wr (x := val a i) (by omega) (by omega), wr (by omega) (by omega)]
        rw [e]
        exact ih (i + 1) _ (by omega) (by omega)
    by_cases h3 : i < 3
    · have el : ltr a i = inr (bt a (i : Int)) 65 90 := if_pos h3
      refine ev_pos (by omega) ?_
      by_cases c1 : bt a (i : Int) ≥ 65
      · refine ev_pos c1 (go _ (fun h => ⟨h3, ?_⟩) (fun h _ => ?_))
        · rw [el]; exact inr_iff.mpr ⟨c1, of_decide_eq_true h⟩
        · rw [el]; exact inr_not.mpr (fun hh => (of_decide_eq_false h) hh.2)
      · refine ev_neg c1 (go _ (fun h => by cases h) (fun h _ => ?_))
        rw [el]; exact inr_not.mpr (fun hh => c1 hh.1)
    · exact ev_neg (by omega) (go _ (fun h => by cases h) (fun h h4 => absurd h4 h3))
/-- A container's mark. -/
def okId (a : ByteArray) : Bool := decide ((a.size : Int) = 8) && match chk (a.extract 0 7) 7 0 0 with
  | none => false
  | some t => bt a 7 == 65 + t % 23
theorem ext7 (a : ByteArray) (h : a.size = 8) : (a.extract 0 7).size = 7 := by
  rw [ByteArray.size_extract]; omega
theorem id_spec (a : ByteArray) : Ev (fun k => spec_l2Id.f k a) (okId a) := by
  unfold spec_l2Id.f okId
  by_cases h : (a.size : Int) = 8
  · have h7 := ext7 a (by omega)
    rw [decide_eq_true h, Bool.true_and]
    refine ev_pos h (ev_pos (by decide) (ev_pos (by omega) ?_))
    have e1 : Ev (fun k => spec_l2Seven.f k (a.extract 0 7)) ((chk (a.extract 0 7) 7 0 0).isSome) := by
      unfold spec_l2Seven.f
      exact ev_pos (by omega) (seven_l _ h7 7 0 (by omega))
    refine Ev.bind e1 ?_
    cases hc : chk (a.extract 0 7) 7 0 0 with
    | none => exact ev_neg (by simp) (ev_const rfl)
    | some t =>
      refine ev_pos rfl (ev_pos (by omega) ?_)
      have e2 : Ev (fun k => spec_l2Check.f k (a.extract 0 7)) (65 + t % 23) := by
        unfold spec_l2Check.f
        exact check_l _ h7 7 0 0 t (by omega) (by omega) hc
      exact Ev.bind e2 (ev_const rfl)
  · rw [decide_eq_false h, Bool.false_and]
    exact ev_neg h (ev_const rfl)
theorem id_impl (a : ByteArray) : Ev (fun k => impl_IsValidId.f k a) (okId a) := by
  unfold impl_IsValidId.f okId
  by_cases h : (a.size : Int) = 8
  · have h7 := ext7 a (by omega)
    rw [decide_eq_true h, Bool.true_and]
    refine ev_pos h (ev_pos (by decide) (ev_pos (by omega) ?_))
    have e1 : Ev (fun k => impl_checkLetter.f k (a.extract 0 7)) (lett (chk (a.extract 0 7) 7 0 0)) := by
      unfold impl_checkLetter.f
      exact ev_pos (by omega) (letter_l _ h7 7 0 0 (by omega) (by omega))
    refine Ev.bind e1 ?_
    cases hc : chk (a.extract 0 7) 7 0 0 with
    | none => exact ev_neg (by simp [lett]) (ev_const rfl)
    | some t => exact ev_pos rfl (ev_pos (by omega) (ev_const rfl))
  · rw [decide_eq_false h, Bool.false_and]
    exact ev_neg h (ev_const rfl)

/-! A container. -/
theorem within_impl (a b c : Int) : impl_within.f a b c = some (inr a b c) := by
  unfold impl_within.f inr
  by_cases h : b ≤ a <;> simp [h]
def okCont (x : C) : Bool := okId x.f0 && (inr x.f1 1 2 && (inr x.f2 1 32000 && (inr x.f3 1 3 && inr x.f4 1 9)))
theorem cont_spec (x : C) : Ev (fun k => spec_l2Good.f k x.f0 x.f1 x.f2 x.f3 x.f4) (okCont x) := by
  unfold spec_l2Good.f okCont
  refine Ev.bind (id_spec _) ?_
  cases okId x.f0
  · exact ev_neg (by simp) (ev_const rfl)
  refine ev_pos rfl (ev_call (in_spec _ _ _) ?_)
  cases inr x.f1 1 2
  · exact ev_neg (by simp) (ev_const rfl)
  refine ev_pos rfl (ev_call (in_spec _ _ _) ?_)
  cases inr x.f2 1 32000
  · exact ev_neg (by simp) (ev_const rfl)
  refine ev_pos rfl (ev_call (in_spec _ _ _) ?_)
  cases inr x.f3 1 3
  · exact ev_neg (by simp) (ev_const rfl)
  exact ev_pos rfl (ev_call (in_spec _ _ _) (ev_const rfl))
theorem cont_impl (x : C) : Ev (fun k => impl_IsValidContainer.f k x.f0 x.f1 x.f2 x.f3 x.f4) (okCont x) := by
  unfold impl_IsValidContainer.f okCont
  refine Ev.bind (id_impl _) ?_
  cases okId x.f0
  · exact ev_neg (by simp) (ev_const rfl)
  refine ev_pos rfl (ev_call (within_impl _ _ _) ?_)
  cases inr x.f1 1 2
  · exact ev_neg (by simp) (ev_const rfl)
  refine ev_pos rfl (ev_call (within_impl _ _ _) ?_)
  cases inr x.f3 1 3
  · exact ev_eq (ev_neg (by simp) (ev_const rfl)) (by simp)
  refine ev_pos rfl (ev_call (within_impl _ _ _) ?_)
  cases inr x.f2 1 32000
  · exact ev_neg (by simp) (ev_const rfl)
  exact ev_pos rfl (ev_call (within_impl _ _ _) (ev_const rfl))

/-! A list of containers: none twice. -/
theorem idxC_range (p : C → Bool) : ∀ (l : List C) (i : Nat), idxC p l i = -1 ∨ ((i : Int) ≤ idxC p l i ∧ idxC p l i < (i + l.length : Nat))
  | [], i => Or.inl rfl
  | x :: l, i => by
    unfold idxC
    by_cases h : p x = true
    · rw [if_pos h]; right; simp only [List.length_cons]; omega
    · rw [if_neg h]
      rcases idxC_range p l (i + 1) with h1 | h1
      · exact Or.inl h1
      · right; simp only [List.length_cons]; omega
theorem idxC_app (p : C → Bool) : ∀ (l m : List C) (i : Nat), idxC p (l ++ m) i = if idxC p l i < 0 then idxC p m (i + l.length) else idxC p l i
  | [], m, i => by simp [idxC]
  | x :: l, m, i => by
    rw [List.cons_append]
    unfold idxC
    by_cases h : p x = true
    · rw [if_pos h, if_pos h, if_neg (by omega)]
    · rw [if_neg h, if_neg h, idxC_app p l m (i + 1)]
      simp only [List.length_cons]
      rw [show i + 1 + l.length = i + (l.length + 1) by omega]
      cases m with
      | nil => rfl
      | cons y m => rfl
theorem findc_l (l : List C) (id : ByteArray) (hn : l.length ≤ 9223372036854775807) : ∀ d i, i + d = l.length → Ev (fun k => spec_l2Find.l0 k l id (i : Int)) (idxC (sameId id) (l.drop i) i) := by
  intro d
  induction d with
  | zero =>
    intro i hi
    refine Ev.step (fun k => by simp only [spec_l2Find.l0]; rfl) ?_
    refine ev_neg (by omega) (ev_const ?_)
    rw [List.drop_of_length_le (by omega)]; rfl
  | succ d ih =>
    intro i hi
    have hlt : i < l.length := by omega
    refine Ev.step (fun k => by simp only [spec_l2Find.l0]; rfl) ?_
    refine ev_pos (by omega) (ev_pos (by omega) ?_)
    rw [rd_c l i hlt, wsucc hlt hn, List.drop_eq_getElem_cons hlt]
    unfold idxC sameId
    by_cases h : l[i].f0.toList = id.toList
    · refine ev_eq (ev_pos h (ev_const rfl)) ?_
      rw [if_pos (by simpa using h)]
    · refine ev_eq (ev_neg h (ih (i + 1) (by omega))) ?_
      rw [if_neg (by simpa using h)]; rfl
theorem findc_spec (l : List C) (id : ByteArray) (hn : l.length ≤ 9223372036854775807) : Ev (fun k => spec_l2Find.f k l id) (idxC (sameId id) l 0) := by
  unfold spec_l2Find.f
  exact findc_l l id hn l.length 0 (by omega)
def lst : List C → List C → Bool
  | _, [] => true
  | pre, x :: xs => okCont x && (decide (idxC (sameId x.f0) pre 0 < 0) && lst (pre ++ [x]) xs)
def okList (l : List C) : Bool := lst [] l && decide ((l.length : Int) ≤ 12)
theorem list_l (l : List C) (hn : l.length ≤ 1048576) : ∀ d i, i + d = l.length → i ≤ 13 → Ev (fun k => spec_l2List.l0 k l (i : Int)) (lst (l.take i) (l.drop i) && decide ((l.length : Int) ≤ 12)) := by
  intro d
  induction d with
  | zero =>
    intro i hi h13
    refine Ev.step (fun k => by simp only [spec_l2List.l0]; rfl) ?_
    refine ev_neg (by omega) (Ev.step (fun k => by simp only [spec_l2List.j1]; rfl) ?_)
    refine ev_neg (by simp) (ev_const ?_)
    rw [List.drop_of_length_le (by omega)]; rfl
  | succ d ih =>
    intro i hi h13
    have hlt : i < l.length := by omega
    refine Ev.step (fun k => by simp only [spec_l2List.l0]; rfl) ?_
    refine ev_pos (by omega) (Ev.step (fun k => by simp only [spec_l2List.j1]; rfl) ?_)
    by_cases h12 : (i : Int) ≤ 12
    · refine ev_pos (by simpa using h12) (ev_pos (by omega) (ev_pos (by omega) ?_))
      rw [rd_c l i hlt, wsucc hlt (by omega), List.drop_eq_getElem_cons hlt]
      unfold lst
      refine Ev.bind (cont_spec l[i]) ?_
      cases okCont l[i]
      · exact ev_neg (by simp) (ev_const rfl)
      refine ev_pos rfl (Ev.bind (findc_spec l l[i].f0 (by omega)) ?_)
      have e : idxC (sameId l[i].f0) l 0 = if idxC (sameId l[i].f0) (l.take i) 0 < 0 then (i : Int) else idxC (sameId l[i].f0) (l.take i) 0 := by
        have hs : l = l.take i ++ (l[i] :: l.drop (i + 1)) := by rw [← List.drop_eq_getElem_cons hlt, List.take_append_drop]
        have h1 := idxC_app (sameId l[i].f0) (l.take i) (l[i] :: l.drop (i + 1)) 0
        rw [← hs] at h1
        rw [h1]
        have h2 : idxC (sameId l[i].f0) (l[i] :: l.drop (i + 1)) (0 + (l.take i).length) = (i : Int) := by
          unfold idxC
          rw [if_pos (by simp [sameId]), List.length_take]
          omega
        rw [h2]
      rw [e]
      by_cases hc : idxC (sameId l[i].f0) (l.take i) 0 < 0
      · rw [if_pos hc, decide_eq_true hc]
        have h2 := ih (i + 1) (by omega) (by omega)
        rw [List.take_succ_eq_append_getElem hlt] at h2
        exact ev_pos rfl h2
      · rw [if_neg hc, decide_eq_false hc]
        have hr := idxC_range (sameId l[i].f0) (l.take i) 0
        rw [List.length_take] at hr
        exact ev_neg (by omega) (ev_const rfl)
    · refine ev_eq (ev_neg (by simpa using h12) (ev_const rfl)) ?_
      rw [decide_eq_false (by omega), Bool.and_false]
theorem list_spec (l : List C) (hn : l.length ≤ 1048576) : Ev (fun k => spec_l2List.f k l) (okList l) := by
  unfold spec_l2List.f
  exact list_l l hn l.length 0 (by omega) (by omega)
theorem conts_l (l : List C) (hn : l.length ≤ 1048576) : ∀ d i, i + d = l.length → Ev (fun k => impl_IsValidContainers.l0 k l l (l.length : Int) (i : Int)) (lst (l.take i) (l.drop i) && decide ((l.length : Int) ≤ 12)) := by
  intro d
  induction d with
  | zero =>
    intro i hi
    refine Ev.step (fun k => by simp only [impl_IsValidContainers.l0]; rfl) ?_
    refine ev_neg (by omega) (ev_const ?_)
    rw [List.drop_of_length_le (by omega)]; rfl
  | succ d ih =>
    intro i hi
    have hlt : i < l.length := by omega
    refine Ev.step (fun k => by simp only [impl_IsValidContainers.l0]; rfl) ?_
    refine ev_pos (by omega) (ev_pos (by omega) (ev_pos (by omega) ?_))
    rw [rd_c l i hlt, wsucc hlt (by omega), List.drop_eq_getElem_cons hlt]
    unfold lst
    refine Ev.bind (cont_impl l[i]) ?_
    cases okCont l[i]
    · exact ev_neg (by simp) (ev_const rfl)
    refine ev_pos rfl (ev_pos (by omega) (ev_call rfl ?_))
    rw [Int.toNat_natCast]
    by_cases hc : idxC (sameId l[i].f0) (l.take i) 0 < 0
    · rw [decide_eq_true hc]
      have h2 := ih (i + 1) (by omega)
      rw [List.take_succ_eq_append_getElem hlt] at h2
      exact ev_neg (by omega) h2
    · rw [decide_eq_false hc]
      exact ev_pos (by omega) (ev_const rfl)
theorem conts_impl (l : List C) (hn : l.length ≤ 1048576) : Ev (fun k => impl_IsValidContainers.f k l) (okList l) := by
  unfold impl_IsValidContainers.f
  exact conts_l l hn l.length 0 (by omega)
end Go.Proofs.Ytgeakpogmjbjkaa.UC
