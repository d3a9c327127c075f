/- UTab, UYard, UYardMem, UBelow, UBadL, USort, UPut, UBad0, UArr, UPush, UMark, UMarkH, UBestP, as one text. -/
import Derived.Test.YtmmkpaoibekmjaaPx0
import Derived.Test.YtmmkpaoibekmjaaPx1
import Derived.Test.YtmmkpaoibekmjaaPx10
import Derived.Test.YtmmkpaoibekmjaaPx11
import Derived.Test.YtmmkpaoibekmjaaPx14
import Derived.Test.YtmmkpaoibekmjaaPx15
import Derived.Test.YtmmkpaoibekmjaaPx16
import Derived.Test.YtmmkpaoibekmjaaPx17
import Derived.Test.YtmmkpaoibekmjaaPx18
import Derived.Test.YtmmkpaoibekmjaaPx19
import Derived.Test.YtmmkpaoibekmjaaPx2
import Derived.Test.YtmmkpaoibekmjaaPx20
import Derived.Test.YtmmkpaoibekmjaaPx21
import Derived.Test.YtmmkpaoibekmjaaPx22
import Derived.Test.YtmmkpaoibekmjaaPx24
import Derived.Test.YtmmkpaoibekmjaaPx3
import Derived.Test.YtmmkpaoibekmjaaPx4
import Derived.Test.YtmmkpaoibekmjaaPx5
import Derived.Test.YtmmkpaoibekmjaaPx6
import Derived.Test.YtmmkpaoibekmjaaPx7
import Derived.Test.YtmmkpaoibekmjaaPx8
import Derived.Test.YtmmkpaoibekmjaaPx9
import Derived.Test.YtmmkpaoibekmjaaU
namespace Go.Proofs.Ytmmkpaoibekmjaa.UT
open Go.RowKit Go.Proofs.YtmmkpaoibekmjaaW.PrintWords Go.Proofs.YtmmkpaoibekmjaaW.PrintMore Go.Proofs.Ytmmkpaoibekmjaa.P Go.Proofs.Ytmmkpaoibekmjaa.U
set_option linter.unusedVariables false

theorem rd_l1 (l : List (List Int)) (i : Nat) (h : i < l.length) : rd_L1 l (i : Int) = l[i] := by
  unfold rd_L1
  rw [Int.toNat_natCast]
  exact getD_at l i _ h

/-- What 'sz' leaves of n; -1 if it is too much. -/
def szT (l : List (List Int)) (n : Int) : Int := l.foldl (fun m x => if m < 0 then m else if m - (x.length : Int) < 0 then -1 else m - (x.length : Int)) n
theorem szT_neg (l : List (List Int)) : szT l (-1) = -1 := by
  unfold szT
  induction l with
  | nil => rfl
  | cons x l ih => rw [List.foldl_cons, if_pos (by omega)]; exact ih
theorem szT_le : ∀ (l : List (List Int)) (n : Int), 0 ≤ szT l n → ∀ x, x ∈ l → (x.length : Int) ≤ n
  | [], _, _, x, hx => by cases hx
  | y :: l, n, h, x, hx => by
    unfold szT at h
    rw [List.foldl_cons] at h
    change 0 ≤ szT l _ at h
    by_cases h0 : n < 0
    · rw [if_pos h0] at h
      exact absurd h (by
        have hk : ∀ (l : List (List Int)) (n : Int), n < 0 → szT l n < 0 := by
          intro l
          induction l with
          | nil => intro n hn; exact hn
          | cons z l ih => intro n hn; unfold szT; rw [List.foldl_cons, if_pos hn]; exact ih n hn
        have := hk l n h0
        omega)
    · rw [if_neg h0] at h
      by_cases h1 : n - (y.length : Int) < 0
      · rw [if_pos h1, szT_neg] at h
        omega
      · rw [if_neg h1] at h
        rcases List.mem_cons.1 hx with rfl | hx
        · omega
        · have := szT_le l _ h x hx
          omega
theorem sz1 (l : List Int) (n : Int) (hn : 0 ≤ n ∧ n ≤ 1048576) (hl : l.length ≤ 9223372036854775807) : laws_szIntS.f l n = some (if n - (l.length : Int) < 0 then -1 else n - (l.length : Int)) := by
  unfold laws_szIntS.f
  rw [wr (by omega) (by omega)]
  split <;> rfl
theorem sz_l (l : List (List Int)) (hl : l.length ≤ 9223372036854775807) (hx : ∀ x, x ∈ l → x.length ≤ 9223372036854775807) : ∀ d i (n : Int), i + d = l.length → 0 ≤ n ∧ n ≤ 1048576 → Ev (fun k => laws_szIntSS.l0 k l n (i : Int)) (szT (l.drop i) n) := by
  intro d
  induction d with
  | zero =>
    intro i n hi hn
    refine Ev.step (fun k => by simp only [laws_szIntSS.l0]; rfl) ?_
    refine ev_neg (by omega) (ev_const ?_)
    rw [List.drop_of_length_le (by omega)]; rfl
  | succ d ih =>
    intro i n hi hn
    have hlt : i < l.length := by omega
    refine Ev.step (fun k => by simp only [laws_szIntSS.l0]; rfl) ?_
    refine ev_pos (by omega) (ev_pos (by omega) ?_)
    rw [rd_l1 l i hlt, wsucc hlt hl, List.drop_eq_getElem_cons hlt]
    refine ev_call (sz1 _ n hn (hx _ (List.getElem_mem hlt))) ?_
    by_cases h1 : n - (l[i].length : Int) < 0
    · refine ev_eq (ev_pos (by rw [if_pos h1]; omega) (ev_const rfl)) ?_
      unfold szT
      rw [List.foldl_cons, if_neg (by omega), if_pos h1]
      exact (szT_neg _).symm
    · have e2 : szT (l[i] :: l.drop (i + 1)) n = szT (l.drop (i + 1)) (n - (l[i].length : Int)) := by
        unfold szT
        rw [List.foldl_cons, if_neg (by omega), if_neg h1]
      rw [e2, if_neg h1]
      exact ev_neg h1 (ih (i + 1) _ (by omega) (by omega))
/-- 'sz' of rows: it is small, or it is told as too much. -/
theorem sz_ev (l : List (List Int)) (hl : l.length ≤ 9223372036854775807) (hx : ∀ x, x ∈ l → x.length ≤ 9223372036854775807) :
    ∃ n, Ev (fun k => laws_szIntSS.f k l 1048576) n ∧ n ≤ 1048576 ∧ (0 ≤ n → l.length ≤ 1048576 ∧ ∀ x, x ∈ l → x.length ≤ 1048576) := by
  unfold laws_szIntSS.f
  have e : wrap64 (1048576 - (l.length : Int)) = 1048576 - (l.length : Int) := wr (by omega) (by omega)
  rw [e]
  by_cases h : 1048576 - (l.length : Int) < 0
  · exact ⟨-1, ev_pos h (ev_const rfl), by omega, fun h => by omega⟩
  · refine ⟨_, ev_neg h (sz_l l hl hx l.length 0 _ (by omega) (by omega)), ?_, fun h0 => ⟨by omega, fun x hx => ?_⟩⟩
    · have hk : ∀ (l : List (List Int)) (n : Int), n ≤ 1048576 → szT l n ≤ 1048576 := by
        intro l
        induction l with
        | nil => intro n hn; exact hn
        | cons z l ih =>
          intro n hn
          unfold szT
          rw [List.foldl_cons]
          refine ih _ ?_
          split
          · exact hn
          · split <;> omega
      exact hk _ _ (by omega)
    · have := szT_le _ _ h0 x hx
      omega

theorem to1_l (l : List Int) (hn : l.length ≤ 1048576) : ∀ d i (acc : List Int), i + d = l.length → acc.length = l.length → acc.take i = l.take i → Ev (fun k => laws_toIntS.l0 k l acc (i : Int)) l := by
  intro d
  induction d with
  | zero =>
    intro i acc hi ha ht
    refine Ev.step (fun k => by simp only [laws_toIntS.l0]; rfl) (ev_neg (by omega) (ev_const ?_))
    rw [List.take_of_length_le (by omega), List.take_of_length_le (by omega)] at ht
    rw [ht]
  | succ d ih =>
    intro i acc hi ha ht
    have hlt : i < l.length := by omega
    refine Ev.step (fun k => by simp only [laws_toIntS.l0]; rfl) ?_
    refine ev_pos (by omega) (ev_pos (by omega) (ev_pos (by omega) ?_))
    rw [wsucc hlt (by omega), Int.toNat_natCast, rd_at l i hlt]
    refine ih (i + 1) _ (by omega) (by rw [List.length_set]; exact ha) ?_
    rw [fill_step ht (by omega), List.take_succ_eq_append_getElem hlt]
theorem to1 (l : List Int) (hn : l.length ≤ 1048576) : Ev (fun k => laws_toIntS.f k l) l := by
  unfold laws_toIntS.f
  refine ev_pos (by omega) (ev_pos (by omega) ?_)
  exact to1_l l hn l.length 0 _ (by omega) (by simp) (by simp)
theorem to_l (l : List (List Int)) (hn : l.length ≤ 1048576) (hx : ∀ x, x ∈ l → x.length ≤ 1048576) : ∀ d i (acc : List (List Int)), i + d = l.length → acc.length = l.length → acc.take i = l.take i → Ev (fun k => laws_toIntSS.l0 k l acc (i : Int)) l := by
  intro d
  induction d with
  | zero =>
    intro i acc hi ha ht
    refine Ev.step (fun k => by simp only [laws_toIntSS.l0]; rfl) (ev_neg (by omega) (ev_const ?_))
    rw [List.take_of_length_le (by omega), List.take_of_length_le (by omega)] at ht
    rw [ht]
  | succ d ih =>
    intro i acc hi ha ht
    have hlt : i < l.length := by omega
    refine Ev.step (fun k => by simp only [laws_toIntSS.l0]; rfl) ?_
    refine ev_pos (by omega) (ev_pos (by omega) ?_)
    rw [wsucc hlt (by omega), Int.toNat_natCast, rd_l1 l i hlt]
    refine Ev.bind (to1 _ (hx _ (List.getElem_mem hlt))) (ev_pos (by omega) ?_)
    refine ih (i + 1) _ (by omega) (by rw [List.length_set]; exact ha) ?_
    rw [fill_step ht (by omega), List.take_succ_eq_append_getElem hlt]
theorem to_ev (l : List (List Int)) (hn : l.length ≤ 1048576) (hx : ∀ x, x ∈ l → x.length ≤ 1048576) : Ev (fun k => laws_toIntSS.f k l) l := by
  unfold laws_toIntSS.f
  refine ev_pos (by omega) (ev_pos (by omega) ?_)
  exact to_l l hn hx l.length 0 _ (by omega) (by simp) (by simp)

theorem eq1_l (l : List Int) (hn : l.length ≤ 9223372036854775807) : ∀ d i, i + d = l.length → Ev (fun k => laws_eqIntS.l0 k l l (i : Int)) true := by
  intro d
  induction d with
  | zero => intro i hi; exact Ev.step (fun k => by simp only [laws_eqIntS.l0]; rfl) (ev_neg (by omega) (ev_const rfl))
  | succ d ih =>
    intro i hi
    refine Ev.step (fun k => by simp only [laws_eqIntS.l0]; rfl) ?_
    refine ev_pos (by omega) (ev_pos (by omega) (ev_pos (by omega) (ev_pos (by simp) ?_)))
    rw [wsucc (show i < l.length by omega) (by omega)]
    exact ih (i + 1) (by omega)
theorem eq1 (l : List Int) (hn : l.length ≤ 9223372036854775807) : Ev (fun k => laws_eqIntS.f k l l) true := by
  unfold laws_eqIntS.f
  exact ev_pos rfl (eq1_l l hn l.length 0 (by omega))
theorem eq_l (l : List (List Int)) (hn : l.length ≤ 9223372036854775807) (hx : ∀ x, x ∈ l → x.length ≤ 9223372036854775807) : ∀ d i, i + d = l.length → Ev (fun k => laws_eqIntSS.l0 k l l (i : Int)) true := by
  intro d
  induction d with
  | zero => intro i hi; exact Ev.step (fun k => by simp only [laws_eqIntSS.l0]; rfl) (ev_neg (by omega) (ev_const rfl))
  | succ d ih =>
    intro i hi
    have hlt : i < l.length := by omega
    refine Ev.step (fun k => by simp only [laws_eqIntSS.l0]; rfl) ?_
    refine ev_pos (by omega) (ev_pos (by omega) (ev_pos (by omega) ?_))
    rw [rd_l1 l i hlt]
    refine Ev.bind (eq1 _ (hx _ (List.getElem_mem hlt))) (ev_pos rfl ?_)
    rw [wsucc hlt hn]
    exact ih (i + 1) (by omega)
theorem eq_ev (l : List (List Int)) (hn : l.length ≤ 9223372036854775807) (hx : ∀ x, x ∈ l → x.length ≤ 9223372036854775807) : Ev (fun k => laws_eqIntSS.f k l l) true := by
  unfold laws_eqIntSS.f
  exact ev_pos rfl (eq_l l hn hx l.length 0 (by omega))

theorem in_spec (a b c : Int) : spec_l1In.f a b c = some (inr a b c) := by
  unfold spec_l1In.f inr
  by_cases h : b ≤ a <;> simp [h]
theorem has_l (l : List Int) (v : Int) (hn : l.length ≤ 9223372036854775807) : ∀ d i, i + d = l.length → Ev (fun k => spec_l1Has.l0 k l v (i : Int)) ((l.drop i).contains v) := by
  intro d
  induction d with
  | zero =>
    intro i hi
    refine Ev.step (fun k => by simp only [spec_l1Has.l0]; rfl) (ev_neg (by omega) (ev_const ?_))
    rw [List.drop_of_length_le (by omega)]; rfl
  | succ d ih =>
    intro i hi
    have hlt : i < l.length := by omega
    refine Ev.step (fun k => by simp only [spec_l1Has.l0]; rfl) ?_
    refine ev_pos (by omega) (ev_pos (by omega) ?_)
    rw [rd_at l i hlt, wsucc hlt hn, List.drop_eq_getElem_cons hlt, List.contains_cons]
    by_cases e : l[i] = v
    · exact ev_eq (ev_pos e (ev_const rfl)) (by simp [e])
    · exact ev_eq (ev_neg e (ih (i + 1) (by omega))) (by simp [Ne.symm e])
theorem has_ev (l : List Int) (v : Int) (hn : l.length ≤ 9223372036854775807) : Ev (fun k => spec_l1Has.f k l v) (l.contains v) := by
  unfold spec_l1Has.f
  exact has_l l v hn l.length 0 (by omega)
end Go.Proofs.Ytmmkpaoibekmjaa.UT
namespace Go.Proofs.Ytmmkpaoibekmjaa.UY
open Go.RowKit Go.Proofs.YtmmkpaoibekmjaaW.PrintWords Go.Proofs.YtmmkpaoibekmjaaW.PrintMore Go.Proofs.Ytmmkpaoibekmjaa.P Go.Proofs.Ytmmkpaoibekmjaa.U Go.Proofs.Ytmmkpaoibekmjaa.UT
set_option linter.unusedVariables false

theorem good_args {s : S24} (h : G24 s) : s.f0.length ≤ 9223372036854775807 ∧ ∀ x, x ∈ s.f0 → x.length ≤ 9223372036854775807 := ⟨h.1, fun x hx => (h.2 x hx).1⟩
theorem sz_yard (l : List (List Int)) (hl : l.length ≤ 9223372036854775807) (hx : ∀ x, x ∈ l → x.length ≤ 9223372036854775807) :
    ∃ n, Ev (fun k => laws_szYard.f k l 1048576) n ∧ (0 ≤ n → l.length ≤ 1048576 ∧ ∀ x, x ∈ l → x.length ≤ 1048576) := by
  obtain ⟨n, h1, h2, h3⟩ := sz_ev l hl hx
  unfold laws_szYard.f
  by_cases hn : n < 0
  · exact ⟨-1, Ev.bind h1 (ev_pos hn (ev_const rfl)), fun h => by omega⟩
  · exact ⟨n, Ev.bind h1 (ev_neg hn (ev_const rfl)), h3⟩
theorem to_yard (l : List (List Int)) (hn : l.length ≤ 1048576) (hx : ∀ x, x ∈ l → x.length ≤ 1048576) : Ev (fun k => laws_toYard.f k l) l := by
  unfold laws_toYard.f
  exact Ev.bind (to_ev l hn hx) (ev_const rfl)
theorem eq_yard (l : List (List Int)) (hn : l.length ≤ 9223372036854775807) (hx : ∀ x, x ∈ l → x.length ≤ 9223372036854775807) : Ev (fun k => laws_eqYard.f k l l) true := by
  unfold laws_eqYard.f
  exact (Ev.bind (eq_ev l hn hx) (ev_pos rfl (ev_const rfl)))

theorem contains_rev (s : List Int) (n : Int) : s.reverse.contains n = s.contains n := by
  rw [Bool.eq_iff_iff]; simp
/-- The reference's loops: what is left of the check. -/
theorem good_l (l : List (List Int)) (hn : l.length ≤ 9223372036854775807) (hx : ∀ x, x ∈ l → x.length ≤ 1048576) : ∀ d i (s : List Int), i + d = l.length → s.length ≤ i * 1048576 → l.length ≤ 1048576 →
    Ev (fun k => spec_l5Good.l0 k s.reverse (i : Int) l) ((chkRows 4 (l.drop i) s).isSome) := by
  intro d
  induction d with
  | zero =>
    intro i s hi hs _
    refine Ev.step (fun k => by simp only [spec_l5Good.l0]; rfl) ?_
    refine ev_neg (by omega) (ev_const ?_)
    rw [List.drop_of_length_le (by omega)]; rfl
  | succ d ih =>
    intro i s hi hs hll
    have hlt : i < l.length := by omega
    refine Ev.step (fun k => by simp only [spec_l5Good.l0]; rfl) ?_
    refine ev_pos (by omega) (ev_pos (by omega) ?_)
    rw [rd_l1 l i hlt, List.drop_eq_getElem_cons hlt]
    have hxi := hx _ (List.getElem_mem hlt)
    unfold chkRows
    by_cases hc : (l[i].length : Int) ≤ 4
    · rw [if_pos hc]
      refine ev_neg (by omega) ?_
      have inner : ∀ e j (s : List Int), j + e = l[i].length → s.length ≤ i * 1048576 + j → Ev (fun k => spec_l5Good.l1 k s.reverse (i : Int) (j : Int) l) (((chkRow (l[i].drop j) s).bind (chkRows 4 (l.drop (i + 1)))).isSome) := by
        intro e
        induction e with
        | zero =>
          intro j s hj hs
          refine Ev.step (fun k => by simp only [spec_l5Good.l1]; rfl) ?_
          refine ev_pos (by omega) (ev_pos (by omega) ?_)
          rw [rd_l1 l i hlt, wsucc hlt hn]
          refine ev_neg (by omega) ?_
          rw [List.drop_of_length_le (by omega)]
          exact ih (i + 1) s (by omega) (by omega) hll
        | succ e ihe =>
          intro j s hj hs
          have hjt : j < l[i].length := by omega
          refine Ev.step (fun k => by simp only [spec_l5Good.l1]; rfl) ?_
          refine ev_pos (by omega) (ev_pos (by omega) ?_)
          rw [rd_l1 l i hlt, rd_at _ j hjt, wsucc hjt (by omega), List.drop_eq_getElem_cons hjt]
          refine ev_pos (by omega) (ev_pos (by omega) ?_)
          refine ev_call (in_spec _ _ _) ?_
          cases h1 : inr l[i][j] 1 99
          · exact ev_eq (ev_neg (by simp) (ev_const rfl)) (by rw [chkRow_bad (by rw [h1]; rfl)]; rfl)
          refine ev_pos rfl ?_
          have hh := has_ev s.reverse l[i][j] (by rw [List.length_reverse]; omega)
          rw [contains_rev] at hh
          refine Ev.bind hh ?_
          cases h2 : s.contains l[i][j]
          · refine ev_neg (by simp) (ev_pos (by rw [List.length_reverse]; omega) ?_)
            rw [chkRow_ok (by rw [h1, h2]; rfl)]
            have e2 := ihe (j + 1) (l[i][j] :: s) (by omega) (by rw [List.length_cons]; omega)
            rw [List.reverse_cons] at e2
            exact e2
          · exact ev_eq (ev_pos rfl (ev_const rfl)) (by rw [chkRow_bad (by rw [h1, h2]; rfl)]; rfl)
      exact inner l[i].length 0 s (by omega) (Nat.le_trans hs (Nat.le_add_right _ _))
    · rw [if_neg hc]
      exact ev_pos (by omega) (ev_const rfl)
theorem good_spec (l : List (List Int)) (hn : l.length ≤ 1048576) (hx : ∀ x, x ∈ l → x.length ≤ 1048576) : Ev (fun k => spec_l5Good.f k l) (okYard l) := by
  unfold spec_l5Good.f okYard
  refine ev_call (in_spec _ _ _) ?_
  cases h2 : inr (l.length : Int) 1 6
  · exact ev_neg (by simp) (ev_const rfl)
  · exact ev_pos rfl (good_l l (by omega) hx l.length 0 [] (by omega) (by simp) hn)
end Go.Proofs.Ytmmkpaoibekmjaa.UY
namespace Go.Proofs.Ytmmkpaoibekmjaa.UY
open Go.RowKit Go.Proofs.YtmmkpaoibekmjaaW.PrintWords Go.Proofs.YtmmkpaoibekmjaaW.PrintMore Go.Proofs.Ytmmkpaoibekmjaa.P Go.Proofs.Ytmmkpaoibekmjaa.U Go.Proofs.Ytmmkpaoibekmjaa.UT
set_option linter.unusedVariables false

/-! A valid yard. -/
theorem chkRow_mem : ∀ (l s t : List Int), chkRow l s = some t → ∀ n, n ∈ l → inr n 1 99 = true
  | [], _, _, _, n, hn => by cases hn
  | x :: l, s, t, h, n, hn => by
    unfold chkRow at h
    split at h
    · rename_i hc
      rw [Bool.and_eq_true] at hc
      rcases List.mem_cons.mp hn with rfl | hn
      · exact hc.1
      · exact chkRow_mem l _ _ h n hn
    · cases h
theorem chkRows_mem (cap : Int) : ∀ (l : List (List Int)) (s t : List Int), chkRows cap l s = some t → ∀ x, x ∈ l → (x.length : Int) ≤ cap ∧ ∀ n, n ∈ x → inr n 1 99 = true
  | [], _, _, _, x, hx => by cases hx
  | r :: l, s, t, h, x, hx => by
    unfold chkRows at h
    split at h
    · rename_i hc
      cases h1 : chkRow r s with
      | none => rw [h1] at h; cases h
      | some u =>
        rw [h1] at h
        rcases List.mem_cons.mp hx with rfl | hx
        · exact ⟨hc, chkRow_mem _ _ _ h1⟩
        · exact chkRows_mem cap l _ _ h x hx
    · cases h
theorem okYard_mem {l : List (List Int)} (h : okYard l = true) : (1 ≤ l.length ∧ l.length ≤ 6) ∧ ∀ x, x ∈ l → x.length ≤ 4 ∧ ∀ n, n ∈ x → 1 ≤ n ∧ n ≤ 99 := by
  unfold okYard at h
  rw [Bool.and_eq_true, inr_iff] at h
  obtain ⟨h1, h2⟩ := h
  obtain ⟨t, ht⟩ := Option.isSome_iff_exists.mp h2
  refine ⟨⟨by omega, by omega⟩, fun x hx => ?_⟩
  obtain ⟨h3, h4⟩ := chkRows_mem 4 l _ _ ht x hx
  exact ⟨by omega, fun n hn => inr_iff.mp (h4 n hn)⟩

theorem rdl_mem {l : List (List Int)} {s : Int} (h0 : 0 ≤ s) (h1 : s < (l.length : Int)) : rd_L1 l s ∈ l := by
  obtain ⟨n, rfl⟩ := Int.eq_ofNat_of_zero_le h0
  have h : n < l.length := by omega
  rw [show rd_L1 l (n : Int) = l[n] from rd_l1 l n h]
  exact List.getElem_mem h
end Go.Proofs.Ytmmkpaoibekmjaa.UY
namespace Go.Proofs.Ytmmkpaoibekmjaa.UY
open Go.RowKit Go.Proofs.YtmmkpaoibekmjaaW.PrintWords Go.Proofs.YtmmkpaoibekmjaaW.PrintMore Go.Proofs.Ytmmkpaoibekmjaa.P Go.Proofs.Ytmmkpaoibekmjaa.U Go.Proofs.Ytmmkpaoibekmjaa.UT
set_option linter.unusedVariables false

def cntLess (v : Int) : List Int → Int → Int
  | [], s => s
  | x :: l, s => cntLess v l (if x < v then wrap64 (s + 1) else s)
theorem below_l (row : List Int) (t : Nat) (ht : t < row.length) (hn : row.length ≤ 1048576) : ∀ d j (s : Int), j + d = t → Ev (fun k => spec_l8Below.l0 k row (t : Int) s (j : Int)) (cntLess (row.getD t 0) ((row.take t).drop j) s) := by
  intro d
  induction d with
  | zero =>
    intro j s hj
    refine Ev.step (fun k => by simp only [spec_l8Below.l0]; rfl) ?_
    refine ev_neg (by omega) (ev_const ?_)
    rw [List.drop_of_length_le (by rw [List.length_take]; omega)]; rfl
  | succ d ih =>
    intro j s hj
    have hjt : j < (row.take t).length := by rw [List.length_take]; omega
    refine Ev.step (fun k => by simp only [spec_l8Below.l0]; rfl) ?_
    rw [rd_at row j (by omega), rd_at row t ht, wsucc (show j < row.length by omega) (by omega), List.drop_eq_getElem_cons hjt, getD_at _ _ _ ht]
    refine ev_pos (by omega) (ev_pos (by omega) (ev_pos (by omega) (ev_pos (by omega) (ev_pos (by omega) ?_))))
    have e : (row.take t)[j] = row[j] := by simp
    rw [e]
    unfold cntLess
    have h := ih (j + 1)
    rw [getD_at _ _ _ ht] at h
    by_cases hc : row[j] < row[t]
    · rw [if_pos hc]; exact ev_pos hc (h _ (by omega))
    · rw [if_neg hc]; exact ev_neg hc (h _ (by omega))
theorem below_ev (row : List Int) (t : Nat) (ht : t < row.length) (hn : row.length ≤ 1048576) : Ev (fun k => spec_l8Below.f k row (t : Int)) (cntLess (row.getD t 0) (row.take t) 0) := by
  unfold spec_l8Below.f
  exact below_l row t ht hn t 0 0 (by omega)
end Go.Proofs.Ytmmkpaoibekmjaa.UY
namespace Go.Proofs.Ytmmkpaoibekmjaa.UY
open Go.RowKit Go.Proofs.YtmmkpaoibekmjaaW.PrintWords Go.Proofs.YtmmkpaoibekmjaaW.PrintMore Go.Proofs.Ytmmkpaoibekmjaa.P Go.Proofs.Ytmmkpaoibekmjaa.U Go.Proofs.Ytmmkpaoibekmjaa.UT
set_option linter.unusedVariables false

/-- Whether a number stands above a smaller one. -/
def bad (row : List Int) (j : Nat) : Bool := (row.take j).any fun x => decide (x < row.getD j 0)
theorem cnt_any (v : Int) : ∀ (l : List Int) (s : Int), 0 ≤ s → s + l.length ≤ 9223372036854775807 →
    s ≤ cntLess v l s ∧ cntLess v l s ≤ s + l.length ∧ (l.any (fun x => decide (x < v)) = true → s < cntLess v l s) ∧ (l.any (fun x => decide (x < v)) = false → cntLess v l s = s)
  | [], s, h0, h1 => by simp [cntLess]
  | x :: l, s, h0, h1 => by
    rw [List.length_cons] at h1
    unfold cntLess
    rw [List.any_cons, List.length_cons]
    by_cases h : x < v
    · rw [if_pos h, wr (by omega) (by omega), decide_eq_true h]
      obtain ⟨i1, i2, i3, i4⟩ := cnt_any v l (s + 1) (by omega) (by omega)
      exact ⟨by omega, by omega, fun _ => by omega, fun hh => by simp at hh⟩
    · rw [if_neg h, decide_eq_false h]
      obtain ⟨i1, i2, i3, i4⟩ := cnt_any v l s h0 (by omega)
      exact ⟨by omega, by omega, fun hh => i3 (by simpa using hh), fun hh => i4 (by simpa using hh)⟩
theorem bad_spec (row : List Int) (t : Nat) (ht : t < row.length) (hn : row.length ≤ 1048576) :
    ∃ c, Ev (fun k => spec_l8Below.f k row (t : Int)) c ∧ (c == 0) = !bad row t ∧ decide (c > 0) = bad row t := by
  refine ⟨_, below_ev row t ht hn, ?_⟩
  obtain ⟨h1, h2, h3, h4⟩ := cnt_any (row.getD t 0) (row.take t) 0 (by omega) (by rw [List.length_take]; omega)
  unfold bad
  cases hb : (row.take t).any fun x => decide (x < row.getD t 0)
  · rw [h4 hb]; simp
  · have h5 := h3 hb
    have h6 : ¬ cntLess (row.getD t 0) (row.take t) 0 = 0 := by omega
    generalize cntLess (row.getD t 0) (row.take t) 0 = c at h5 h6 ⊢
    exact ⟨by simp [h6], by simp; omega⟩
theorem mn_lt (m x v : Int) : mn m x < v ↔ m < v ∨ x < v := by
  unfold mn
  split <;> omega
theorem mnL_lt (v : Int) : ∀ (l : List Int) (m : Int), mnL l m < v ↔ m < v ∨ l.any (fun x => decide (x < v)) = true
  | [], m => by simp [mnL]
  | x :: l, m => by
    unfold mnL
    rw [mnL_lt v l, mn_lt, List.any_cons, Bool.or_eq_true, decide_eq_true_iff, or_assoc]
theorem min_bad (row : List Int) (j : Nat) (h0 : 0 < j) (hj : j < row.length) : ∃ m, slices_Min_int_int.f (row.take j) = some m ∧ decide (m < row.getD j 0) = bad row j := by
  have hlen : (row.take j).length = j := by rw [List.length_take]; omega
  unfold bad
  cases hr : row.take j with
  | nil => rw [hr] at hlen; simp at hlen; omega
  | cons x l =>
    refine ⟨mnL l x, rfl, ?_⟩
    rw [Bool.eq_iff_iff, decide_eq_true_iff, mnL_lt, List.any_cons, Bool.or_eq_true, decide_eq_true_iff]
def blist (row : List Int) : Nat → Nat → List Int → List Int
  | 0, _, acc => acc
  | d + 1, j, acc => blist row d (j + 1) (if bad row j = true then acc ++ [row.getD j 0] else acc)
theorem bp_l (row : List Int) (hn : row.length ≤ 1048576) : ∀ d j (acc : List Int), j + d = row.length → acc.length ≤ j → Ev (fun k => impl_badlyPlaced.l0 k row acc row (row.length : Int) (j : Int)) (blist row d j acc) := by
  intro d
  induction d with
  | zero =>
    intro j acc hj ha
    exact Ev.step (fun k => by simp only [impl_badlyPlaced.l0]; rfl) (ev_neg (by omega) (ev_const rfl))
  | succ d ih =>
    intro j acc hj ha
    have hlt : j < row.length := by omega
    refine Ev.step (fun k => by simp only [impl_badlyPlaced.l0]; rfl) ?_
    refine ev_pos (by omega) (ev_pos (by omega) (ev_pos (by omega) ?_))
    rw [wsucc hlt (by omega), rd_at row j hlt]
    unfold blist
    by_cases h0 : j = 0
    · subst h0
      refine ev_neg (by omega) ?_
      have hb : bad row 0 = false := by simp [bad]
      rw [hb]
      exact ih 1 acc (by omega) (by omega)
    · obtain ⟨m, hm, hb⟩ := min_bad row j (by omega) hlt
      rw [getD_at _ _ _ hlt] at hb
      refine ev_pos (by omega) (ev_pos (by omega) (ev_call (by rw [Int.toNat_natCast]; exact hm) ?_))
      rw [getD_at _ _ _ hlt]
      by_cases hc : m < row[j]
      · rw [decide_eq_true hc] at hb
        rw [if_pos hb.symm]
        exact ev_pos hc (ev_pos (by omega) (ih (j + 1) _ (by omega) (by rw [List.length_append, List.length_singleton]; omega)))
      · rw [decide_eq_false hc] at hb
        rw [if_neg (by rw [← hb]; simp)]
        exact ev_neg hc (ih (j + 1) _ (by omega) (by omega))
theorem bp_ev (row : List Int) (hn : row.length ≤ 1048576) : Ev (fun k => impl_badlyPlaced.f k row) (blist row row.length 0 []) := by
  unfold impl_badlyPlaced.f
  exact bp_l row hn row.length 0 [] (by omega) (by simp)
end Go.Proofs.Ytmmkpaoibekmjaa.UY
namespace Go.Proofs.Ytmmkpaoibekmjaa.US
set_option linter.unusedVariables false
/-- A number put into a rising list, once. -/
def put : List Int → Int → List Int
  | [], n => [n]
  | x :: l, n => if x < n then x :: put l n else if x = n then x :: l else n :: x :: l
theorem put_mem (n y : Int) : ∀ (l : List Int), y ∈ put l n ↔ y = n ∨ y ∈ l
  | [] => by simp [put]
  | x :: l => by
    unfold put
    split
    · rw [List.mem_cons, put_mem n y l, List.mem_cons]; grind
    · split
      · rename_i h; subst h; simp
      · simp
theorem put_rising (n : Int) : ∀ (l : List Int), l.Pairwise (· < ·) → (put l n).Pairwise (· < ·)
  | [], _ => by simp [put]
  | x :: l, h => by
    obtain ⟨h1, h2⟩ := List.pairwise_cons.mp h
    unfold put
    split
    · rename_i hx
      refine List.pairwise_cons.mpr ⟨fun y hy => ?_, put_rising n l h2⟩
      rcases (put_mem n y l).mp hy with rfl | hy
      · exact hx
      · exact h1 y hy
    · split
      · exact h
      · rename_i hx hn
        refine List.pairwise_cons.mpr ⟨fun y hy => ?_, h⟩
        rcases List.mem_cons.mp hy with rfl | hy
        · omega
        · have := h1 y hy; omega
theorem put_len (n : Int) : ∀ (l : List Int), (put l n).length ≤ l.length + 1
  | [] => by simp [put]
  | x :: l => by
    unfold put
    split
    · rw [List.length_cons, List.length_cons]; have := put_len n l; omega
    · split <;> simp
theorem eq_of_mem : ∀ (a b : List Int), a.Pairwise (· < ·) → b.Pairwise (· < ·) → (∀ x, x ∈ a ↔ x ∈ b) → a = b
  | [], [], _, _, _ => rfl
  | [], y :: b, _, _, h => by have := (h y).mpr List.mem_cons_self; cases this
  | x :: a, [], _, _, h => by have := (h x).mp List.mem_cons_self; cases this
  | x :: a, y :: b, ha, hb, h => by
    obtain ⟨a1, a2⟩ := List.pairwise_cons.mp ha
    obtain ⟨b1, b2⟩ := List.pairwise_cons.mp hb
    have hxy : x = y := by
      rcases List.mem_cons.mp ((h x).mp List.mem_cons_self) with e | hx
      · exact e
      · rcases List.mem_cons.mp ((h y).mpr List.mem_cons_self) with e | hy
        · exact e.symm
        · have := b1 x hx; have := a1 y hy; omega
    subst hxy
    rw [eq_of_mem a b a2 b2 (fun z => ?_)]
    constructor
    · intro hz
      rcases List.mem_cons.mp ((h z).mp (List.mem_cons_of_mem _ hz)) with rfl | hz2
      · have := a1 z hz; omega
      · exact hz2
    · intro hz
      rcases List.mem_cons.mp ((h z).mpr (List.mem_cons_of_mem _ hz)) with rfl | hz2
      · have := b1 z hz; omega
      · exact hz2
theorem sort_rising (l : List Int) (h : l.Nodup) : (l.mergeSort fun x y => decide (x ≤ y)).Pairwise (· < ·) := by
  have h1 := List.pairwise_mergeSort (le := fun (x y : Int) => decide (x ≤ y)) (fun a b c h1 h2 => by simp at *; omega) (fun a b => by simp; omega) l
  have h2 : (l.mergeSort fun x y => decide (x ≤ y)).Nodup := ((List.mergeSort_perm l _).nodup_iff).mpr h
  exact (h1.and h2).imp (fun {a b} hab => by
    have h3 : a ≤ b := of_decide_eq_true hab.1
    have h4 : a ≠ b := hab.2
    omega)
/-- Numbers put one behind the other. -/
def puts : List Int → List Int → List Int
  | acc, [] => acc
  | acc, n :: l => puts (put acc n) l
theorem puts_mem (y : Int) : ∀ (l acc : List Int), y ∈ puts acc l ↔ y ∈ acc ∨ y ∈ l
  | [], acc => by simp [puts]
  | n :: l, acc => by rw [puts, puts_mem y l, put_mem, List.mem_cons]; grind
theorem puts_rising : ∀ (l acc : List Int), acc.Pairwise (· < ·) → (puts acc l).Pairwise (· < ·)
  | [], acc, h => h
  | n :: l, acc, h => puts_rising l _ (put_rising n acc h)
theorem puts_app : ∀ (a b acc : List Int), puts acc (a ++ b) = puts (puts acc a) b
  | [], b, acc => rfl
  | n :: a, b, acc => by rw [List.cons_append, puts, puts_app a b]; rfl
theorem puts_len : ∀ (l acc : List Int), (puts acc l).length ≤ acc.length + l.length
  | [], acc => by simp [puts]
  | n :: l, acc => by
    rw [puts, List.length_cons]
    have h1 := puts_len l (put acc n)
    have h2 := put_len n acc
    omega
theorem sort_puts (l : List Int) (h : l.Nodup) : (l.mergeSort fun x y => decide (x ≤ y)) = puts [] l :=
  eq_of_mem _ _ (sort_rising l h) (puts_rising l [] List.Pairwise.nil) (fun x => by rw [List.mem_mergeSort, puts_mem]; simp)
/-- Where a number is put: behind the smaller ones. -/
def lead (n : Int) : List Int → Nat
  | [] => 0
  | x :: l => if x < n then lead n l + 1 else 0
theorem lead_le (n : Int) : ∀ (l : List Int), lead n l ≤ l.length
  | [] => Nat.le_refl _
  | x :: l => by
    unfold lead
    split
    · rw [List.length_cons]; have := lead_le n l; omega
    · simp
theorem put_eq (n : Int) : ∀ (l : List Int), put l n = if l[lead n l]? = some n then l else l.take (lead n l) ++ [n] ++ l.drop (lead n l)
  | [] => by simp [put, lead]
  | x :: l => by
    unfold put lead
    by_cases h : x < n
    · rw [if_pos h, if_pos h, put_eq n l, List.getElem?_cons_succ]
      split
      · rfl
      · simp
    · rw [if_neg h, if_neg h]
      by_cases h2 : x = n
      · subst h2; simp
      · rw [if_neg h2, if_neg (by simp [h2])]; simp

/-! A valid table's numbers are each there once. -/
open Go.Proofs.Ytmmkpaoibekmjaa.U
theorem chkRow_once : ∀ (l s t : List Int), chkRow l s = some t → (∀ x, x ∈ t ↔ x ∈ s ∨ x ∈ l) ∧ l.Nodup ∧ ∀ x, x ∈ l → ¬ x ∈ s
  | [], s, t, h => by injection h with h; subst h; simp
  | n :: l, s, t, h => by
    unfold chkRow at h
    split at h
    · rename_i hc
      rw [Bool.and_eq_true] at hc
      have hn : ¬ n ∈ s := by simpa using hc.2
      obtain ⟨h1, h2, h3⟩ := chkRow_once l (n :: s) t h
      refine ⟨fun x => by rw [h1, List.mem_cons, List.mem_cons]; grind, List.nodup_cons.mpr ⟨fun hm => h3 n hm List.mem_cons_self, h2⟩, fun x hx hs => ?_⟩
      rcases List.mem_cons.mp hx with rfl | hx
      · exact hn hs
      · exact h3 x hx (List.mem_cons_of_mem _ hs)
    · cases h
theorem chkRows_once (cap : Int) : ∀ (l : List (List Int)) (s t : List Int), chkRows cap l s = some t → (∀ x, x ∈ t ↔ x ∈ s ∨ x ∈ l.flatten) ∧ l.flatten.Nodup ∧ ∀ x, x ∈ l.flatten → ¬ x ∈ s
  | [], s, t, h => by injection h with h; subst h; simp
  | r :: l, s, t, h => by
    unfold chkRows at h
    split at h
    · cases h1 : chkRow r s with
      | none => rw [h1] at h; cases h
      | some u =>
        rw [h1] at h
        obtain ⟨a1, a2, a3⟩ := chkRow_once r s u h1
        obtain ⟨b1, b2, b3⟩ := chkRows_once cap l u t h
        rw [List.flatten_cons]
        refine ⟨fun x => by rw [b1, a1, List.mem_append]; grind, List.nodup_append.mpr ⟨a2, b2, fun x hx y hy e => ?_⟩, fun x hx hs => ?_⟩
        · subst e; exact b3 x hy ((a1 x).mpr (Or.inr hx))
        · rcases List.mem_append.mp hx with hx | hx
          · exact a3 x hx hs
          · exact b3 x hx ((a1 x).mpr (Or.inl hs))
    · cases h
end Go.Proofs.Ytmmkpaoibekmjaa.US
namespace Go.Proofs.Ytmmkpaoibekmjaa.US
open Go.RowKit Go.Proofs.YtmmkpaoibekmjaaW.PrintWords Go.Proofs.YtmmkpaoibekmjaaW.PrintMore Go.Proofs.Ytmmkpaoibekmjaa.P Go.Proofs.Ytmmkpaoibekmjaa.U Go.Proofs.Ytmmkpaoibekmjaa.UT
set_option linter.unusedVariables false

theorem lead_step (n : Int) : ∀ (l : List Int) (i : Nat) (hi : i < l.length), i ≤ lead n l → (l[i] < n → i + 1 ≤ lead n l) ∧ (¬ l[i] < n → lead n l = i)
  | x :: l, 0, hi, h => by
    unfold lead
    refine ⟨fun hx => ?_, fun hx => ?_⟩
    · rw [if_pos (show x < n from hx)]; omega
    · rw [if_neg (show ¬ x < n from hx)]
  | x :: l, i + 1, hi, h => by
    unfold lead at h ⊢
    by_cases hx : x < n
    · rw [if_pos hx] at h ⊢
      have := lead_step n l i (by simpa using hi) (by omega)
      exact ⟨fun h1 => by have := this.1 h1; omega, fun h1 => by have := this.2 h1; omega⟩
    · rw [if_neg hx] at h; omega
theorem put_l (l : List Int) (n : Int) (hl : l.length ≤ 1048576) : ∀ d i, i + d = l.length → i ≤ lead n l → Ev (fun k => spec_l1Put.l0 k l n (i : Int)) (put l n) := by
  have stop : ∀ (i : Nat), i ≤ l.length → lead n l = i → ¬ l[i]? = some n → put l n = l.take i ++ [n] ++ l.drop i := fun i _ h1 h2 => by rw [put_eq, h1, if_neg h2]
  intro d
  induction d with
  | zero =>
    intro i hi h
    have hle := lead_le n l
    refine Ev.step (fun k => by simp only [spec_l1Put.l0]; rfl) (ev_neg (by omega) (ev_const ?_))
    rw [stop i (by omega) (by omega) (by rw [List.getElem?_eq_none (by omega)]; simp)]
    simp only [Option.bind_some, List.nil_append, List.length_nil, List.length_append, List.length_take, List.length_drop, List.length_singleton, Int.toNat_natCast]
    rw [if_pos (by omega), if_pos (by omega), if_pos (by omega), if_pos (by omega), if_pos (by omega)]
  | succ d ih =>
    intro i hi h
    have hlt : i < l.length := by omega
    obtain ⟨s1, s2⟩ := lead_step n l i hlt h
    refine Ev.step (fun k => by simp only [spec_l1Put.l0]; rfl) (ev_pos (by omega) (ev_pos (by omega) ?_))
    rw [rd_at l i hlt, wsucc hlt (by omega)]
    by_cases hc : l[i] < n
    · exact ev_pos hc (ih (i + 1) (by omega) (s1 hc))
    · refine ev_neg hc ?_
      by_cases he : l[i] = n
      · refine ev_eq (ev_pos he (ev_const rfl)) ?_
        rw [put_eq, s2 hc, if_pos (by rw [List.getElem?_eq_getElem hlt, he])]
      · refine ev_neg he (ev_const ?_)
        rw [stop i (by omega) (s2 hc) (by rw [List.getElem?_eq_getElem hlt]; simpa using he)]
        simp only [Option.bind_some, List.nil_append, List.length_nil, List.length_append, List.length_take, List.length_drop, List.length_singleton, Int.toNat_natCast]
        rw [if_pos (by omega), if_pos (by omega), if_pos (by omega), if_pos (by omega)]
theorem put_ev (l : List Int) (n : Int) (hl : l.length ≤ 1048576) : Ev (fun k => spec_l1Put.f k l n) (put l n) := by
  unfold spec_l1Put.f
  exact put_l l n hl l.length 0 (by omega) (by omega)
end Go.Proofs.Ytmmkpaoibekmjaa.US
namespace Go.Proofs.Ytmmkpaoibekmjaa.UY
open Go.RowKit Go.Proofs.YtmmkpaoibekmjaaW.PrintWords Go.Proofs.YtmmkpaoibekmjaaW.PrintMore Go.Proofs.Ytmmkpaoibekmjaa.P Go.Proofs.Ytmmkpaoibekmjaa.U Go.Proofs.Ytmmkpaoibekmjaa.UT Go.Proofs.Ytmmkpaoibekmjaa.US
set_option linter.unusedVariables false

def badR (row : List Int) : Nat → Nat → List Int
  | 0, _ => []
  | d + 1, j => (if bad row j = true then [row.getD j 0] else []) ++ badR row d (j + 1)
def badA : List (List Int) → List Int
  | [] => []
  | r :: l => badR r r.length 0 ++ badA l
theorem blist_badR (row : List Int) : ∀ d j (acc : List Int), blist row d j acc = acc ++ badR row d j
  | 0, _, acc => by simp [blist, badR]
  | d + 1, j, acc => by
    unfold blist badR
    rw [blist_badR row d]
    split
    · rw [List.append_assoc]
    · rw [List.nil_append]
theorem badR_sub (row : List Int) : ∀ d j, j + d = row.length → (badR row d j).Sublist (row.drop j)
  | 0, j, h => by unfold badR; exact List.nil_sublist _
  | d + 1, j, h => by
    have hlt : j < row.length := by omega
    unfold badR
    rw [List.drop_eq_getElem_cons hlt, getD_at _ _ _ hlt]
    have ih := badR_sub row d (j + 1) (by omega)
    split
    · exact ih.cons_cons _
    · rw [List.nil_append]; exact ih.cons _
theorem badA_sub : ∀ (l : List (List Int)), (badA l).Sublist l.flatten
  | [] => List.Sublist.refl _
  | r :: l => by
    unfold badA
    rw [List.flatten_cons]
    exact (badR_sub r r.length 0 (by omega)).append (badA_sub l)
theorem badR_len (row : List Int) : ∀ d j, (badR row d j).length ≤ d
  | 0, _ => Nat.le_refl _
  | d + 1, j => by
    unfold badR
    have := badR_len row d (j + 1)
    rw [List.length_append]
    split
    · rw [List.length_singleton]; omega
    · rw [List.length_nil]; omega
theorem badA_len : ∀ (l : List (List Int)), (∀ x, x ∈ l → x.length ≤ 4) → (badA l).length ≤ 4 * l.length
  | [], _ => Nat.le_refl _
  | r :: l, h => by
    unfold badA
    have h1 := badR_len r r.length 0
    have h2 := h r List.mem_cons_self
    have h3 := badA_len l (fun x hx => h x (List.mem_cons_of_mem _ hx))
    rw [List.length_append, List.length_cons]; omega
theorem badA_nodup {l : List (List Int)} (h : okYard l = true) : (badA l).Nodup := by
  unfold okYard at h
  rw [Bool.and_eq_true] at h
  obtain ⟨t, ht⟩ := Option.isSome_iff_exists.mp h.2
  exact (badA_sub l).nodup (chkRows_once 4 l [] t ht).2.1
theorem bad_l {l : List (List Int)} (hn : l.length ≤ 6) (h4 : ∀ x, x ∈ l → x.length ≤ 4) : ∀ d i (acc : List Int), i + d = l.length → acc.length ≤ 4 * i → Ev (fun k => spec_l8Bad.l0 k acc (i : Int) l) (puts acc (badA (l.drop i))) := by
  intro d
  induction d with
  | zero =>
    intro i acc hi ha
    refine Ev.step (fun k => by simp only [spec_l8Bad.l0]; rfl) (ev_neg (by omega) (ev_const ?_))
    rw [List.drop_of_length_le (by omega)]; rfl
  | succ d ih =>
    intro i acc hi ha
    have hlt : i < l.length := by omega
    have h4i := h4 _ (List.getElem_mem hlt)
    refine Ev.step (fun k => by simp only [spec_l8Bad.l0]; rfl) (ev_pos (by omega) ?_)
    rw [List.drop_eq_getElem_cons hlt]
    have inner : ∀ e j (acc : List Int), j + e = l[i].length → acc.length ≤ 4 * i + j → Ev (fun k => spec_l8Bad.l1 k acc (i : Int) (j : Int) l) (puts (puts acc (badR l[i] e j)) (badA (l.drop (i + 1)))) := by
      intro e
      induction e with
      | zero =>
        intro j acc hj ha
        refine Ev.step (fun k => by simp only [spec_l8Bad.l1]; rfl) (ev_pos (by omega) (ev_pos (by omega) ?_))
        rw [rd_l1 l i hlt, wsucc hlt (by omega)]
        exact ev_neg (by omega) (ih (i + 1) acc (by omega) (by omega))
      | succ e ihe =>
        intro j acc hj ha
        have hjt : j < l[i].length := by omega
        refine Ev.step (fun k => by simp only [spec_l8Bad.l1]; rfl) (ev_pos (by omega) (ev_pos (by omega) ?_))
        rw [rd_l1 l i hlt, rd_at _ j hjt, wsucc hjt (by omega)]
        obtain ⟨c, hc, _, hb⟩ := bad_spec l[i] j hjt (by omega)
        refine ev_pos (by omega) (Ev.bind hc ?_)
        unfold badR
        rw [getD_at _ _ _ hjt]
        by_cases h0 : c > 0
        · rw [decide_eq_true h0] at hb
          rw [if_pos hb.symm]
          refine ev_pos h0 (ev_pos (by omega) (Ev.bind (put_ev acc l[i][j] (by omega)) ?_))
          have hp := put_len l[i][j] acc
          exact ihe (j + 1) _ (by omega) (by omega)
        · rw [decide_eq_false h0] at hb
          rw [if_neg (by rw [← hb]; simp)]
          exact ev_neg h0 (ihe (j + 1) acc (by omega) (by omega))
    have h := inner l[i].length 0 acc (by omega) (by omega)
    unfold badA
    rw [puts_app]
    exact h
theorem bad_ev {l : List (List Int)} (hn : l.length ≤ 6) (h4 : ∀ x, x ∈ l → x.length ≤ 4) : Ev (fun k => spec_l8Bad.f k l) (puts [] (badA l)) := by
  unfold spec_l8Bad.f
  exact bad_l hn h4 l.length 0 [] (by omega) (by simp)
theorem sort_ev (l : List Int) (h : l.length ≤ 1048576) : slices_Sort_int_int.f l = some (l.mergeSort fun x y => decide (x ≤ y)) := by
  unfold slices_Sort_int_int.f
  rw [if_pos (by omega)]
theorem all_impl_l {l : List (List Int)} (hn : l.length ≤ 6) (h4 : ∀ x, x ∈ l → x.length ≤ 4) : ∀ d i (acc : List Int), i + d = l.length → acc.length ≤ 4 * i → Ev (fun k => impl_allBadlyPlaced.l0 k acc l (l.length : Int) (i : Int)) ((acc ++ badA (l.drop i)).mergeSort fun x y => decide (x ≤ y)) := by
  intro d
  induction d with
  | zero =>
    intro i acc hi ha
    refine Ev.step (fun k => by simp only [impl_allBadlyPlaced.l0]; rfl) (ev_neg (by omega) (ev_const ?_))
    rw [List.drop_of_length_le (by omega), sort_ev acc (by omega), show badA [] = [] from rfl, List.append_nil]; rfl
  | succ d ih =>
    intro i acc hi ha
    have hlt : i < l.length := by omega
    have h4i := h4 _ (List.getElem_mem hlt)
    refine Ev.step (fun k => by simp only [impl_allBadlyPlaced.l0]; rfl) (ev_pos (by omega) (ev_pos (by omega) (ev_pos (by omega) ?_)))
    rw [rd_l1 l i hlt, wsucc hlt (by omega), List.drop_eq_getElem_cons hlt]
    refine Ev.bind (bp_ev l[i] (by omega)) ?_
    rw [blist_badR, List.nil_append]
    have hb := badR_len l[i] l[i].length 0
    refine ev_pos (by omega) ?_
    have h := ih (i + 1) (acc ++ badR l[i] l[i].length 0) (by omega) (by rw [List.length_append]; omega)
    rw [List.append_assoc] at h
    exact h
theorem all_impl {l : List (List Int)} (h : okYard l = true) : Ev (fun k => impl_allBadlyPlaced.f k l) (puts [] (badA l)) := by
  have hy := okYard_mem h
  unfold impl_allBadlyPlaced.f
  have e := all_impl_l hy.1.2 (fun x hx => (hy.2 x hx).1) l.length 0 [] (by omega) (by simp)
  rw [List.drop_zero, List.nil_append, sort_puts _ (badA_nodup h)] at e
  exact e
end Go.Proofs.Ytmmkpaoibekmjaa.UY
namespace Go.Proofs.Ytmmkpaoibekmjaa.UY
open Go.RowKit Go.Proofs.YtmmkpaoibekmjaaW.PrintWords Go.Proofs.YtmmkpaoibekmjaaW.PrintMore Go.Proofs.Ytmmkpaoibekmjaa.P Go.Proofs.Ytmmkpaoibekmjaa.U Go.Proofs.Ytmmkpaoibekmjaa.UT
set_option linter.unusedVariables false

/-! Where a number stands. -/
def inYard (l : List (List Int)) (v : Int) : Bool := l.any fun r => r.contains v
def findR (v : Int) : List (List Int) → Nat → Int × Int
  | [], _ => (-1, -1)
  | r :: l, i => if r.contains v = true then ((i : Int), (r.idxOf v : Int)) else findR v l (i + 1)
theorem findR_in (v : Int) : ∀ (l : List (List Int)) (i : Nat), decide ((findR v l i).1 ≥ 0) = inYard l v
  | [], i => by simp [findR, inYard]
  | r :: l, i => by
    unfold findR inYard
    rw [List.any_cons]
    by_cases h : r.contains v = true
    · rw [if_pos h, h]; simp
    · have hf : r.contains v = false := by simpa using h
      rw [if_neg h, findR_in v l (i + 1), hf]; rfl
theorem idx_l (l : List Int) (v : Int) (hn : l.length ≤ 1048576) : ∀ d i, i + d = l.length → Ev (fun k => slices_Index_int_int.l0 k l v (l.length : Int) (i : Int)) (if (l.drop i).contains v = true then ((i + (l.drop i).idxOf v : Nat) : Int) else -1) := by
  intro d
  induction d with
  | zero =>
    intro i hi
    refine Ev.step (fun k => by simp only [slices_Index_int_int.l0]; rfl) ?_
    refine ev_neg (by omega) (ev_const ?_)
    rw [List.drop_of_length_le (by omega)]; rfl
  | succ d ih =>
    intro i hi
    have hlt : i < l.length := by omega
    refine Ev.step (fun k => by simp only [slices_Index_int_int.l0]; rfl) ?_
    refine ev_pos (by omega) (ev_pos (by omega) (ev_pos (by omega) ?_))
    rw [rd_at l i hlt, wsucc hlt (by omega), List.drop_eq_getElem_cons hlt]
    by_cases hc : v = l[i]
    · refine ev_eq (ev_pos hc (ev_const rfl)) ?_
      rw [if_pos (by rw [List.contains_cons, show (v == l[i]) = true by simpa using hc]; rfl), List.idxOf_cons, show (l[i] == v) = true by simpa using hc.symm]; simp
    · have e := ih (i + 1) (by omega)
      refine ev_eq (ev_neg hc e) ?_
      have hb : (l[i] == v) = false := by simp; omega
      rw [List.contains_cons, List.idxOf_cons, hb, show (v == l[i]) = false by simp; omega]
      simp only [Bool.false_or, cond_false]
      by_cases h2 : (l.drop (i + 1)).contains v = true
      · rw [if_pos h2, if_pos h2]; omega
      · rw [if_neg h2, if_neg h2]
theorem idx_ev (l : List Int) (v : Int) (hn : l.length ≤ 1048576) : Ev (fun k => slices_Index_int_int.f k l v) (if l.contains v = true then ((l.idxOf v : Nat) : Int) else -1) := by
  unfold slices_Index_int_int.f
  have h := idx_l l v hn l.length 0 (by omega)
  rw [List.drop_zero, Nat.zero_add] at h
  exact h
theorem contains_impl (l : List Int) (v : Int) (hn : l.length ≤ 1048576) : Ev (fun k => slices_Contains_int_int.f k l v) (l.contains v) := by
  unfold slices_Contains_int_int.f
  refine Ev.bind (idx_ev l v hn) (ev_const ?_)
  cases h : l.contains v
  · rfl
  · rw [if_pos rfl]; simp
theorem place_l (l : List (List Int)) (v : Int) (hn : l.length ≤ 1048576) (hx : ∀ x, x ∈ l → x.length ≤ 1048576) : ∀ d i, i + d = l.length → Ev (fun k => impl_placeOf.l0 k v l (l.length : Int) (i : Int)) (findR v (l.drop i) i) := by
  intro d
  induction d with
  | zero =>
    intro i hi
    refine Ev.step (fun k => by simp only [impl_placeOf.l0]; rfl) ?_
    refine ev_neg (by omega) (ev_const ?_)
    rw [List.drop_of_length_le (by omega)]; rfl
  | succ d ih =>
    intro i hi
    have hlt : i < l.length := by omega
    refine Ev.step (fun k => by simp only [impl_placeOf.l0]; rfl) ?_
    refine ev_pos (by omega) (ev_pos (by omega) (ev_pos (by omega) ?_))
    rw [rd_l1 l i hlt, wsucc hlt (by omega), List.drop_eq_getElem_cons hlt]
    refine Ev.bind (idx_ev _ v (hx _ (List.getElem_mem hlt))) ?_
    unfold findR
    cases h : l[i].contains v
    · rw [if_neg (by simp), if_neg (by simp)]
      exact ev_neg (by omega) (ih (i + 1) (by omega))
    · rw [if_pos rfl, if_pos rfl]
      exact ev_pos (by omega) (ev_const rfl)
theorem place_impl (l : List (List Int)) (v : Int) (hn : l.length ≤ 1048576) (hx : ∀ x, x ∈ l → x.length ≤ 1048576) : Ev (fun k => impl_placeOf.f k l v) (findR v l 0) := by
  unfold impl_placeOf.f
  exact place_l l v hn hx l.length 0 (by omega)
theorem find_l (l : List (List Int)) (v : Int) (hn : l.length ≤ 1048576) (hx : ∀ x, x ∈ l → x.length ≤ 1048576) : ∀ d i, i + d = l.length → Ev (fun k => spec_l5Find.l0 k v (i : Int) l) (findR v (l.drop i) i) := by
  intro d
  induction d with
  | zero =>
    intro i hi
    refine Ev.step (fun k => by simp only [spec_l5Find.l0]; rfl) ?_
    refine ev_neg (by omega) (ev_const ?_)
    rw [List.drop_of_length_le (by omega)]; rfl
  | succ d ih =>
    intro i hi
    have hlt : i < l.length := by omega
    have hxi := hx _ (List.getElem_mem hlt)
    refine Ev.step (fun k => by simp only [spec_l5Find.l0]; rfl) ?_
    refine ev_pos (by omega) ?_
    rw [List.drop_eq_getElem_cons hlt]
    have inner : ∀ e j, j + e = l[i].length → Ev (fun k => spec_l5Find.l1 k v (i : Int) (j : Int) l) (if (l[i].drop j).contains v = true then ((i : Int), ((j + (l[i].drop j).idxOf v : Nat) : Int)) else findR v (l.drop (i + 1)) (i + 1)) := by
      intro e
      induction e with
      | zero =>
        intro j hj
        refine Ev.step (fun k => by simp only [spec_l5Find.l1]; rfl) ?_
        refine ev_pos (by omega) (ev_pos (by omega) ?_)
        rw [rd_l1 l i hlt, wsucc hlt (by omega), List.drop_of_length_le (show l[i].length ≤ j by omega)]
        exact ev_neg (by omega) (ih (i + 1) (by omega))
      | succ e ihe =>
        intro j hj
        have hjt : j < l[i].length := by omega
        refine Ev.step (fun k => by simp only [spec_l5Find.l1]; rfl) ?_
        refine ev_pos (by omega) (ev_pos (by omega) ?_)
        rw [rd_l1 l i hlt, rd_at _ j hjt, wsucc hjt (by omega), List.drop_eq_getElem_cons hjt]
        refine ev_pos (by omega) (ev_pos (by omega) ?_)
        by_cases hc : l[i][j] = v
        · refine ev_eq (ev_pos hc (ev_const rfl)) ?_
          rw [if_pos (by simp [hc]), List.idxOf_cons, hc]; simp
        · refine ev_eq (ev_neg hc (ihe (j + 1) (by omega))) ?_
          have hb : (l[i][j] == v) = false := by simp; omega
          rw [List.contains_cons, List.idxOf_cons, hb, show (v == l[i][j]) = false by simp; omega]
          simp only [Bool.false_or, cond_false]
          by_cases h2 : (l[i].drop (j + 1)).contains v = true
          · rw [if_pos h2, if_pos h2]; simp only [Prod.mk.injEq, true_and]; omega
          · rw [if_neg h2, if_neg h2]
    have h := inner l[i].length 0 (by omega)
    rw [List.drop_zero, Nat.zero_add] at h
    exact h
theorem find_spec (l : List (List Int)) (v : Int) (hn : l.length ≤ 1048576) (hx : ∀ x, x ∈ l → x.length ≤ 1048576) : Ev (fun k => spec_l5Find.f k l v) (findR v l 0) := by
  unfold spec_l5Find.f
  exact find_l l v hn hx l.length 0 (by omega)

/-! Numbers that may come. -/
def arrs (l : List (List Int)) : List Int → List Int → Bool
  | _, [] => true
  | pre, x :: xs => inr x 1 99 && (!(inYard l x) && (!(pre.contains x) && arrs l (pre ++ [x]) xs))
theorem arr_spec (l : List (List Int)) (hn : l.length ≤ 1048576) (hx : ∀ x, x ∈ l → x.length ≤ 1048576) (a : List Int) (ha : a.length ≤ 1048576) : ∀ d i, i + d = a.length →
    Ev (fun k => spec_l8Arrivals.l0 k a (i : Int) l) (arrs l (a.take i) (a.drop i) && decide ((a.length : Int) ≤ 5)) := by
  intro d
  induction d with
  | zero =>
    intro i hi
    refine Ev.step (fun k => by simp only [spec_l8Arrivals.l0]; rfl) ?_
    refine ev_neg (by omega) (ev_const ?_)
    rw [List.drop_of_length_le (by omega)]; rfl
  | succ d ih =>
    intro i hi
    have hlt : i < a.length := by omega
    refine Ev.step (fun k => by simp only [spec_l8Arrivals.l0]; rfl) ?_
    refine ev_pos (by omega) (ev_pos (by omega) ?_)
    rw [rd_at a i hlt, wsucc hlt (by omega), List.drop_eq_getElem_cons hlt]
    unfold arrs
    refine Ev.bind (find_spec l _ hn hx) ?_
    have hf := findR_in a[i] l 0
    cases h1 : inYard l a[i]
    · rw [h1] at hf
      refine ev_neg (of_decide_eq_false hf) (ev_call (in_spec _ _ _) ?_)
      cases h2 : inr a[i] 1 99
      · exact ev_neg (by simp) (ev_const rfl)
      · refine ev_pos rfl (ev_pos (by omega) ?_)
        have hh := has_ev (a.take i) a[i] (by rw [List.length_take]; omega)
        rw [Int.toNat_natCast]
        refine Ev.bind hh ?_
        have hi2 := ih (i + 1) (by omega)
        rw [List.take_succ_eq_append_getElem hlt] at hi2
        cases h3 : (a.take i).contains a[i]
        · exact ev_neg (by simp) hi2
        · exact ev_pos rfl (ev_const rfl)
    · rw [h1] at hf
      refine ev_eq (ev_pos (of_decide_eq_true hf) (ev_const rfl)) (by simp)
theorem asked_spec (l : List (List Int)) (hn : l.length ≤ 1048576) (hx : ∀ x, x ∈ l → x.length ≤ 1048576) (a : List Int) (ha : a.length ≤ 1048576) :
    Ev (fun k => spec_l8Asked.f k l a) (okYard l && (arrs l [] a && decide ((a.length : Int) ≤ 5))) := by
  unfold spec_l8Asked.f
  refine Ev.bind (good_spec l hn hx) ?_
  cases okYard l
  · exact ev_neg (by simp) (ev_const rfl)
  · refine ev_pos rfl (Ev.bind (a := arrs l [] a && decide ((a.length : Int) ≤ 5)) ?_ (ev_const rfl))
    unfold spec_l8Arrivals.f
    exact arr_spec l hn hx a ha a.length 0 (by omega)
theorem within_impl (a b c : Int) : impl_within.f a b c = some (inr a b c) := by
  unfold impl_within.f inr
  by_cases h : b ≤ a <;> simp [h]
theorem arr_impl (l : List (List Int)) (hn : l.length ≤ 1048576) (hx : ∀ x, x ∈ l → x.length ≤ 1048576) (a : List Int) (ha : a.length ≤ 1048576) : ∀ d i, i + d = a.length →
    Ev (fun k => impl_areArrivals.l0 k a a (a.length : Int) (i : Int) l) (arrs l (a.take i) (a.drop i)) := by
  intro d
  induction d with
  | zero =>
    intro i hi
    refine Ev.step (fun k => by simp only [impl_areArrivals.l0]; rfl) ?_
    refine ev_neg (by omega) (ev_const ?_)
    rw [List.drop_of_length_le (by omega)]; rfl
  | succ d ih =>
    intro i hi
    have hlt : i < a.length := by omega
    refine Ev.step (fun k => by simp only [impl_areArrivals.l0]; rfl) ?_
    refine ev_pos (by omega) (ev_pos (by omega) (ev_pos (by omega) ?_))
    rw [rd_at a i hlt, wsucc hlt (by omega), List.drop_eq_getElem_cons hlt]
    unfold arrs
    refine Ev.bind (place_impl l _ hn hx) (ev_call (within_impl _ _ _) ?_)
    have hf := findR_in a[i] l 0
    cases h2 : inr a[i] 1 99
    · exact ev_neg (by simp) (ev_const rfl)
    refine ev_pos rfl ?_
    cases h1 : inYard l a[i]
    · rw [h1] at hf
      refine ev_neg (of_decide_eq_false hf) (ev_pos (by omega) ?_)
      have hh := contains_impl (a.take i) a[i] (by rw [List.length_take]; omega)
      rw [Int.toNat_natCast]
      refine Ev.bind hh ?_
      have hi2 := ih (i + 1) (by omega)
      rw [List.take_succ_eq_append_getElem hlt] at hi2
      cases h3 : (a.take i).contains a[i]
      · exact ev_neg (by simp) hi2
      · exact ev_pos rfl (ev_const rfl)
    · rw [h1] at hf
      refine ev_eq (ev_pos (of_decide_eq_true hf) (ev_const rfl)) (by simp)
theorem asked_impl (l : List (List Int)) (hn : l.length ≤ 1048576) (hx : ∀ x, x ∈ l → x.length ≤ 1048576) (a : List Int) (ha : a.length ≤ 1048576) :
    Ev (fun k => impl_areArrivals.f k l a) (okYard l && (arrs l [] a && decide ((a.length : Int) ≤ 5))) := by
  unfold impl_areArrivals.f
  refine ev_call (show impl_IsValidYard.f l = some (okYard l) from rfl) ?_
  cases okYard l
  · refine ev_neg (by simp) (Ev.step (fun k => by simp only [impl_areArrivals.j0]; rfl) ?_)
    exact ev_pos (by simp) (ev_const rfl)
  · refine ev_pos rfl (Ev.step (fun k => by simp only [impl_areArrivals.j0]; rfl) ?_)
    by_cases h : (a.length : Int) > 5
    · refine ev_eq (ev_pos (by simpa using h) (ev_const rfl)) ?_
      rw [decide_eq_false (by omega)]; simp
    · refine ev_eq (ev_neg (by simpa using h) (arr_impl l hn hx a ha a.length 0 (by omega))) ?_
      rw [decide_eq_true (by omega)]; simp
end Go.Proofs.Ytmmkpaoibekmjaa.UY
namespace Go.Proofs.Ytmmkpaoibekmjaa.UY
open Go.RowKit Go.Proofs.YtmmkpaoibekmjaaW.PrintWords Go.Proofs.YtmmkpaoibekmjaaW.PrintMore Go.Proofs.Ytmmkpaoibekmjaa.P Go.Proofs.Ytmmkpaoibekmjaa.U Go.Proofs.Ytmmkpaoibekmjaa.UT
set_option linter.unusedVariables false

/-! A copy. -/
theorem own1_spec (l : List Int) (hn : l.length ≤ 1048576) : spec_l1Own.f l = some l := by
  unfold spec_l1Own.f
  show (if ([] : List Int).length + l.length < 17592186044416 then some ([] ++ l) else none) = some l
  rw [if_pos (by simp; omega)]; rfl
theorem own1_impl (l : List Int) (hn : l.length ≤ 1048576) : slices_Clone_int_int.f l = some l := by
  unfold slices_Clone_int_int.f
  rw [if_pos (by omega)]
theorem own_spec_l (l : List (List Int)) (hn : l.length ≤ 1048576) (hx : ∀ x, x ∈ l → x.length ≤ 1048576) : ∀ d i, i + d = l.length → Ev (fun k => spec_l5Own.l0 k (i : Int) l (l.take i)) l := by
  intro d
  induction d with
  | zero =>
    intro i hi
    refine Ev.step (fun k => by simp only [spec_l5Own.l0]; rfl) (ev_neg (by omega) (ev_const ?_))
    rw [List.take_of_length_le (by omega)]
  | succ d ih =>
    intro i hi
    have hlt : i < l.length := by omega
    refine Ev.step (fun k => by simp only [spec_l5Own.l0]; rfl) (ev_pos (by omega) (ev_pos (by omega) ?_))
    rw [rd_l1 l i hlt, wsucc hlt (by omega)]
    refine ev_call (own1_spec _ (hx _ (List.getElem_mem hlt))) (ev_pos (by rw [List.length_take]; omega) ?_)
    have h := ih (i + 1) (by omega)
    rw [List.take_succ_eq_append_getElem hlt] at h
    exact h
theorem own_spec (l : List (List Int)) (hn : l.length ≤ 1048576) (hx : ∀ x, x ∈ l → x.length ≤ 1048576) : Ev (fun k => spec_l5Own.f k l) l := by
  unfold spec_l5Own.f
  exact own_spec_l l hn hx l.length 0 (by omega)
theorem own_impl_l (l : List (List Int)) (hn : l.length ≤ 1048576) (hx : ∀ x, x ∈ l → x.length ≤ 1048576) : ∀ d i, i + d = l.length → Ev (fun k => impl_ownYard.l0 k l (l.length : Int) (i : Int) (l.take i)) l := by
  intro d
  induction d with
  | zero =>
    intro i hi
    refine Ev.step (fun k => by simp only [impl_ownYard.l0]; rfl) (ev_neg (by omega) (ev_const ?_))
    rw [List.take_of_length_le (by omega)]
  | succ d ih =>
    intro i hi
    have hlt : i < l.length := by omega
    refine Ev.step (fun k => by simp only [impl_ownYard.l0]; rfl) (ev_pos (by omega) (ev_pos (by omega) (ev_pos (by omega) ?_)))
    rw [rd_l1 l i hlt, wsucc hlt (by omega)]
    refine ev_call (own1_impl _ (hx _ (List.getElem_mem hlt))) (ev_pos (by rw [List.length_take]; omega) ?_)
    have h := ih (i + 1) (by omega)
    rw [List.take_succ_eq_append_getElem hlt] at h
    exact h
theorem own_impl (l : List (List Int)) (hn : l.length ≤ 1048576) (hx : ∀ x, x ∈ l → x.length ≤ 1048576) : Ev (fun k => impl_ownYard.f k l) l := by
  unfold impl_ownYard.f
  exact own_impl_l l hn hx l.length 0 (by omega)

/-! One number more on a stack. -/
def push (l : List (List Int)) (s n : Int) : List (List Int) := l.set s.toNat (rd_L1 l s ++ [n])
theorem push_len (l : List (List Int)) (s n : Int) : (push l s n).length = l.length := by simp [push]
theorem push_mem {l : List (List Int)} {s n : Int} {x : List Int} (h : x ∈ push l s n) : x ∈ l ∨ x = rd_L1 l s ++ [n] := List.mem_or_eq_of_mem_set h
theorem push_rows {l : List (List Int)} {s n : Int} {c : Nat} (h : ∀ x, x ∈ l → x.length ≤ c) (h0 : 0 ≤ s) (h1 : s < (l.length : Int)) : ∀ x, x ∈ push l s n → x.length ≤ c + 1 := by
  intro x hx
  rcases push_mem hx with h2 | rfl
  · exact Nat.le_succ_of_le (h x h2)
  · rw [List.length_append, List.length_singleton]
    exact Nat.succ_le_succ (h _ (rdl_mem h0 h1))
end Go.Proofs.Ytmmkpaoibekmjaa.UY
namespace Go.Proofs.Ytmmkpaoibekmjaa.UK
open Go.RowKit Go.Proofs.YtmmkpaoibekmjaaW.PrintWords Go.Proofs.YtmmkpaoibekmjaaW.PrintMore Go.Proofs.Ytmmkpaoibekmjaa.P Go.Proofs.Ytmmkpaoibekmjaa.U Go.Proofs.Ytmmkpaoibekmjaa.UT
set_option linter.unusedVariables false

/-! What holds from some number of rounds on. -/
def EvP (P : Nat → Prop) : Prop := ∃ K, ∀ k, K ≤ k → P k
theorem EvP.rounds {P : Nat → Prop} (h : EvP P) : ∃ k, P k := by
  obtain ⟨K, h⟩ := h
  exact ⟨K, h K (Nat.le_refl _)⟩
theorem EvP.tr : EvP fun _ => True := ⟨0, fun _ _ => trivial⟩
theorem EvP.bind {α : Type} {g : Nat → Option α} {r : α} {Q : Nat → α → Prop} (h : Ev g r) (hq : EvP fun k => Q k r) : EvP fun k => ∃ t, g k = some t ∧ Q k t := by
  obtain ⟨K, h⟩ := h
  obtain ⟨K', h'⟩ := hq
  exact ⟨max K K', fun k hk => ⟨r, h k (by omega), h' k (by omega)⟩⟩
theorem EvP.bind2 {α β : Type} {g : Nat → Option (α × β)} {r : α} {s : β} {Q : Nat → α → β → Prop} (h : Ev g (r, s)) (hq : EvP fun k => Q k r s) : EvP fun k => ∃ t u, g k = some (t, u) ∧ Q k t u := by
  obtain ⟨K, h⟩ := h
  obtain ⟨K', h'⟩ := hq
  exact ⟨max K K', fun k hk => ⟨r, s, h k (by omega), h' k (by omega)⟩⟩
theorem EvP.bind3 {α β γ : Type} {g : Nat → Option (α × β × γ)} {r : α} {s : β} {v : γ} {Q : Nat → α → β → γ → Prop} (h : Ev g (r, s, v)) (hq : EvP fun k => Q k r s v) : EvP fun k => ∃ t u x, g k = some (t, u, x) ∧ Q k t u x := by
  obtain ⟨K, h⟩ := h
  obtain ⟨K', h'⟩ := hq
  exact ⟨max K K', fun k hk => ⟨r, s, v, h k (by omega), h' k (by omega)⟩⟩
theorem EvP.bind4 {α β γ δ : Type} {g : Nat → Option (α × β × γ × δ)} {r : α} {s : β} {v : γ} {z : δ} {Q : Nat → α → β → γ → δ → Prop} (h : Ev g (r, s, v, z)) (hq : EvP fun k => Q k r s v z) : EvP fun k => ∃ t u x y, g k = some (t, u, x, y) ∧ Q k t u x y := by
  obtain ⟨K, h⟩ := h
  obtain ⟨K', h'⟩ := hq
  exact ⟨max K K', fun k hk => ⟨r, s, v, z, h k (by omega), h' k (by omega)⟩⟩
theorem EvP.out {c : Prop} {Q : Nat → Prop} (h : c) : EvP fun k => c ∨ Q k := ⟨0, fun _ _ => Or.inl h⟩
theorem EvP.on {c : Prop} {Q : Nat → Prop} (h : ¬ c) (hq : EvP Q) : EvP fun k => c ∨ ¬ c ∧ Q k := by
  obtain ⟨K, hq⟩ := hq
  exact ⟨K, fun k hk => Or.inr ⟨h, hq k hk⟩⟩
theorem EvP.no {c : Prop} {Q : Nat → Prop} (h : ¬ c) (hq : EvP Q) : EvP fun k => ¬ c ∧ Q k := by
  obtain ⟨K, hq⟩ := hq
  exact ⟨K, fun k hk => ⟨h, hq k hk⟩⟩
theorem EvP.yes {c : Prop} {Q : Nat → Prop} (h : c) (hq : EvP Q) : EvP fun k => c ∧ Q k := by
  obtain ⟨K, hq⟩ := hq
  exact ⟨K, fun k hk => ⟨h, hq k hk⟩⟩

/-! Lists of numbers. -/
def mk1 (m : Nat) (n : Int) : List Int := (List.range m).map fun j : Nat => n + (j : Int)
theorem mk1_length (m : Nat) (n : Int) : (mk1 m n).length = m := by simp [mk1]
theorem mk1_get (m : Nat) (n : Int) (i : Nat) (h : i < (mk1 m n).length) : (mk1 m n)[i] = n + i := by simp [mk1]
theorem mark1_l (n : Int) (hn : 0 ≤ n ∧ n ≤ 4398046511104) (m : Nat) (hm : m ≤ 1048576) : ∀ d i (acc : List Int), i + d = m → acc.length = m → acc.take i = (mk1 m n).take i → Ev (fun k => laws_markIntS.l0 k acc (n + i) (i : Int)) (n + m, mk1 m n) := by
  intro d
  induction d with
  | zero =>
    intro i acc hi ha ht
    refine Ev.step (fun k => by simp only [laws_markIntS.l0]; rfl) (ev_neg (by omega) (ev_const ?_))
    rw [List.take_of_length_le (by omega), List.take_of_length_le (by rw [mk1_length]; omega)] at ht
    rw [ht, show i = m by omega]
  | succ d ih =>
    intro i acc hi ha ht
    have hlt : i < acc.length := by omega
    refine Ev.step (fun k => by simp only [laws_markIntS.l0]; rfl) ?_
    refine ev_pos (by omega) (ev_pos (by omega) ?_)
    rw [wsucc (n := m) (by omega) (by omega), Int.toNat_natCast, wr (x := n + (i : Int) + 1) (by omega) (by omega)]
    rw [show n + (i : Int) + 1 = n + ((i + 1 : Nat) : Int) by omega]
    refine ih (i + 1) _ (by omega) (by rw [List.length_set]; exact ha) ?_
    rw [fill_step ht hlt, List.take_succ_eq_append_getElem (show i < (mk1 m n).length by rw [mk1_length]; omega), mk1_get]
theorem mark1 (l : List Int) (n : Int) (hn : 0 ≤ n ∧ n ≤ 4398046511104) (hm : l.length ≤ 1048576) : Ev (fun k => laws_markIntS.f k l n) (n + (l.length : Int), mk1 l.length n) := by
  unfold laws_markIntS.f
  have h := mark1_l n hn l.length hm l.length 0 l (by omega) rfl (by simp)
  rw [show n + ((0 : Nat) : Int) = n by omega] at h
  exact h
/-! Rows of numbers. -/
def sumL : List (List Int) → Int
  | [] => 0
  | r :: l => (r.length : Int) + sumL l
def mk2 : List (List Int) → Int → List (List Int)
  | [], _ => []
  | r :: l, n => mk1 r.length n :: mk2 l (n + r.length)
theorem mk2_length : ∀ (l : List (List Int)) (n : Int), (mk2 l n).length = l.length
  | [], _ => rfl
  | _ :: l, n => by simp [mk2, mk2_length l]
theorem sumL_cons (r : List Int) (l : List (List Int)) : sumL (r :: l) = (r.length : Int) + sumL l := rfl
theorem mk2_cons (r : List Int) (l : List (List Int)) (n : Int) : mk2 (r :: l) n = mk1 r.length n :: mk2 l (n + r.length) := rfl
theorem sumL_pos : ∀ (l : List (List Int)), 0 ≤ sumL l
  | [] => Int.le_refl 0
  | r :: l => by have := sumL_pos l; unfold sumL; omega
theorem sumL_le (c : Nat) : ∀ (l : List (List Int)), (∀ x, x ∈ l → x.length ≤ c) → sumL l ≤ (l.length : Int) * (c : Int)
  | [], _ => by simp [sumL]
  | r :: l, h => by
    have h1 := sumL_le c l (fun x hx => h x (List.mem_cons_of_mem _ hx))
    have h2 := h r List.mem_cons_self
    unfold sumL
    rw [List.length_cons, show ((l.length + 1 : Nat) : Int) * (c : Int) = (l.length : Int) * (c : Int) + c by rw [Int.natCast_add, Int.add_mul]; simp]
    omega
theorem set_prefix (pre : List (List Int)) (x y : List Int) (suf : List (List Int)) : (pre ++ x :: suf).set pre.length y = pre ++ y :: suf := by
  simp
theorem getD_prefix (pre : List (List Int)) (x : List Int) (suf : List (List Int)) : (pre ++ x :: suf).getD pre.length [] = x := by
  simp [List.getD]
theorem mark2_l : ∀ (suf pre : List (List Int)) (n : Int), 0 ≤ n → n + sumL suf ≤ 4398046511104 → (pre ++ suf).length ≤ 1048576 → (∀ x, x ∈ suf → x.length ≤ 1048576) →
    Ev (fun k => laws_markIntSS.l0 k (pre ++ suf) n (pre.length : Int)) (n + sumL suf, pre ++ mk2 suf n)
  | [], pre, n, h0, h1, hl, hx => by
    refine Ev.step (fun k => by simp only [laws_markIntSS.l0]; rfl) (ev_neg (by simp) (ev_const ?_))
    simp [sumL, mk2]
  | r :: suf, pre, n, h0, h1, hl, hx => by
    have hr := hx r List.mem_cons_self
    have hp := sumL_pos suf
    rw [sumL_cons] at h1
    have hl2 : pre.length + suf.length + 1 ≤ 1048576 := by simp at hl; omega
    refine Ev.step (fun k => by simp only [laws_markIntSS.l0]; rfl) (ev_pos (by simp; omega) (ev_pos (by omega) ?_))
    rw [Int.toNat_natCast, getD_prefix, wsucc (n := 1048576) (by omega) (by omega)]
    refine Ev.bind (mark1 r n ⟨h0, by omega⟩ hr) ?_
    rw [set_prefix]
    have ih := mark2_l suf (pre ++ [mk1 r.length n]) (n + r.length) (by omega) (by omega) (by simp; omega) (fun x h => hx x (List.mem_cons_of_mem _ h))
    rw [List.length_append, List.length_singleton, List.append_assoc, List.append_assoc] at ih
    refine ev_eq ih ?_
    rw [mk2_cons, sumL_cons]
    simp; omega
theorem mark2 (l : List (List Int)) (n : Int) (h0 : 0 ≤ n) (h1 : n + sumL l ≤ 4398046511104) (hl : l.length ≤ 1048576) (hx : ∀ x, x ∈ l → x.length ≤ 1048576) : Ev (fun k => laws_markIntSS.f k l n) (n + sumL l, mk2 l n) := by
  unfold laws_markIntSS.f
  exact mark2_l l [] n h0 h1 hl hx
theorem sumL_big {l : List (List Int)} (hl : l.length ≤ 1048576) (hx : ∀ x, x ∈ l → x.length ≤ 1048576) : sumL l ≤ 1099511627776 := by
  have h := sumL_le 1048576 l hx
  have h2 : (l.length : Int) * ((1048576 : Nat) : Int) ≤ 1048576 * 1048576 := by
    have := Int.mul_le_mul_of_nonneg_right (show (l.length : Int) ≤ 1048576 by omega) (show (0 : Int) ≤ ((1048576 : Nat) : Int) by omega)
    simpa using this
  omega
end Go.Proofs.Ytmmkpaoibekmjaa.UK
namespace Go.Proofs.Ytmmkpaoibekmjaa.UK
open Go.RowKit Go.Proofs.YtmmkpaoibekmjaaW.PrintWords Go.Proofs.YtmmkpaoibekmjaaW.PrintMore Go.Proofs.Ytmmkpaoibekmjaa.P Go.Proofs.Ytmmkpaoibekmjaa.U Go.Proofs.Ytmmkpaoibekmjaa.UT
set_option linter.unusedVariables false

theorem held1_l (n : Int) (hn : 0 ≤ n ∧ n ≤ 4398046511104) (m : Nat) (hm : m ≤ 1048576) : ∀ d i, i + d = m → Ev (fun k => laws_heldIntS.l0 k (mk1 m n) (n + i) (i : Int)) (n + m) := by
  intro d
  induction d with
  | zero =>
    intro i hi
    refine Ev.step (fun k => by simp only [laws_heldIntS.l0]; rfl) (ev_neg (by rw [mk1_length]; omega) (ev_const ?_))
    rw [show i = m by omega]
  | succ d ih =>
    intro i hi
    have hlt : i < (mk1 m n).length := by rw [mk1_length]; omega
    refine Ev.step (fun k => by simp only [laws_heldIntS.l0]; rfl) (ev_pos (by omega) (ev_pos (by omega) ?_))
    rw [wsucc (n := m) (by omega) (by omega), wr (x := n + (i : Int) + 1) (by omega) (by omega), rd_at _ i hlt, mk1_get]
    refine ev_pos rfl ?_
    rw [show n + (i : Int) + 1 = n + ((i + 1 : Nat) : Int) by omega]
    exact ih (i + 1) (by omega)
theorem held1 (m : Nat) (n : Int) (hn : 0 ≤ n ∧ n ≤ 4398046511104) (hm : m ≤ 1048576) : Ev (fun k => laws_heldIntS.f k (mk1 m n) n) (n + (m : Int)) := by
  unfold laws_heldIntS.f
  have h := held1_l n hn m hm m 0 (by omega)
  rw [show n + ((0 : Nat) : Int) = n by omega] at h
  exact h

end Go.Proofs.Ytmmkpaoibekmjaa.UK
namespace Go.Proofs.Ytmmkpaoibekmjaa.UY
open Go.RowKit Go.Proofs.YtmmkpaoibekmjaaW.PrintWords Go.Proofs.YtmmkpaoibekmjaaW.PrintMore Go.Proofs.Ytmmkpaoibekmjaa.P Go.Proofs.Ytmmkpaoibekmjaa.U Go.Proofs.Ytmmkpaoibekmjaa.UT Go.Proofs.Ytmmkpaoibekmjaa.US
set_option linter.unusedVariables false

def pushAll (a p : List Int) : Nat → Nat → List (List Int) → List (List Int)
  | 0, _, out => out
  | d + 1, i, out => pushAll a p d (i + 1) (push out (p.getD i 0) (a.getD i 0))
def fin (out : List (List Int)) : List (List Int) × Bool := if okYard out = true then (out, true) else ([], false)
def okP (n : Nat) (p : List Int) : Bool := p.all fun s => inr s 0 ((n : Int) - 1)
theorem ap_impl (a p : List Int) (ha : a.length ≤ 5) (hp : p.length = a.length) (n : Nat) (hn : n ≤ 6) (hk : okP n p = true) : ∀ d i (out : List (List Int)), i + d = a.length → out.length = n → (∀ x, x ∈ out → x.length ≤ 4 + i) →
    Ev (fun k => impl_ApplyPlacement.l0 k a p (p.length : Int) (i : Int) out) (fin (pushAll a p d i out)) := by
  intro d
  induction d with
  | zero =>
    intro i out hi ho hr
    refine Ev.step (fun k => by simp only [impl_ApplyPlacement.l0]; rfl) (ev_neg (by omega) ?_)
    refine ev_call (show impl_IsValidYard.f out = some (okYard out) from rfl) ?_
    unfold pushAll fin
    cases okYard out
    · exact ev_neg (by simp) (ev_const rfl)
    · exact ev_pos rfl (ev_const rfl)
  | succ d ih =>
    intro i out hi ho hr
    have hlt : i < a.length := by omega
    have hlp : i < p.length := by omega
    have h := List.all_eq_true.mp hk p[i] (List.getElem_mem hlp)
    obtain ⟨h0, h1⟩ := inr_iff.mp h
    have hm := hr _ (rdl_mem (l := out) h0 (by omega))
    refine Ev.step (fun k => by simp only [impl_ApplyPlacement.l0]; rfl) (ev_pos (by omega) (ev_pos (by omega) (ev_pos (by omega) ?_)))
    rw [rd_at p i hlp, rd_at a i hlt, wsucc hlt (by omega)]
    refine ev_pos h0 (ev_pos (by omega) (ev_pos (by omega) (ev_pos (by omega) ?_)))
    have hh := ih (i + 1) (push out p[i] a[i]) (by omega) (by rw [push_len]; exact ho) (push_rows hr h0 (by omega))
    unfold pushAll
    rw [getD_at p i 0 hlp, getD_at a i 0 hlt]
    exact hh
theorem okStacks_eq (l : List (List Int)) (p : List Int) (h : okYard l = true) : okStacks l p = okP l.length p := by
  unfold okStacks okP
  rw [h, Bool.true_and, Bool.eq_iff_iff]
  simp
theorem pushAll_len (a p : List Int) : ∀ d i (out : List (List Int)), (pushAll a p d i out).length = out.length
  | 0, _, _ => rfl
  | d + 1, i, out => by rw [pushAll, pushAll_len a p d, push_len]
def low (h : Int) (l : List (List Int)) : Bool := l.all fun r => decide ((r.length : Int) ≤ h)
theorem low_at {h : Int} {l : List (List Int)} (hl : low h l = true) (j : Nat) (hj : j < l.length) : ((l.getD j []).length : Int) ≤ h := by
  rw [getD_at _ _ _ hj]
  exact of_decide_eq_true (List.all_eq_true.mp hl _ (List.getElem_mem hj))
theorem chkRow_full : ∀ (l s : List Int), (∀ x, x ∈ l → inr x 1 99 = true) → l.Nodup → (∀ x, x ∈ l → ¬ x ∈ s) → ∃ t, chkRow l s = some t ∧ ∀ x, x ∈ t ↔ x ∈ s ∨ x ∈ l
  | [], s, _, _, _ => ⟨s, rfl, fun x => by simp⟩
  | n :: l, s, h1, h2, h3 => by
    obtain ⟨g1, g2⟩ := List.nodup_cons.mp h2
    obtain ⟨t, ht, hm⟩ := chkRow_full l (n :: s) (fun x hx => h1 x (List.mem_cons_of_mem _ hx)) g2 (fun x hx hs => by
      rcases List.mem_cons.mp hs with rfl | hs
      · exact g1 hx
      · exact h3 x (List.mem_cons_of_mem _ hx) hs)
    refine ⟨t, ?_, fun x => by rw [hm, List.mem_cons, List.mem_cons]; grind⟩
    unfold chkRow
    have hc : s.contains n = false := by
      have := h3 n List.mem_cons_self
      simpa using this
    rw [h1 n List.mem_cons_self, hc]
    exact ht
theorem chkRows_full (h : Int) : ∀ (l : List (List Int)) (s : List Int), (∀ x, x ∈ l.flatten → inr x 1 99 = true) → l.flatten.Nodup → (∀ x, x ∈ l.flatten → ¬ x ∈ s) → (chkRows h l s).isSome = low h l
  | [], s, _, _, _ => rfl
  | r :: l, s, h1, h2, h3 => by
    rw [List.flatten_cons] at h1 h2 h3
    obtain ⟨n1, n2, n3⟩ := List.nodup_append.mp h2
    unfold chkRows low
    rw [List.all_cons]
    by_cases hc : (r.length : Int) ≤ h
    · rw [if_pos hc, decide_eq_true hc, Bool.true_and]
      obtain ⟨t, ht, hm⟩ := chkRow_full r s (fun x hx => h1 x (List.mem_append_left _ hx)) n1 (fun x hx => h3 x (List.mem_append_left _ hx))
      rw [ht]
      exact chkRows_full h l t (fun x hx => h1 x (List.mem_append_right _ hx)) n2 (fun x hx hs => by
        rcases (hm x).mp hs with hs | hs
        · exact h3 x (List.mem_append_right _ hx) hs
        · exact n3 x hs x hx rfl)
    · rw [if_neg hc, decide_eq_false hc]; rfl
def merge (a x : List Int × Int) : List Int × Int := if 0 ≤ x.2 ∧ (a.2 < 0 ∨ x.2 < a.2) then x else a
theorem merge_assoc (s a x : List Int × Int) : merge s (merge a x) = merge (merge s a) x := by
  unfold merge
  repeat' split
  all_goals first | rfl | (exfalso; simp only [not_and_or, not_or, not_lt, not_le] at *; omega) | omega
theorem merge_none (s : List Int × Int) : merge s ([], -1) = s := by
  unfold merge; rw [if_neg]; simp
def sBr (f : Nat → List Int × Int) (full : Nat → Bool) : Nat → Nat → List Int × Int → List Int × Int
  | 0, _, acc => acc
  | c + 1, j, acc => sBr f full c (j + 1) (if full j = true then acc else merge acc (f j))
theorem sBr_merge (f : Nat → List Int × Int) (full : Nat → Bool) (s : List Int × Int) : ∀ c j acc, sBr f full c j (merge s acc) = merge s (sBr f full c j acc)
  | 0, _, _ => rfl
  | c + 1, j, acc => by
    rw [sBr, sBr]
    by_cases h : full j = true
    · rw [if_pos h, if_pos h]; exact sBr_merge f full s c (j + 1) acc
    · rw [if_neg h, if_neg h, ← merge_assoc]; exact sBr_merge f full s c (j + 1) _
theorem sBr_ind (P : List Int × Int → Prop) (f : Nat → List Int × Int) (full : Nat → Bool) (hf : ∀ j, P (f j)) : ∀ c j acc, P acc → P (sBr f full c j acc)
  | 0, _, _, h => h
  | c + 1, j, acc, h => by
    rw [sBr]
    refine sBr_ind P f full hf c (j + 1) _ ?_
    split
    · exact h
    · unfold merge
      split
      · exact hf j
      · exact h
theorem in_flat (l : List (List Int)) (v : Int) : inYard l v = true ↔ v ∈ l.flatten := by
  unfold inYard
  rw [List.any_eq_true, List.mem_flatten]
  constructor
  · rintro ⟨r, h1, h2⟩; exact ⟨r, h1, by simpa using h2⟩
  · rintro ⟨r, h1, h2⟩; exact ⟨r, h1, by simpa using h2⟩
theorem arrs_ok (l : List (List Int)) : ∀ (xs pre : List Int), arrs l pre xs = true → (∀ x, x ∈ xs → (1 ≤ x ∧ x ≤ 99) ∧ ¬ x ∈ l.flatten ∧ ¬ x ∈ pre) ∧ xs.Nodup
  | [], _, _ => ⟨fun x hx => (List.not_mem_nil hx).elim, List.nodup_nil⟩
  | y :: xs, pre, h => by
    unfold arrs at h
    simp only [Bool.and_eq_true, Bool.not_eq_true'] at h
    obtain ⟨h1, h2, h3, h4⟩ := h
    obtain ⟨g1, g2⟩ := arrs_ok l xs (pre ++ [y]) h4
    have hy : ¬ y ∈ l.flatten := fun hm => by rw [(in_flat l y).mpr hm] at h2; cases h2
    have hp : ¬ y ∈ pre := fun hm => by rw [List.contains_iff_mem.mpr hm] at h3; cases h3
    refine ⟨fun x hx => ?_, List.nodup_cons.mpr ⟨fun hm => (g1 y hm).2.2 (List.mem_append_right _ List.mem_cons_self), g2⟩⟩
    rcases List.mem_cons.mp hx with rfl | hx
    · exact ⟨inr_iff.mp h1, hy, hp⟩
    · exact ⟨(g1 x hx).1, (g1 x hx).2.1, fun hm => (g1 x hx).2.2 (List.mem_append_left _ hm)⟩
abbrev tabA (l : List (List Int)) (a p : List Int) : List (List Int) := pushAll a p p.length 0 l
theorem pushAll_more (a p : List Int) (x : Int) : ∀ d i (out : List (List Int)), i + d = p.length → pushAll a (p ++ [x]) (d + 1) i out = push (pushAll a p d i out) x (a.getD p.length 0)
  | 0, i, out, h => by
    rw [pushAll, pushAll, pushAll, show i = p.length by omega, show (p ++ [x]).getD p.length 0 = x by simp [List.getD]]
  | d + 1, i, out, h => by
    rw [pushAll, pushAll_more a p x d (i + 1) _ (by omega), show (p ++ [x]).getD i 0 = p.getD i 0 by rw [List.getD, List.getD, List.getElem?_append_left (by omega)]]
    conv => rhs; rw [pushAll]
theorem tab_more (l : List (List Int)) (a p : List Int) (x : Int) : tabA l a (p ++ [x]) = push (tabA l a p) x (a.getD p.length 0) := by
  show pushAll a (p ++ [x]) (p ++ [x]).length 0 _ = _
  rw [List.length_append, List.length_singleton]
  exact pushAll_more a p x p.length 0 _ (by omega)
theorem tab_len (l : List (List Int)) (a p : List Int) : (tabA l a p).length = l.length := pushAll_len _ _ _ _ _
theorem rng_more {n : Nat} {p : List Int} (hr : okP n p = true) {j : Nat} (hj : j < n) : okP n (p ++ [(j : Int)]) = true := by
  unfold okP at hr ⊢
  rw [List.all_append, hr, List.all_cons, List.all_nil, show inr (j : Int) 0 ((n : Int) - 1) = true from inr_iff.mpr (by omega)]; rfl
theorem getD_out (l : List (List Int)) (j : Nat) (h : l.length ≤ j) : l.getD j [] = [] := by simp [List.getD, List.getElem?_eq_none h]
theorem flat_set : ∀ (l : List (List Int)) (k : Nat) (h : k < l.length) (n : Int), ((l.set k (l[k] ++ [n])).flatten).Perm (n :: l.flatten)
  | x :: l, 0, h, n => by
    rw [List.set_cons_zero, List.flatten_cons, List.flatten_cons, List.getElem_cons_zero, List.append_assoc]
    exact List.perm_middle
  | x :: l, k + 1, h, n => by
    rw [List.set_cons_succ, List.flatten_cons, List.flatten_cons, List.getElem_cons_succ]
    exact ((flat_set l k (by simpa using h) n).append_left x).trans List.perm_middle
theorem push_ge (l : List (List Int)) (s n : Int) (j : Nat) : (l.getD j []).length ≤ ((push l s n).getD j []).length := by
  unfold push
  by_cases hj : j < l.length
  · have hj2 : j < (l.set s.toNat (rd_L1 l s ++ [n])).length := by rw [List.length_set]; exact hj
    rw [getD_at _ _ _ hj, getD_at _ _ _ hj2, List.getElem_set]
    split
    · rename_i he
      have e : rd_L1 l s = l[j] := by
        unfold rd_L1
        rw [he]
        exact getD_at l j _ hj
      rw [e, List.length_append]; omega
    · exact Nat.le_refl _
  · rw [getD_out _ _ (by omega)]; simp
/-- The numbers that stand in the yard. -/
theorem tab_flat (n : Nat) (a p : List Int) (hr : okP n p = true) : ∀ d i (out : List (List Int)), i + d = p.length → p.length ≤ a.length → out.length = n → (pushAll a p d i out).flatten.Perm ((a.drop i).take d ++ out.flatten)
  | 0, i, out, _, _, _ => by rw [pushAll, List.take_zero, List.nil_append]
  | d + 1, i, out, hi, ha, ho => by
    have hlt : i < p.length := by omega
    have hla : i < a.length := by omega
    obtain ⟨g0, g1⟩ := inr_iff.mp (List.all_eq_true.mp hr p[i] (List.getElem_mem hlt))
    have hk : p[i].toNat < out.length := by omega
    have e : push out p[i] a[i] = out.set p[i].toNat (out[p[i].toNat] ++ [a[i]]) := by
      unfold push rd_L1
      rw [getD_at _ _ _ hk]
    have hp := flat_set out p[i].toNat hk a[i]
    rw [← e] at hp
    rw [pushAll, getD_at p i 0 hlt, getD_at a i 0 hla, List.drop_eq_getElem_cons hla, List.take_succ_cons]
    refine (tab_flat n a p hr d (i + 1) _ (by omega) ha (by rw [push_len]; exact ho)).trans ?_
    exact ((List.Perm.append_left _ hp).trans List.perm_middle)
theorem over_more {l : List (List Int)} {a p : List Int} (x : Int) (ho : low 4 (tabA l a p) = false) : low 4 (tabA l a (p ++ [x])) = false := by
  rw [tab_more]
  obtain ⟨r, hr, hh⟩ := List.all_eq_false.mp ho
  obtain ⟨j, hj, rfl⟩ := List.getElem_of_mem hr
  have hj2 : j < (push (tabA l a p) x (a.getD p.length 0)).length := by rw [push_len]; exact hj
  refine List.all_eq_false.mpr ⟨(push (tabA l a p) x (a.getD p.length 0))[j], List.getElem_mem hj2, ?_⟩
  have hg := push_ge (tabA l a p) x (a.getD p.length 0) j
  rw [getD_at _ _ _ hj, getD_at _ _ _ hj2] at hg
  simp only [decide_eq_true_eq] at hh ⊢
  omega
theorem low_more {l : List (List Int)} {a p : List Int} (hl : low 4 (tabA l a p) = true) {j : Nat} (hj : j < l.length) : low 4 (tabA l a (p ++ [(j : Int)])) = !decide ((((tabA l a p).getD j []).length : Int) = 4) := by
  rw [tab_more]
  have hjt : j < (tabA l a p).length := by rw [tab_len]; exact hj
  have hb := low_at hl j hjt
  have e : push (tabA l a p) (j : Int) (a.getD p.length 0) = (tabA l a p).set j ((tabA l a p).getD j [] ++ [a.getD p.length 0]) := rfl
  by_cases hc : (((tabA l a p).getD j []).length : Int) = 4
  · rw [decide_eq_true hc]
    refine List.all_eq_false.mpr ⟨(tabA l a p).getD j [] ++ [a.getD p.length 0], ?_, ?_⟩
    · rw [e]; exact List.mem_set hjt _
    · rw [List.length_append, List.length_singleton]; simp only [decide_eq_true_eq]; omega
  · rw [decide_eq_false hc]
    refine List.all_eq_true.mpr fun r hr => ?_
    rw [e] at hr
    rcases List.mem_or_eq_of_mem_set hr with hr | rfl
    · exact List.all_eq_true.mp hl r hr
    · rw [List.length_append, List.length_singleton]; exact decide_eq_true (by omega)
theorem yard_low {l : List (List Int)} {a : List Int} (hy : okYard l = true) (hs : arrs l [] a = true) (p : List Int) (hp : p.length ≤ a.length) (hr : okP l.length p = true) : okYard (tabA l a p) = low 4 (tabA l a p) := by
  have hm := okYard_mem hy
  have hy2 := hy
  unfold okYard at hy2
  rw [Bool.and_eq_true] at hy2
  obtain ⟨t, ht⟩ := Option.isSome_iff_exists.mp hy2.2
  have h1 := (chkRows_once 4 l [] t ht).2.1
  obtain ⟨g1, g2⟩ := arrs_ok l a [] hs
  have hf := tab_flat l.length a p hr p.length 0 l (by omega) hp rfl
  rw [List.drop_zero] at hf
  have hin : ∀ x, x ∈ l.flatten → inr x 1 99 = true := fun x hx => by
    obtain ⟨r, hr1, hr2⟩ := List.mem_flatten.mp hx
    exact inr_iff.mpr ((hm.2 r hr1).2 x hr2)
  unfold okYard
  rw [show inr ((tabA l a p).length : Int) 1 6 = true by rw [tab_len]; exact hy2.1, Bool.true_and]
  refine chkRows_full 4 _ [] (fun x hx => ?_) (hf.nodup_iff.mpr ?_) (fun x hx hs => by cases hs)
  · rcases List.mem_append.mp (hf.mem_iff.mp hx) with hx | hx
    · exact inr_iff.mpr (g1 x (List.mem_of_mem_take hx)).1
    · exact hin x hx
  · refine List.nodup_append.mpr ⟨g2.sublist (List.take_sublist _ _), h1, fun x hx y hy2 e => ?_⟩
    subst e
    exact (g1 x (List.mem_of_mem_take hx)).2.1 hy2
def sB (l : List (List Int)) (a : List Int) : Nat → List Int → List Int × Int
  | 0, p => (p, ((puts [] (badA (tabA l a p))).length : Int))
  | d + 1, p => sBr (fun j => sB l a d (p ++ [(j : Int)])) (fun j => decide ((((tabA l a p).getD j []).length : Int) = 4)) l.length 0 ([], -1)
theorem sB_len (l : List (List Int)) (a : List Int) : ∀ d p, (sB l a d p).1.length ≤ p.length + d
  | 0, p => by rw [sB]; simp
  | d + 1, p => by
    rw [sB]
    refine sBr_ind (fun x => x.1.length ≤ p.length + (d + 1)) _ _ (fun j => ?_) l.length 0 _ (by simp)
    have := sB_len l a d (p ++ [(j : Int)])
    rw [List.length_append, List.length_singleton] at this
    omega
theorem sB_two (l : List (List Int)) (a : List Int) : ∀ d p, sB l a d p = ([], -1) ∨ 0 ≤ (sB l a d p).2
  | 0, p => by rw [sB]; exact .inr (by show (0 : Int) ≤ _; omega)
  | d + 1, p => by
    rw [sB]
    exact sBr_ind (fun x => x = ([], -1) ∨ 0 ≤ x.2) _ _ (fun j => sB_two l a d _) l.length 0 _ (.inl rfl)
section
variable {l : List (List Int)} {a : List Int} (hy : okYard l = true) (hs : arrs l [] a = true) (ha : a.length ≤ 5)
include hy hs ha
theorem apply_ev (p : List Int) (hp : p.length = a.length) (hr : okP l.length p = true) : Ev (fun k => impl_ApplyPlacement.f k l a p) (fin (tabA l a p)) := by
  obtain ⟨⟨hl1, hl6⟩, hrw⟩ := okYard_mem hy
  have hr4 : ∀ x, x ∈ l → x.length ≤ 4 + 0 := fun x hx => (hrw x hx).1
  have hn : l.length ≤ 1048576 := by omega
  have hx : ∀ x, x ∈ l → x.length ≤ 1048576 := fun x hx => by have := hr4 x hx; omega
  have h2 := asked_impl l hn hx a (by omega)
  rw [hy, hs, show decide ((a.length : Int) ≤ 5) = true from decide_eq_true (by omega)] at h2
  have e2 := ap_impl a p ha hp l.length hl6 hr a.length 0 l (by omega) rfl hr4
  rw [← hp] at e2
  unfold impl_ApplyPlacement.f
  refine Ev.bind h2 (ev_pos rfl (ev_pos (by omega) (ev_call (show impl_hasStack.f l p = some (okStacks l p) from rfl) ?_)))
  rw [okStacks_eq l p hy, hr]
  exact Ev.step (fun k => by simp only [impl_ApplyPlacement.j0]; rfl) (ev_neg (by simp) (Ev.bind (own_impl l hn hx) e2))
theorem step_ev (p : List Int) (hp : p.length = a.length) (hr : okP l.length p = true) (s : List Int × Int) : Ev (fun k => bpStep k l a s p) (if low 4 (tabA l a p) = true then merge s (sB l a 0 p) else s) := by
  have hpl := apply_ev hy hs ha p hp hr
  have hlow := yard_low hy hs p (by omega) hr
  unfold fin at hpl
  rw [hlow] at hpl
  by_cases hl : low 4 (tabA l a p) = true
  · rw [if_pos hl] at hpl ⊢
    unfold bpStep
    refine Ev.bind hpl (ev_pos rfl (Ev.bind (all_impl (hlow.trans hl)) ?_))
    unfold merge
    rw [sB]
    by_cases hc : s.2 < 0 ∨ ((puts [] (badA (tabA l a p))).length : Int) < s.2
    · exact ev_eq (ev_pos hc (ev_const rfl)) (if_pos ⟨by show (0 : Int) ≤ _; omega, hc⟩).symm
    · exact ev_eq (ev_neg hc (ev_const rfl)) (if_neg (fun h => hc h.2)).symm
  · rw [if_neg hl] at hpl ⊢
    unfold bpStep
    exact Ev.bind hpl (ev_neg (by simp) (ev_const rfl))
theorem go_ev : ∀ d p s, p.length + d = a.length → okP l.length p = true → Ev (fun k => chGo l.length (bpStep k l a) d p s) (if low 4 (tabA l a p) = true then merge s (sB l a d p) else s)
  | 0, p, s, hp, hr => by
    have := step_ev hy hs ha p (by omega) hr s
    exact this
  | d + 1, p, s, hp, hr => by
    have ih := go_ev d
    by_cases hl : low 4 (tabA l a p) = true
    · rw [if_pos hl, sB, ← sBr_merge, merge_none]
      have key : ∀ c j s1, j + c = l.length → Ev (fun k => chL (fun j s1 => chGo l.length (bpStep k l a) d (p ++ [(j : Int)]) s1) c j s1) (sBr (fun j => sB l a d (p ++ [(j : Int)])) (fun j => decide ((((tabA l a p).getD j []).length : Int) = 4)) c j s1) := by
        intro c
        induction c with
        | zero => intro j s1 hj; exact ev_const rfl
        | succ c ihc =>
          intro j s1 hj
          have h1 := ih (p ++ [(j : Int)]) s1 (by rw [List.length_append, List.length_singleton]; omega) (rng_more hr (by omega))
          rw [low_more hl (show j < l.length by omega)] at h1
          refine Ev.bind h1 ?_
          rw [sBr]
          have e : (if (!decide ((((tabA l a p).getD j []).length : Int) = 4)) = true then merge s1 (sB l a d (p ++ [(j : Int)])) else s1) = (if decide ((((tabA l a p).getD j []).length : Int) = 4) = true then s1 else merge s1 (sB l a d (p ++ [(j : Int)]))) := by
            cases decide ((((tabA l a p).getD j []).length : Int) = 4) <;> rfl
          rw [e]
          exact ihc (j + 1) _ (by omega)
      exact key l.length 0 s (by omega)
    · have hl2 : low 4 (tabA l a p) = false := by cases hq : low 4 (tabA l a p) <;> simp_all
      rw [if_neg hl]
      have key : ∀ c j s1, j + c = l.length → Ev (fun k => chL (fun j s1 => chGo l.length (bpStep k l a) d (p ++ [(j : Int)]) s1) c j s1) s1 := by
        intro c
        induction c with
        | zero => intro j s1 hj; exact ev_const rfl
        | succ c ihc =>
          intro j s1 hj
          have h1 := ih (p ++ [(j : Int)]) s1 (by rw [List.length_append, List.length_singleton]; omega) (rng_more hr (by omega))
          rw [over_more _ hl2, if_neg (by simp)] at h1
          exact Ev.bind h1 (ihc (j + 1) s1 (by omega))
      exact key l.length 0 s (by omega)
end
/-- The reference's search. -/
theorem spec_ev {l : List (List Int)} {a : List Int} (h6 : l.length ≤ 6) (ha : a.length ≤ 5) : ∀ d p, p.length + d = a.length → low 4 (tabA l a p) = true → Ev (fun k => spec_l8Best.f k (tabA l a p) a p) (sB l a d p)
  | 0, p, hp, hl => by
    have h4 : ∀ x, x ∈ tabA l a p → x.length ≤ 4 := fun x hx => by have := of_decide_eq_true (List.all_eq_true.mp hl x hx); omega
    refine Ev.step (fun k => by simp only [spec_l8Best.f]; rfl) ?_
    refine ev_pos (by omega) ?_
    exact Ev.bind (bad_ev (by rw [tab_len]; exact h6) h4) (ev_const rfl)
  | d + 1, p, hp, hl => by
    have ih := spec_ev h6 ha d
    have h4 : ∀ x, x ∈ tabA l a p → x.length ≤ 4 := fun x hx => by have := of_decide_eq_true (List.all_eq_true.mp hl x hx); omega
    have hown := own_spec (tabA l a p) (by rw [tab_len]; omega) (fun x hx => by have := h4 x hx; omega)
    refine Ev.step (fun k => by simp only [spec_l8Best.f]; rfl) ?_
    refine ev_neg (by omega) ?_
    rw [sB]
    have key : ∀ c j acc, j + c = l.length → Ev (fun k => spec_l8Best.l0 k a p (p.length : Int) acc.1 acc.2 (j : Int) (tabA l a p)) (sBr (fun j => sB l a d (p ++ [(j : Int)])) (fun j => decide ((((tabA l a p).getD j []).length : Int) = 4)) c j acc) := by
      intro c
      induction c with
      | zero => intro j acc hj; exact Ev.step (fun k => by simp only [spec_l8Best.l0]; rfl) (ev_neg (by rw [tab_len]; omega) (ev_const rfl))
      | succ c ihc =>
        intro j acc hj
        have hjt : j < (tabA l a p).length := by rw [tab_len]; omega
        have hjl : j < l.length := by omega
        have hpa : p.length < a.length := by omega
        have hrd : rd_L1 (tabA l a p) (j : Int) = (tabA l a p).getD j [] := by unfold rd_L1; rw [Int.toNat_natCast]
        refine Ev.step (fun k => by simp only [spec_l8Best.l0]; rfl) (ev_pos (by omega) (ev_pos (by omega) ?_))
        rw [hrd, wsucc hjl (by omega), sBr]
        by_cases hc : (((tabA l a p).getD j []).length : Int) = 4
        · rw [if_pos (decide_eq_true hc)]
          exact ev_pos hc (ihc (j + 1) acc (by omega))
        · rw [if_neg (by simpa using hc)]
          have hlow : low 4 (tabA l a (p ++ [(j : Int)])) = true := by rw [low_more hl hjl, decide_eq_false hc]; rfl
          have hrec := ih (p ++ [(j : Int)]) (by rw [List.length_append, List.length_singleton]; omega) hlow
          have hb := low_at hl j hjt
          refine ev_neg hc (Ev.bind hown ?_)
          refine ev_pos (by omega) (ev_pos (by omega) (ev_pos (by omega) ?_))
          rw [hrd]
          refine ev_pos (by omega) (ev_call (own1_spec p (by omega)) (ev_call (show some (([(j : Int)] : List Int) : List Int) = some [(j : Int)] from rfl) (ev_pos (by simp; omega) ?_)))
          have ep : (tabA l a p).set (j : Int).toNat ((tabA l a p).getD j [] ++ [rd a (p.length : Int)]) = tabA l a (p ++ [(j : Int)]) := by
            rw [tab_more, rd_at a p.length hpa, getD_at a p.length 0 hpa]
            show _ = (tabA l a p).set (j : Int).toNat (rd_L1 (tabA l a p) (j : Int) ++ [a[p.length]])
            rw [hrd]
          rw [ep]
          refine Ev.bind hrec ?_
          have hgo := ihc (j + 1) (merge acc (sB l a d (p ++ [(j : Int)]))) (by omega)
          generalize sB l a d (p ++ [(j : Int)]) = x at hgo ⊢
          unfold merge at hgo ⊢
          by_cases c1 : x.2 ≥ 0
          · refine ev_pos c1 ?_
            by_cases c2 : acc.2 < 0
            · rw [if_pos ⟨c1, .inl c2⟩] at hgo ⊢
              exact ev_pos c2 hgo
            · refine ev_neg c2 ?_
              by_cases c3 : x.2 < acc.2
              · rw [if_pos ⟨c1, .inr c3⟩] at hgo ⊢
                exact ev_pos c3 hgo
              · rw [if_neg (fun hq => hq.2.elim c2 c3)] at hgo ⊢
                exact ev_neg c3 hgo
          · rw [if_neg (fun hq => c1 hq.1)] at hgo ⊢
            exact ev_neg c1 hgo
    exact key l.length 0 ([], -1) (by omega)
theorem best_same (l : List (List Int)) (hn : l.length ≤ 1048576) (hx : ∀ x, x ∈ l → x.length ≤ 1048576) (a : List Int) (ha : a.length ≤ 1048576) :
    ∃ (r : List Int) (m : Int) (b : Bool), Ev (fun k => spec_BestPlacement.f k l a) (r, m, b) ∧ Ev (fun k => impl_BestPlacement.f k l a) (r, m, b) ∧ r.length ≤ 1048576 := by
  unfold spec_BestPlacement.f impl_BestPlacement.f
  have h1 := asked_spec l hn hx a ha
  have h2 := asked_impl l hn hx a ha
  cases h : (okYard l && (arrs l [] a && decide ((a.length : Int) ≤ 5)))
  · rw [h] at h1 h2
    exact ⟨[], 0, false, Ev.bind h1 (ev_neg (by simp) (ev_const rfl)), Ev.bind h2 (ev_neg (by simp) (ev_const rfl)), by simp⟩
  rw [h] at h1 h2
  obtain ⟨hy, hh⟩ := Bool.and_eq_true_iff.mp h
  obtain ⟨hs, h5⟩ := Bool.and_eq_true_iff.mp hh
  have ha5 : a.length ≤ 5 := by have := of_decide_eq_true h5; omega
  obtain ⟨⟨hl1, hl6⟩, hr⟩ := okYard_mem hy
  have hl0 : low 4 (tabA l a []) = true := List.all_eq_true.mpr fun r hr2 => decide_eq_true (by have := (hr r hr2).1; omega)
  have e1 := spec_ev hl6 ha5 a.length [] (by simp) hl0
  have e2 := go_ev hy hs ha5 a.length [] ([], -1) (by simp) rfl
  rw [if_pos hl0] at e2
  have hlen := sB_len l a a.length []
  have e3 : merge ([], -1) (sB l a a.length []) = sB l a a.length [] := by
    unfold merge
    rcases sB_two l a a.length [] with h1 | h1
    · rw [h1]; simp
    · rw [if_pos ⟨h1, .inl (by decide)⟩]
  rw [e3] at e2
  by_cases hneg : (sB l a a.length []).2 < 0
  · exact ⟨[], 0, false, Ev.bind h1 (ev_pos rfl (Ev.bind e1 (ev_pos hneg (ev_const rfl)))), Ev.bind h2 (ev_pos rfl (ev_pos ⟨by omega, by omega⟩ (Ev.bind e2 (ev_pos hneg (ev_const rfl))))), by simp⟩
  · exact ⟨(sB l a a.length []).1, (sB l a a.length []).2, true, Ev.bind h1 (ev_pos rfl (Ev.bind e1 (ev_neg hneg (ev_const rfl)))), Ev.bind h2 (ev_pos rfl (ev_pos ⟨by omega, by omega⟩ (Ev.bind e2 (ev_neg hneg (ev_const rfl))))), by simp at hlen; omega⟩
end Go.Proofs.Ytmmkpaoibekmjaa.UY
