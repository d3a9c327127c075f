/- UTab, UYard, UYardMem, UCont, UFindW, UMark, UMarkC, UMarkH, UMark2, UOwn, UHelp, as one text. -/
import Derived.Test.YtlbmookfonlpjaaPx0
import Derived.Test.YtlbmookfonlpjaaPx1
import Derived.Test.YtlbmookfonlpjaaPx10
import Derived.Test.YtlbmookfonlpjaaPx11
import Derived.Test.YtlbmookfonlpjaaPx12
import Derived.Test.YtlbmookfonlpjaaPx15
import Derived.Test.YtlbmookfonlpjaaPx16
import Derived.Test.YtlbmookfonlpjaaPx17
import Derived.Test.YtlbmookfonlpjaaPx18
import Derived.Test.YtlbmookfonlpjaaPx19
import Derived.Test.YtlbmookfonlpjaaPx2
import Derived.Test.YtlbmookfonlpjaaPx20
import Derived.Test.YtlbmookfonlpjaaPx21
import Derived.Test.YtlbmookfonlpjaaPx22
import Derived.Test.YtlbmookfonlpjaaPx24
import Derived.Test.YtlbmookfonlpjaaPx3
import Derived.Test.YtlbmookfonlpjaaPx4
import Derived.Test.YtlbmookfonlpjaaPx5
import Derived.Test.YtlbmookfonlpjaaPx6
import Derived.Test.YtlbmookfonlpjaaPx7
import Derived.Test.YtlbmookfonlpjaaPx8
import Derived.Test.YtlbmookfonlpjaaPx9
import Derived.Test.YtlbmookfonlpjaaU
namespace Go.Proofs.Ytlbmookfonlpjaa.UT
open Go.RowKit Go.Proofs.YtlbmookfonlpjaaW.PrintWords Go.Proofs.YtlbmookfonlpjaaW.PrintMore Go.Proofs.Ytlbmookfonlpjaa.P Go.Proofs.Ytlbmookfonlpjaa.U
set_option linter.unusedVariables false

theorem rd_l1 (l : List (List Int)) (i : Nat) (h : i < l.length) : rd_L1 l (i : Int) = l[i] := by
  unfold rd_L1
  rw [Int.toNat_natCast]
  exact getD_at l i _ h

/-- What 'sz' leaves of n; -1 if it is too much. -/
def szT (l : List (List Int)) (n : Int) : Int := l.foldl (fun m x => if m < 0 then m else if m - (x.length : Int) < 0 then -1 else m - (x.length : Int)) n
theorem szT_neg (l : List (List Int)) : szT l (-1) = -1 := by
  unfold szT
  induction l with
  | nil => rfl
  | cons x l ih => rw [List.foldl_cons, if_pos (by omega)]; exact ih
theorem szT_le : ∀ (l : List (List Int)) (n : Int), 0 ≤ szT l n → ∀ x, x ∈ l → (x.length : Int) ≤ n
  | [], _, _, x, hx => by cases hx
  | y :: l, n, h, x, hx => by
    unfold szT at h
    rw [List.foldl_cons] at h
    change 0 ≤ szT l _ at h
    by_cases h0 : n < 0
    · rw [if_pos h0] at h
      exact absurd h (by
        have hk : ∀ (l : List (List Int)) (n : Int), n < 0 → szT l n < 0 := by
          intro l
          induction l with
          | nil => intro n hn; exact hn
          | cons z l ih => intro n hn; unfold szT; rw [List.foldl_cons, if_pos hn]; exact ih n hn
        have := hk l n h0
        omega)
    · rw [if_neg h0] at h
      by_cases h1 : n - (y.length : Int) < 0
      · rw [if_pos h1, szT_neg] at h
        omega
      · rw [if_neg h1] at h
        rcases List.mem_cons.1 hx with rfl | hx
        · omega
        · have := szT_le l _ h x hx
          omega
theorem sz1 (l : List Int) (n : Int) (hn : 0 ≤ n ∧ n ≤ 1048576) (hl : l.length ≤ 9223372036854775807) : laws_szIntS.f l n = some (if n - (l.length : Int) < 0 then -1 else n - (l.length : Int)) := by
  unfold laws_szIntS.f
  rw [wr (by omega) (by omega)]
  split <;> rfl
theorem sz_l (l : List (List Int)) (hl : l.length ≤ 9223372036854775807) (hx : ∀ x, x ∈ l → x.length ≤ 9223372036854775807) : ∀ d i (n : Int), i + d = l.length → 0 ≤ n ∧ n ≤ 1048576 → Ev (fun k => laws_szIntSS.l0 k l n (i : Int)) (szT (l.drop i) n) := by
  intro d
  induction d with
  | zero =>
    intro i n hi hn
    refine Ev.step (fun k => by simp only [laws_szIntSS.l0]; rfl) ?_
    refine ev_neg (by omega) (ev_const ?_)
    rw [List.drop_of_length_le (by omega)]; rfl
  | succ d ih =>
    intro i n hi hn
    have hlt : i < l.length := by omega
    refine Ev.step (fun k => by simp only [laws_szIntSS.l0]; rfl) ?_
    refine ev_pos (by omega) (ev_pos (by omega) ?_)
    rw [rd_l1 l i hlt, wsucc hlt hl, List.drop_eq_getElem_cons hlt]
    refine ev_call (sz1 _ n hn (hx _ (List.getElem_mem hlt))) ?_
    by_cases h1 : n - (l[i].length : Int) < 0
    · refine ev_eq (ev_pos (by rw [if_pos h1]; omega) (ev_const rfl)) ?_
      unfold szT
      rw [List.foldl_cons, if_neg (by omega), if_pos h1]
      exact (szT_neg _).symm
    · have e2 : szT (l[i] :: l.drop (i + 1)) n = szT (l.drop (i + 1)) (n - (l[i].length : Int)) := by
        unfold szT
        rw [List.foldl_cons, if_neg (by omega), if_neg h1]
      rw [e2, if_neg h1]
      exact ev_neg h1 (ih (i + 1) _ (by omega) (by omega))
/-- 'sz' of rows: it is small, or it is told as too much. -/
theorem sz_ev (l : List (List Int)) (hl : l.length ≤ 9223372036854775807) (hx : ∀ x, x ∈ l → x.length ≤ 9223372036854775807) :
    ∃ n, Ev (fun k => laws_szIntSS.f k l 1048576) n ∧ n ≤ 1048576 ∧ (0 ≤ n → l.length ≤ 1048576 ∧ ∀ x, x ∈ l → x.length ≤ 1048576) := by
  unfold laws_szIntSS.f
  have e : wrap64 (1048576 - (l.length : Int)) = 1048576 - (l.length : Int) := wr (by omega) (by omega)
  rw [e]
  by_cases h : 1048576 - (l.length : Int) < 0
  · exact ⟨-1, ev_pos h (ev_const rfl), by omega, fun h => by omega⟩
  · refine ⟨_, ev_neg h (sz_l l hl hx l.length 0 _ (by omega) (by omega)), ?_, fun h0 => ⟨by omega, fun x hx => ?_⟩⟩
    · have hk : ∀ (l : List (List Int)) (n : Int), n ≤ 1048576 → szT l n ≤ 1048576 := by
        intro l
        induction l with
        | nil => intro n hn; exact hn
        | cons z l ih =>
          intro n hn
          unfold szT
          rw [List.foldl_cons]
          refine ih _ ?_
          split
          · exact hn
          · split <;> omega
      exact hk _ _ (by omega)
    · have := szT_le _ _ h0 x hx
      omega

theorem to1_l (l : List Int) (hn : l.length ≤ 1048576) : ∀ d i (acc : List Int), i + d = l.length → acc.length = l.length → acc.take i = l.take i → Ev (fun k => laws_toIntS.l0 k l acc (i : Int)) l := by
  intro d
  induction d with
  | zero =>
    intro i acc hi ha ht
    refine Ev.step (fun k => by simp only [laws_toIntS.l0]; rfl) (ev_neg (by omega) (ev_const ?_))
    rw [List.take_of_length_le (by omega), List.take_of_length_le (by omega)] at ht
    rw [ht]
  | succ d ih =>
    intro i acc hi ha ht
    have hlt : i < l.length := by omega
    refine Ev.step (fun k => by simp only [laws_toIntS.l0]; rfl) ?_
    refine ev_pos (by omega) (ev_pos (by omega) (ev_pos (by omega) ?_))
    rw [wsucc hlt (by omega), Int.toNat_natCast, rd_at l i hlt]
    refine ih (i + 1) _ (by omega) (by rw [List.length_set]; exact ha) ?_
    rw [fill_step ht (by omega), List.take_succ_eq_append_getElem hlt]
theorem to1 (l : List Int) (hn : l.length ≤ 1048576) : Ev (fun k => laws_toIntS.f k l) l := by
  unfold laws_toIntS.f
  refine ev_pos (by omega) (ev_pos (by omega) ?_)
  exact to1_l l hn l.length 0 _ (by omega) (by simp) (by simp)
theorem to_l (l : List (List Int)) (hn : l.length ≤ 1048576) (hx : ∀ x, x ∈ l → x.length ≤ 1048576) : ∀ d i (acc : List (List Int)), i + d = l.length → acc.length = l.length → acc.take i = l.take i → Ev (fun k => laws_toIntSS.l0 k l acc (i : Int)) l := by
  intro d
  induction d with
  | zero =>
    intro i acc hi ha ht
    refine Ev.step (fun k => by simp only [laws_toIntSS.l0]; rfl) (ev_neg (by omega) (ev_const ?_))
    rw [List.take_of_length_le (by omega), List.take_of_length_le (by omega)] at ht
    rw [ht]
  | succ d ih =>
    intro i acc hi ha ht
    have hlt : i < l.length := by omega
    refine Ev.step (fun k => by simp only [laws_toIntSS.l0]; rfl) ?_
    refine ev_pos (by omega) (ev_pos (by omega) ?_)
    rw [wsucc hlt (by omega), Int.toNat_natCast, rd_l1 l i hlt]
    refine Ev.bind (to1 _ (hx _ (List.getElem_mem hlt))) (ev_pos (by omega) ?_)
    refine ih (i + 1) _ (by omega) (by rw [List.length_set]; exact ha) ?_
    rw [fill_step ht (by omega), List.take_succ_eq_append_getElem hlt]
theorem to_ev (l : List (List Int)) (hn : l.length ≤ 1048576) (hx : ∀ x, x ∈ l → x.length ≤ 1048576) : Ev (fun k => laws_toIntSS.f k l) l := by
  unfold laws_toIntSS.f
  refine ev_pos (by omega) (ev_pos (by omega) ?_)
  exact to_l l hn hx l.length 0 _ (by omega) (by simp) (by simp)

theorem eq1_l (l : List Int) (hn : l.length ≤ 9223372036854775807) : ∀ d i, i + d = l.length → Ev (fun k => laws_eqIntS.l0 k l l (i : Int)) true := by
  intro d
  induction d with
  | zero => intro i hi; exact Ev.step (fun k => by simp only [laws_eqIntS.l0]; rfl) (ev_neg (by omega) (ev_const rfl))
  | succ d ih =>
    intro i hi
    refine Ev.step (fun k => by simp only [laws_eqIntS.l0]; rfl) ?_
    refine ev_pos (by omega) (ev_pos (by omega) (ev_pos (by omega) (ev_pos (by simp) ?_)))
    rw [wsucc (show i < l.length by omega) (by omega)]
    exact ih (i + 1) (by omega)
theorem eq1 (l : List Int) (hn : l.length ≤ 9223372036854775807) : Ev (fun k => laws_eqIntS.f k l l) true := by
  unfold laws_eqIntS.f
  exact ev_pos rfl (eq1_l l hn l.length 0 (by omega))
theorem eq_l (l : List (List Int)) (hn : l.length ≤ 9223372036854775807) (hx : ∀ x, x ∈ l → x.length ≤ 9223372036854775807) : ∀ d i, i + d = l.length → Ev (fun k => laws_eqIntSS.l0 k l l (i : Int)) true := by
  intro d
  induction d with
  | zero => intro i hi; exact Ev.step (fun k => by simp only [laws_eqIntSS.l0]; rfl) (ev_neg (by omega) (ev_const rfl))
  | succ d ih =>
    intro i hi
    have hlt : i < l.length := by omega
    refine Ev.step (fun k => by simp only [laws_eqIntSS.l0]; rfl) ?_
    refine ev_pos (by omega) (ev_pos (by omega) (ev_pos (by omega) ?_))
    rw [rd_l1 l i hlt]
    refine Ev.bind (eq1 _ (hx _ (List.getElem_mem hlt))) (ev_pos rfl ?_)
    rw [wsucc hlt hn]
    exact ih (i + 1) (by omega)
theorem eq_ev (l : List (List Int)) (hn : l.length ≤ 9223372036854775807) (hx : ∀ x, x ∈ l → x.length ≤ 9223372036854775807) : Ev (fun k => laws_eqIntSS.f k l l) true := by
  unfold laws_eqIntSS.f
  exact ev_pos rfl (eq_l l hn hx l.length 0 (by omega))

theorem in_spec (a b c : Int) : spec_l1In.f a b c = some (inr a b c) := by
  unfold spec_l1In.f inr
  by_cases h : b ≤ a <;> simp [h]
theorem has_l (l : List Int) (v : Int) (hn : l.length ≤ 9223372036854775807) : ∀ d i, i + d = l.length → Ev (fun k => spec_l1Has.l0 k l v (i : Int)) ((l.drop i).contains v) := by
  intro d
  induction d with
  | zero =>
    intro i hi
    refine Ev.step (fun k => by simp only [spec_l1Has.l0]; rfl) (ev_neg (by omega) (ev_const ?_))
    rw [List.drop_of_length_le (by omega)]; rfl
  | succ d ih =>
    intro i hi
    have hlt : i < l.length := by omega
    refine Ev.step (fun k => by simp only [spec_l1Has.l0]; rfl) ?_
    refine ev_pos (by omega) (ev_pos (by omega) ?_)
    rw [rd_at l i hlt, wsucc hlt hn, List.drop_eq_getElem_cons hlt, List.contains_cons]
    by_cases e : l[i] = v
    · exact ev_eq (ev_pos e (ev_const rfl)) (by simp [e])
    · exact ev_eq (ev_neg e (ih (i + 1) (by omega))) (by simp [Ne.symm e])
theorem has_ev (l : List Int) (v : Int) (hn : l.length ≤ 9223372036854775807) : Ev (fun k => spec_l1Has.f k l v) (l.contains v) := by
  unfold spec_l1Has.f
  exact has_l l v hn l.length 0 (by omega)
end Go.Proofs.Ytlbmookfonlpjaa.UT
namespace Go.Proofs.Ytlbmookfonlpjaa.UY
open Go.RowKit Go.Proofs.YtlbmookfonlpjaaW.PrintWords Go.Proofs.YtlbmookfonlpjaaW.PrintMore Go.Proofs.Ytlbmookfonlpjaa.P Go.Proofs.Ytlbmookfonlpjaa.U Go.Proofs.Ytlbmookfonlpjaa.UT
set_option linter.unusedVariables false

theorem good_args {s : S24} (h : G24 s) : s.f0.length ≤ 9223372036854775807 ∧ ∀ x, x ∈ s.f0 → x.length ≤ 9223372036854775807 := ⟨h.1, fun x hx => (h.2 x hx).1⟩
theorem sz_yard (l : List (List Int)) (hl : l.length ≤ 9223372036854775807) (hx : ∀ x, x ∈ l → x.length ≤ 9223372036854775807) :
    ∃ n, Ev (fun k => laws_szYard.f k l 1048576) n ∧ (0 ≤ n → l.length ≤ 1048576 ∧ ∀ x, x ∈ l → x.length ≤ 1048576) := by
  obtain ⟨n, h1, h2, h3⟩ := sz_ev l hl hx
  unfold laws_szYard.f
  by_cases hn : n < 0
  · exact ⟨-1, Ev.bind h1 (ev_pos hn (ev_const rfl)), fun h => by omega⟩
  · exact ⟨n, Ev.bind h1 (ev_neg hn (ev_const rfl)), h3⟩
theorem to_yard (l : List (List Int)) (hn : l.length ≤ 1048576) (hx : ∀ x, x ∈ l → x.length ≤ 1048576) : Ev (fun k => laws_toYard.f k l) l := by
  unfold laws_toYard.f
  exact Ev.bind (to_ev l hn hx) (ev_const rfl)
theorem eq_yard (l : List (List Int)) (hn : l.length ≤ 9223372036854775807) (hx : ∀ x, x ∈ l → x.length ≤ 9223372036854775807) : Ev (fun k => laws_eqYard.f k l l) true := by
  unfold laws_eqYard.f
  exact (Ev.bind (eq_ev l hn hx) (ev_pos rfl (ev_const rfl)))

theorem contains_rev (s : List Int) (n : Int) : s.reverse.contains n = s.contains n := by
  rw [Bool.eq_iff_iff]; simp
/-- The reference's loops: what is left of the check. -/
theorem good_l (l : List (List Int)) (hn : l.length ≤ 9223372036854775807) (hx : ∀ x, x ∈ l → x.length ≤ 1048576) : ∀ d i (s : List Int), i + d = l.length → s.length ≤ i * 1048576 → l.length ≤ 1048576 →
    Ev (fun k => spec_l5Good.l0 k s.reverse (i : Int) l) ((chkRows 4 (l.drop i) s).isSome) := by
  intro d
  induction d with
  | zero =>
    intro i s hi hs _
    refine Ev.step (fun k => by simp only [spec_l5Good.l0]; rfl) ?_
    refine ev_neg (by omega) (ev_const ?_)
    rw [List.drop_of_length_le (by omega)]; rfl
  | succ d ih =>
    intro i s hi hs hll
    have hlt : i < l.length := by omega
    refine Ev.step (fun k => by simp only [spec_l5Good.l0]; rfl) ?_
    refine ev_pos (by omega) (ev_pos (by omega) ?_)
    rw [rd_l1 l i hlt, List.drop_eq_getElem_cons hlt]
    have hxi := hx _ (List.getElem_mem hlt)
    unfold chkRows
    by_cases hc : (l[i].length : Int) ≤ 4
    · rw [if_pos hc]
      refine ev_neg (by omega) ?_
      have inner : ∀ e j (s : List Int), j + e = l[i].length → s.length ≤ i * 1048576 + j → Ev (fun k => spec_l5Good.l1 k s.reverse (i : Int) (j : Int) l) (((chkRow (l[i].drop j) s).bind (chkRows 4 (l.drop (i + 1)))).isSome) := by
        intro e
        induction e with
        | zero =>
          intro j s hj hs
          refine Ev.step (fun k => by simp only [spec_l5Good.l1]; rfl) ?_
          refine ev_pos (by omega) (ev_pos (by omega) ?_)
          rw [rd_l1 l i hlt, wsucc hlt hn]
          refine ev_neg (by omega) ?_
          rw [List.drop_of_length_le (by omega)]
          exact ih (i + 1) s (by omega) (by omega) hll
        | succ e ihe =>
          intro j s hj hs
          have hjt : j < l[i].length := by omega
          refine Ev.step (fun k => by simp only [spec_l5Good.l1]; rfl) ?_
          refine ev_pos (by omega) (ev_pos (by omega) ?_)
          rw [rd_l1 l i hlt, rd_at _ j hjt, wsucc hjt (by omega), List.drop_eq_getElem_cons hjt]
          refine ev_pos (by omega) (ev_pos (by omega) ?_)
          refine ev_call (in_spec _ _ _) ?_
          cases h1 : inr l[i][j] 1 99
          · exact ev_eq (ev_neg (by simp) (ev_const rfl)) (by rw [chkRow_bad (by rw [h1]; rfl)]; rfl)
          refine ev_pos rfl ?_
          have hh := has_ev s.reverse l[i][j] (by rw [List.length_reverse]; omega)
          rw [contains_rev] at hh
          refine Ev.bind hh ?_
          cases h2 : s.contains l[i][j]
          · refine ev_neg (by simp) (ev_pos (by rw [List.length_reverse]; omega) ?_)
            rw [chkRow_ok (by rw [h1, h2]; rfl)]
            have e2 := ihe (j + 1) (l[i][j] :: s) (by omega) (by rw [List.length_cons]; omega)
            rw [List.reverse_cons] at e2
            exact e2
          · exact ev_eq (ev_pos rfl (ev_const rfl)) (by rw [chkRow_bad (by rw [h1, h2]; rfl)]; rfl)
      exact inner l[i].length 0 s (by omega) (Nat.le_trans hs (Nat.le_add_right _ _))
    · rw [if_neg hc]
      exact ev_pos (by omega) (ev_const rfl)
theorem good_spec (l : List (List Int)) (hn : l.length ≤ 1048576) (hx : ∀ x, x ∈ l → x.length ≤ 1048576) : Ev (fun k => spec_l5Good.f k l) (okYard l) := by
  unfold spec_l5Good.f okYard
  refine ev_call (in_spec _ _ _) ?_
  cases h2 : inr (l.length : Int) 1 6
  · exact ev_neg (by simp) (ev_const rfl)
  · exact ev_pos rfl (good_l l (by omega) hx l.length 0 [] (by omega) (by simp) hn)
end Go.Proofs.Ytlbmookfonlpjaa.UY
namespace Go.Proofs.Ytlbmookfonlpjaa.UY
open Go.RowKit Go.Proofs.YtlbmookfonlpjaaW.PrintWords Go.Proofs.YtlbmookfonlpjaaW.PrintMore Go.Proofs.Ytlbmookfonlpjaa.P Go.Proofs.Ytlbmookfonlpjaa.U Go.Proofs.Ytlbmookfonlpjaa.UT
set_option linter.unusedVariables false

/-! A valid yard. -/
theorem chkRow_mem : ∀ (l s t : List Int), chkRow l s = some t → ∀ n, n ∈ l → inr n 1 99 = true
  | [], _, _, _, n, hn => by cases hn
  | x :: l, s, t, h, n, hn => by
    unfold chkRow at h
    split at h
    · rename_i hc
      rw [Bool.and_eq_true] at hc
      rcases List.mem_cons.mp hn with rfl | hn
      · exact hc.1
      · exact chkRow_mem l _ _ h n hn
    · cases h
theorem chkRows_mem (cap : Int) : ∀ (l : List (List Int)) (s t : List Int), chkRows cap l s = some t → ∀ x, x ∈ l → (x.length : Int) ≤ cap ∧ ∀ n, n ∈ x → inr n 1 99 = true
  | [], _, _, _, x, hx => by cases hx
  | r :: l, s, t, h, x, hx => by
    unfold chkRows at h
    split at h
    · rename_i hc
      cases h1 : chkRow r s with
      | none => rw [h1] at h; cases h
      | some u =>
        rw [h1] at h
        rcases List.mem_cons.mp hx with rfl | hx
        · exact ⟨hc, chkRow_mem _ _ _ h1⟩
        · exact chkRows_mem cap l _ _ h x hx
    · cases h
theorem okYard_mem {l : List (List Int)} (h : okYard l = true) : (1 ≤ l.length ∧ l.length ≤ 6) ∧ ∀ x, x ∈ l → x.length ≤ 4 ∧ ∀ n, n ∈ x → 1 ≤ n ∧ n ≤ 99 := by
  unfold okYard at h
  rw [Bool.and_eq_true, inr_iff] at h
  obtain ⟨h1, h2⟩ := h
  obtain ⟨t, ht⟩ := Option.isSome_iff_exists.mp h2
  refine ⟨⟨by omega, by omega⟩, fun x hx => ?_⟩
  obtain ⟨h3, h4⟩ := chkRows_mem 4 l _ _ ht x hx
  exact ⟨by omega, fun n hn => inr_iff.mp (h4 n hn)⟩

theorem rdl_mem {l : List (List Int)} {s : Int} (h0 : 0 ≤ s) (h1 : s < (l.length : Int)) : rd_L1 l s ∈ l := by
  obtain ⟨n, rfl⟩ := Int.eq_ofNat_of_zero_le h0
  have h : n < l.length := by omega
  rw [show rd_L1 l (n : Int) = l[n] from rd_l1 l n h]
  exact List.getElem_mem h
end Go.Proofs.Ytlbmookfonlpjaa.UY
namespace Go.Proofs.Ytlbmookfonlpjaa.UC
open Go.RowKit Go.Proofs.YtlbmookfonlpjaaW.PrintWords Go.Proofs.YtlbmookfonlpjaaW.PrintMore Go.Proofs.Ytlbmookfonlpjaa.P Go.Proofs.Ytlbmookfonlpjaa.U Go.Proofs.Ytlbmookfonlpjaa.UT
set_option linter.unusedVariables false

abbrev C0 := S43
abbrev C := S50
theorem rd_c0 (l : List C0) (i : Nat) (h : i < l.length) : rd_T43 l (i : Int) = l[i] := by
  unfold rd_T43
  rw [Int.toNat_natCast]
  exact getD_at l i _ h
theorem rd_c (l : List C) (i : Nat) (h : i < l.length) : rd_T50 l (i : Int) = l[i] := by
  unfold rd_T50
  rw [Int.toNat_natCast]
  exact getD_at l i _ h
def cv (x : C0) : C := ⟨x.f0, x.f1, x.f2, x.f3, x.f4⟩

/-! Their sizes. -/
def szC : List C0 → Int → Int
  | [], n => n
  | x :: l, n => if n - (x.f0.size : Int) < 0 then -1 else szC l (n - (x.f0.size : Int))
theorem szC_le : ∀ (l : List C0) (n : Int), 0 ≤ szC l n → ∀ x, x ∈ l → (x.f0.size : Int) ≤ n
  | [], _, _, x, hx => by cases hx
  | y :: l, n, h, x, hx => by
    unfold szC at h
    by_cases hc : n - (y.f0.size : Int) < 0
    · rw [if_pos hc] at h; omega
    · rw [if_neg hc] at h
      rcases List.mem_cons.mp hx with rfl | hx
      · omega
      · have := szC_le l _ h x hx
        omega
theorem szc_l (l : List C0) (hl : l.length ≤ 9223372036854775807) (hx : ∀ x, x ∈ l → x.f0.size ≤ 9223372036854775807) : ∀ d i (n : Int), i + d = l.length → 0 ≤ n ∧ n ≤ 1048576 →
    Ev (fun k => laws_szContainerS.l0 k l n (i : Int)) (szC (l.drop i) n) := by
  intro d
  induction d with
  | zero =>
    intro i n hi hn
    refine Ev.step (fun k => by simp only [laws_szContainerS.l0]; rfl) ?_
    refine ev_neg (by omega) (ev_const ?_)
    rw [List.drop_of_length_le (by omega)]; rfl
  | succ d ih =>
    intro i n hi hn
    have hlt : i < l.length := by omega
    have hxi := hx _ (List.getElem_mem hlt)
    refine Ev.step (fun k => by simp only [laws_szContainerS.l0]; rfl) ?_
    refine ev_pos (by omega) (ev_pos (by omega) ?_)
    rw [rd_c0 l i hlt, wsucc hlt hl, List.drop_eq_getElem_cons hlt]
    have e : laws_szContainer.f l[i].f0 l[i].f1 l[i].f2 l[i].f3 l[i].f4 n = some (if n - (l[i].f0.size : Int) < 0 then -1 else n - (l[i].f0.size : Int)) := by
      unfold laws_szContainer.f
      rw [wr (x := n - (l[i].f0.size : Int)) (by omega) (by omega)]
      split <;> rfl
    refine ev_call e ?_
    unfold szC
    by_cases hc : n - (l[i].f0.size : Int) < 0
    · rw [if_pos hc, if_pos hc]; exact ev_pos (by omega) (ev_const rfl)
    · rw [if_neg hc, if_neg hc]; exact ev_neg (by omega) (ih (i + 1) _ (by omega) (by omega))
theorem szc_ev (l : List C0) (hl : l.length ≤ 9223372036854775807) (hx : ∀ x, x ∈ l → x.f0.size ≤ 9223372036854775807) (n : Int) (hn : 0 ≤ n ∧ n ≤ 1048576) :
    ∃ r, Ev (fun k => laws_szContainerS.f k l n) r ∧ r ≤ n ∧ (0 ≤ r → l.length ≤ 1048576 ∧ ∀ x, x ∈ l → x.f0.size ≤ 1048576) := by
  unfold laws_szContainerS.f
  rw [wr (x := n - (l.length : Int)) (by omega) (by omega)]
  by_cases hc : n - (l.length : Int) < 0
  · exact ⟨-1, ev_pos hc (ev_const rfl), by omega, fun h => by omega⟩
  · refine ⟨szC l (n - (l.length : Int)), ev_neg hc (szc_l l hl hx l.length 0 _ (by omega) (by omega)), ?_, fun h => ⟨by omega, fun x hx2 => ?_⟩⟩
    · have : ∀ (l : List C0) (m : Int), 0 ≤ m → szC l m ≤ m := by
        intro l
        induction l with
        | nil => intro m hm; exact Int.le_refl _
        | cons x l ih =>
          intro m hm
          unfold szC
          split
          · omega
          · have := ih (m - (x.f0.size : Int)) (by omega); omega
      have := this l (n - (l.length : Int)) (by omega)
      omega
    · have := szC_le l _ h x hx2
      omega

/-! To the other side, and beside it. -/
theorem toc_l (l : List C0) (hn : l.length ≤ 1048576) : ∀ d i (acc : List C), i + d = l.length → acc.length = l.length → acc.take i = (l.take i).map cv → Ev (fun k => laws_toContainerS.l0 k l acc (i : Int)) (l.map cv) := by
  intro d
  induction d with
  | zero =>
    intro i acc hi ha ht
    refine Ev.step (fun k => by simp only [laws_toContainerS.l0]; rfl) (ev_neg (by omega) ?_)
    rw [List.take_of_length_le (by omega), List.take_of_length_le (by omega)] at ht
    exact ev_const (by rw [ht])
  | succ d ih =>
    intro i acc hi ha ht
    refine Ev.step (fun k => by simp only [laws_toContainerS.l0]; rfl) (ev_pos (by omega) (ev_pos (by omega) (ev_call rfl (ev_pos (by omega) ?_))))
    rw [wsucc (show i < l.length by omega) (by omega), Int.toNat_natCast]
    refine ih (i + 1) _ (by omega) (by rw [List.length_set]; exact ha) ?_
    rw [fill_step ht (by omega), List.take_succ_eq_append_getElem (show i < l.length by omega), List.map_append]
    rw [rd_c0 l i (by omega)]
    rfl
theorem toc_ev (l : List C0) (hn : l.length ≤ 1048576) : Ev (fun k => laws_toContainerS.f k l) (l.map cv) := by
  unfold laws_toContainerS.f
  refine ev_pos (by omega) (ev_pos (by omega) ?_)
  exact toc_l l hn l.length 0 _ (by omega) (by simp) (by simp)
theorem eqc_l (l : List C) (hn : l.length ≤ 9223372036854775807) : ∀ d i, i + d = l.length → Ev (fun k => laws_eqContainerS.l0 k l l (i : Int)) true := by
  intro d
  induction d with
  | zero => intro i hi; exact Ev.step (fun k => by simp only [laws_eqContainerS.l0]; rfl) (ev_neg (by omega) (ev_const rfl))
  | succ d ih =>
    intro i hi
    refine Ev.step (fun k => by simp only [laws_eqContainerS.l0]; rfl) (ev_pos (by omega) (ev_pos (by omega) (ev_pos (by omega) (ev_call (a := true) (by simp [laws_eqContainer.f]) (ev_pos rfl ?_)))))
    rw [wsucc (show i < l.length by omega) (by omega)]
    exact ih (i + 1) (by omega)
theorem eqc_ev (l : List C) (hn : l.length ≤ 9223372036854775807) : Ev (fun k => laws_eqContainerS.f k l l) true := by
  unfold laws_eqContainerS.f
  exact ev_pos rfl (eqc_l l hn l.length 0 (by omega))

/-! The marks: three letters, four digits, the check letter. -/
def ltr (a : ByteArray) (i : Nat) : Bool := if i < 3 then inr (bt a (i : Int)) 65 90 else inr (bt a (i : Int)) 48 57
def val (a : ByteArray) (i : Nat) : Int := ((i : Int) + 2) * (if i < 3 then bt a (i : Int) - 64 else bt a (i : Int) - 48)
def chk (a : ByteArray) : Nat → Nat → Int → Option Int
  | 0, _, s => some s
  | d + 1, i, s => if ltr a i then chk a d (i + 1) (s + val a i) else none
theorem chk_isSome (a : ByteArray) : ∀ (d i : Nat) (s t : Int), (chk a d i s).isSome = (chk a d i t).isSome
  | 0, _, _, _ => rfl
  | d + 1, i, s, t => by
    unfold chk
    cases ltr a i
    · rfl
    · exact chk_isSome a d (i + 1) _ _
theorem val_range (a : ByteArray) (i : Nat) (hi : i < 7) (h : ltr a i = true) : 0 ≤ val a i ∧ val a i ≤ 1000 := by
  unfold ltr at h
  unfold val
  have hr := bt_range a (i : Int)
  rcases (show i = 0 ∨ i = 1 ∨ i = 2 ∨ i = 3 ∨ i = 4 ∨ i = 5 ∨ i = 6 by omega) with rfl | rfl | rfl | rfl | rfl | rfl | rfl <;> (simp [inr_iff] at h ⊢; omega)
theorem chk_range (a : ByteArray) : ∀ (d i : Nat) (s t : Int), i + d = 7 → 0 ≤ s ∧ s ≤ 1000 * i → chk a d i s = some t → 0 ≤ t ∧ t ≤ 7000
  | 0, i, s, t, hi, hs, h => by
    injection h with h; subst h; omega
  | d + 1, i, s, t, hi, hs, h => by
    unfold chk at h
    cases hl : ltr a i
    · rw [hl] at h; cases h
    · rw [hl, if_pos rfl] at h
      have := val_range a i (by omega) hl
      exact chk_range a d (i + 1) _ t (by omega) (by omega) h
theorem seven_l (a : ByteArray) (ha : a.size = 7) : ∀ (d i : Nat), i + d = 7 → Ev (fun k => spec_l2Seven.l0 k a (i : Int)) ((chk a d i 0).isSome) := by
  intro d
  induction d with
  | zero =>
    intro i hi
    refine Ev.step (fun k => by simp only [spec_l2Seven.l0]; rfl) ?_
    exact ev_neg (by omega) (ev_const rfl)
  | succ d ih =>
    intro i hi
    refine Ev.step (fun k => by simp only [spec_l2Seven.l0]; rfl) ?_
    refine ev_pos (by omega) ?_
    rw [wsucc (show i < 7 by omega) (by omega)]
    have h2 := ih (i + 1) (by omega)
    rw [chk_isSome a d (i + 1) 0 (0 + val a i)] at h2
    unfold chk
    by_cases h3 : i < 3
    · refine ev_pos (by omega) (ev_pos (by omega) (ev_pos (by omega) ?_))
      have el : ltr a i = inr (bt a (i : Int)) 65 90 := if_pos h3
      by_cases c1 : bt a (i : Int) < 65
      · refine ev_eq (ev_pos c1 (ev_const rfl)) ?_
        rw [el, inr_not.mpr (by omega)]; rfl
      · refine ev_neg c1 ?_
        by_cases c2 : bt a (i : Int) > 90
        · refine ev_eq (ev_pos c2 (ev_const rfl)) ?_
          rw [el, inr_not.mpr (by omega)]; rfl
        · refine ev_neg c2 (ev_neg (by omega) ?_)
          rw [el, inr_iff.mpr (by omega), if_pos rfl]
          exact h2
    · refine ev_neg (by omega) (ev_pos (by omega) (ev_pos (by omega) (ev_pos (by omega) ?_)))
      have el : ltr a i = inr (bt a (i : Int)) 48 57 := if_neg h3
      by_cases c1 : bt a (i : Int) < 48
      · refine ev_eq (ev_pos c1 (ev_const rfl)) ?_
        rw [el, inr_not.mpr (by omega)]; rfl
      · refine ev_neg c1 ?_
        by_cases c2 : bt a (i : Int) > 57
        · refine ev_eq (ev_pos c2 (ev_const rfl)) ?_
          rw [el, inr_not.mpr (by omega)]; rfl
        · refine ev_neg c2 ?_
          rw [el, inr_iff.mpr (by omega), if_pos rfl]
          exact h2
theorem check_l (a : ByteArray) (ha : a.size = 7) : ∀ (d i : Nat) (s t : Int), i + d = 7 → 0 ≤ s ∧ s ≤ 1000 * i → chk a d i s = some t → Ev (fun k => spec_l2Check.l0 k a s (i : Int)) (65 + t % 23) := by
  intro d
  induction d with
  | zero =>
    intro i s t hi hs h
    injection h with h; subst h
    refine Ev.step (fun k => by simp only [spec_l2Check.l0]; rfl) ?_
    refine ev_neg (by omega) (ev_const ?_)
    rw [Int.tmod_eq_emod_of_nonneg hs.1]
    have := Int.emod_nonneg s (show (23 : Int) ≠ 0 by decide)
    have := Int.emod_lt_of_pos s (show (0 : Int) < 23 by decide)
    congr 1; omega
  | succ d ih =>
    intro i s t hi hs h
    unfold chk at h
    cases hl : ltr a i
    · rw [hl] at h; cases h
    rw [hl, if_pos rfl] at h
    have hv := val_range a i (by omega) hl
    have h2 := ih (i + 1) _ t (by omega) (by omega) h
    have hr := bt_range a (i : Int)
    refine Ev.step (fun k => by simp only [spec_l2Check.l0]; rfl) ?_
    refine ev_pos (by omega) (ev_pos (by omega) (ev_pos (by omega) ?_))
    rw [wsucc (show i < 7 by omega) (by omega)]
    by_cases h3 : i < 3
    · refine ev_pos (by omega) ?_
      have e : wrap64 (s + (wrap64 ((wrap64 ((wrap64 ((wrap64 (bt a (i : Int))) - 65)) + 1)) * (wrap64 ((i : Int) + 2))))) = s + val a i := by
        rw [wr (x := bt a (i : Int)) (by omega) (by omega), wr (x := bt a (i : Int) - 65) (by omega) (by omega), wr (x := bt a (i : Int) - 65 + 1) (by omega) (by omega), wr (x := (i : Int) + 2) (by omega) (by omega)]
        have ev : (bt a (i : Int) - 65 + 1) * ((i : Int) + 2) = val a i := by
          unfold val; rw [if_pos h3, Int.mul_comm]; congr 1; omega
        rw [ev, wr (x := val a i) (by omega) (by omega), wr (by omega) (by omega)]
      rw [e]; exact h2
    · refine ev_neg (by omega) ?_
      have e : wrap64 (s + (wrap64 ((wrap64 ((wrap64 (bt a (i : Int))) - 48)) * (wrap64 ((i : Int) + 2))))) = s + val a i := by
        rw [wr (x := bt a (i : Int)) (by omega) (by omega), wr (x := bt a (i : Int) - 48) (by omega) (by omega), wr (x := (i : Int) + 2) (by omega) (by omega)]
        have ev : (bt a (i : Int) - 48) * ((i : Int) + 2) = val a i := by
          unfold val; rw [if_neg h3, Int.mul_comm]
        rw [ev, wr (x := val a i) (by omega) (by omega), wr (by omega) (by omega)]
      rw [e]; exact h2
/-- What the program's check says: nothing, or the letter. -/
def lett (o : Option Int) : Int × Bool := match o with
  | none => (0, false)
  | some t => (65 + t % 23, true)
theorem letter_l (a : ByteArray) (ha : a.size = 7) : ∀ (d i : Nat) (s : Int), i + d = 7 → 0 ≤ s ∧ s ≤ 1000 * i → Ev (fun k => impl_checkLetter.l0 k a s (a.size : Int) (i : Int)) (lett (chk a d i s)) := by
  intro d
  induction d with
  | zero =>
    intro i s hi hs
    refine Ev.step (fun k => by simp only [impl_checkLetter.l0]; rfl) ?_
    refine ev_neg (by omega) (ev_const ?_)
    unfold chk lett
    rw [Int.tmod_eq_emod_of_nonneg hs.1]
    have h1 := Int.emod_nonneg s (show (23 : Int) ≠ 0 by decide)
    have h2 := Int.emod_lt_of_pos s (show (0 : Int) < 23 by decide)
    rw [wr (x := 65 + s % 23) (by omega) (by omega)]
    simp only [Option.some.injEq, Prod.mk.injEq, and_true]
    omega
  | succ d ih =>
    intro i s hi hs
    have hr := bt_range a (i : Int)
    refine Ev.step (fun k => by simp only [impl_checkLetter.l0]; rfl) ?_
    refine ev_pos (by omega) (ev_pos (by omega) (ev_pos (by omega) ?_))
    have go : ∀ t : Bool, (t = true → i < 3 ∧ ltr a i = true) → (t = false → i < 3 → ltr a i = false) → Ev (fun k => impl_checkLetter.j1 k a s (i : Int) (bt a (i : Int)) (a.size : Int) (i : Int) t) (lett (chk a (d + 1) i s)) := by
      intro t ht hf
      refine Ev.step (fun k => by simp only [impl_checkLetter.j1]; rfl) ?_
      rw [wsucc (show i < 7 by omega) (by omega)]
      unfold chk
      cases t
      · refine ev_neg (by simp) ?_
        by_cases h3 : i < 3
        · rw [hf rfl h3]
          exact ev_neg (by omega) (ev_const rfl)
        · refine ev_pos (by omega) ?_
          have el : ltr a i = inr (bt a (i : Int)) 48 57 := if_neg h3
          by_cases c1 : bt a (i : Int) ≥ 48
          · refine ev_pos c1 ?_
            by_cases c2 : bt a (i : Int) ≤ 57
            · have hl : ltr a i = true := by rw [el]; exact inr_iff.mpr (by omega)
              have hv := val_range a i (by omega) hl
              rw [hl, if_pos rfl]
              refine ev_pos c2 ?_
              have e : wrap64 (s + (wrap64 ((wrap64 ((i : Int) + 2)) * ((bt a (i : Int) - 48) % 256)))) = s + val a i := by
                rw [wr (x := (i : Int) + 2) (by omega) (by omega), show (bt a (i : Int) - 48) % 256 = bt a (i : Int) - 48 by omega]
                have ev : ((i : Int) + 2) * (bt a (i : Int) - 48) = val a i := by
                  unfold val; rw [if_neg h3]
                rw [ev, wr (x := val a i) (by omega) (by omega), wr (by omega) (by omega)]
              rw [e]
              exact ih (i + 1) _ (by omega) (by omega)
            · refine ev_eq (ev_neg c2 (ev_const rfl)) ?_
              rw [el, inr_not.mpr (by omega)]; rfl
          · refine ev_eq (ev_neg c1 (ev_const rfl)) ?_
            rw [el, inr_not.mpr (by omega)]; rfl
      · obtain ⟨h3, hl⟩ := ht rfl
        have hv := val_range a i (by omega) hl
        have hb : inr (bt a (i : Int)) 65 90 = true := by rw [← hl]; exact (if_pos h3).symm
        rw [inr_iff] at hb
        rw [hl, if_pos rfl]
        refine ev_pos rfl ?_
        have e : wrap64 (s + (wrap64 ((wrap64 ((i : Int) + 2)) * (((bt a (i : Int) - 65) % 256) + 1)))) = s + val a i := by
          rw [wr (x := (i : Int) + 2) (by omega) (by omega), show (bt a (i : Int) - 65) % 256 + 1 = bt a (i : Int) - 64 by omega]
          have ev : ((i : Int) + 2) * (bt a (i : Int) - 64) = val a i := by
            unfold val; rw [if_pos h3]
          rw [ev, wr (x := val a i) (by omega) (by omega), wr (by omega) (by omega)]
        rw [e]
        exact ih (i + 1) _ (by omega) (by omega)
    by_cases h3 : i < 3
    · have el : ltr a i = inr (bt a (i : Int)) 65 90 := if_pos h3
      refine ev_pos (by omega) ?_
      by_cases c1 : bt a (i : Int) ≥ 65
      · refine ev_pos c1 (go _ (fun h => ⟨h3, ?_⟩) (fun h _ => ?_))
        · rw [el]; exact inr_iff.mpr ⟨c1, of_decide_eq_true h⟩
        · rw [el]; exact inr_not.mpr (fun hh => (of_decide_eq_false h) hh.2)
      · refine ev_neg c1 (go _ (fun h => by cases h) (fun h _ => ?_))
        rw [el]; exact inr_not.mpr (fun hh => c1 hh.1)
    · exact ev_neg (by omega) (go _ (fun h => by cases h) (fun h h4 => absurd h4 h3))
/-- A container's mark. -/
def okId (a : ByteArray) : Bool := decide ((a.size : Int) = 8) && match chk (a.extract 0 7) 7 0 0 with
  | none => false
  | some t => bt a 7 == 65 + t % 23
theorem ext7 (a : ByteArray) (h : a.size = 8) : (a.extract 0 7).size = 7 := by
  rw [ByteArray.size_extract]; omega
theorem id_spec (a : ByteArray) : Ev (fun k => spec_l2Id.f k a) (okId a) := by
  unfold spec_l2Id.f okId
  by_cases h : (a.size : Int) = 8
  · have h7 := ext7 a (by omega)
    rw [decide_eq_true h, Bool.true_and]
    refine ev_pos h (ev_pos (by decide) (ev_pos (by omega) ?_))
    have e1 : Ev (fun k => spec_l2Seven.f k (a.extract 0 7)) ((chk (a.extract 0 7) 7 0 0).isSome) := by
      unfold spec_l2Seven.f
      exact ev_pos (by omega) (seven_l _ h7 7 0 (by omega))
    refine Ev.bind e1 ?_
    cases hc : chk (a.extract 0 7) 7 0 0 with
    | none => exact ev_neg (by simp) (ev_const rfl)
    | some t =>
      refine ev_pos rfl (ev_pos (by omega) ?_)
      have e2 : Ev (fun k => spec_l2Check.f k (a.extract 0 7)) (65 + t % 23) := by
        unfold spec_l2Check.f
        exact check_l _ h7 7 0 0 t (by omega) (by omega) hc
      exact Ev.bind e2 (ev_const rfl)
  · rw [decide_eq_false h, Bool.false_and]
    exact ev_neg h (ev_const rfl)
theorem id_impl (a : ByteArray) : Ev (fun k => impl_IsValidId.f k a) (okId a) := by
  unfold impl_IsValidId.f okId
  by_cases h : (a.size : Int) = 8
  · have h7 := ext7 a (by omega)
    rw [decide_eq_true h, Bool.true_and]
    refine ev_pos h (ev_pos (by decide) (ev_pos (by omega) ?_))
    have e1 : Ev (fun k => impl_checkLetter.f k (a.extract 0 7)) (lett (chk (a.extract 0 7) 7 0 0)) := by
      unfold impl_checkLetter.f
      exact ev_pos (by omega) (letter_l _ h7 7 0 0 (by omega) (by omega))
    refine Ev.bind e1 ?_
    cases hc : chk (a.extract 0 7) 7 0 0 with
    | none => exact ev_neg (by simp [lett]) (ev_const rfl)
    | some t => exact ev_pos rfl (ev_pos (by omega) (ev_const rfl))
  · rw [decide_eq_false h, Bool.false_and]
    exact ev_neg h (ev_const rfl)

/-! A container. -/
theorem within_impl (a b c : Int) : impl_within.f a b c = some (inr a b c) := by
  unfold impl_within.f inr
  by_cases h : b ≤ a <;> simp [h]
def okCont (x : C) : Bool := okId x.f0 && (inr x.f1 1 2 && (inr x.f2 1 32000 && (inr x.f3 1 3 && inr x.f4 1 9)))
theorem cont_spec (x : C) : Ev (fun k => spec_l2Good.f k x.f0 x.f1 x.f2 x.f3 x.f4) (okCont x) := by
  unfold spec_l2Good.f okCont
  refine Ev.bind (id_spec _) ?_
  cases okId x.f0
  · exact ev_neg (by simp) (ev_const rfl)
  refine ev_pos rfl (ev_call (in_spec _ _ _) ?_)
  cases inr x.f1 1 2
  · exact ev_neg (by simp) (ev_const rfl)
  refine ev_pos rfl (ev_call (in_spec _ _ _) ?_)
  cases inr x.f2 1 32000
  · exact ev_neg (by simp) (ev_const rfl)
  refine ev_pos rfl (ev_call (in_spec _ _ _) ?_)
  cases inr x.f3 1 3
  · exact ev_neg (by simp) (ev_const rfl)
  exact ev_pos rfl (ev_call (in_spec _ _ _) (ev_const rfl))
theorem cont_impl (x : C) : Ev (fun k => impl_IsValidContainer.f k x.f0 x.f1 x.f2 x.f3 x.f4) (okCont x) := by
  unfold impl_IsValidContainer.f okCont
  refine Ev.bind (id_impl _) ?_
  cases okId x.f0
  · exact ev_neg (by simp) (ev_const rfl)
  refine ev_pos rfl (ev_call (within_impl _ _ _) ?_)
  cases inr x.f1 1 2
  · exact ev_neg (by simp) (ev_const rfl)
  refine ev_pos rfl (ev_call (within_impl _ _ _) ?_)
  cases inr x.f3 1 3
  · exact ev_eq (ev_neg (by simp) (ev_const rfl)) (by simp)
  refine ev_pos rfl (ev_call (within_impl _ _ _) ?_)
  cases inr x.f2 1 32000
  · exact ev_neg (by simp) (ev_const rfl)
  exact ev_pos rfl (ev_call (within_impl _ _ _) (ev_const rfl))

/-! A list of containers: none twice. -/
theorem idxC_range (p : C → Bool) : ∀ (l : List C) (i : Nat), idxC p l i = -1 ∨ ((i : Int) ≤ idxC p l i ∧ idxC p l i < (i + l.length : Nat))
  | [], i => Or.inl rfl
  | x :: l, i => by
    unfold idxC
    by_cases h : p x = true
    · rw [if_pos h]; right; simp only [List.length_cons]; omega
    · rw [if_neg h]
      rcases idxC_range p l (i + 1) with h1 | h1
      · exact Or.inl h1
      · right; simp only [List.length_cons]; omega
theorem idxC_app (p : C → Bool) : ∀ (l m : List C) (i : Nat), idxC p (l ++ m) i = if idxC p l i < 0 then idxC p m (i + l.length) else idxC p l i
  | [], m, i => by simp [idxC]
  | x :: l, m, i => by
    rw [List.cons_append]
    unfold idxC
    by_cases h : p x = true
    · rw [if_pos h, if_pos h, if_neg (by omega)]
    · rw [if_neg h, if_neg h, idxC_app p l m (i + 1)]
      simp only [List.length_cons]
      rw [show i + 1 + l.length = i + (l.length + 1) by omega]
      cases m with
      | nil => rfl
      | cons y m => rfl
theorem findc_l (l : List C) (id : ByteArray) (hn : l.length ≤ 9223372036854775807) : ∀ d i, i + d = l.length → Ev (fun k => spec_l2Find.l0 k l id (i : Int)) (idxC (sameId id) (l.drop i) i) := by
  intro d
  induction d with
  | zero =>
    intro i hi
    refine Ev.step (fun k => by simp only [spec_l2Find.l0]; rfl) ?_
    refine ev_neg (by omega) (ev_const ?_)
    rw [List.drop_of_length_le (by omega)]; rfl
  | succ d ih =>
    intro i hi
    have hlt : i < l.length := by omega
    refine Ev.step (fun k => by simp only [spec_l2Find.l0]; rfl) ?_
    refine ev_pos (by omega) (ev_pos (by omega) ?_)
    rw [rd_c l i hlt, wsucc hlt hn, List.drop_eq_getElem_cons hlt]
    unfold idxC sameId
    by_cases h : l[i].f0.toList = id.toList
    · refine ev_eq (ev_pos h (ev_const rfl)) ?_
      rw [if_pos (by simpa using h)]
    · refine ev_eq (ev_neg h (ih (i + 1) (by omega))) ?_
      rw [if_neg (by simpa using h)]; rfl
theorem findc_spec (l : List C) (id : ByteArray) (hn : l.length ≤ 9223372036854775807) : Ev (fun k => spec_l2Find.f k l id) (idxC (sameId id) l 0) := by
  unfold spec_l2Find.f
  exact findc_l l id hn l.length 0 (by omega)
def lst : List C → List C → Bool
  | _, [] => true
  | pre, x :: xs => okCont x && (decide (idxC (sameId x.f0) pre 0 < 0) && lst (pre ++ [x]) xs)
def okList (l : List C) : Bool := lst [] l && decide ((l.length : Int) ≤ 12)
theorem list_l (l : List C) (hn : l.length ≤ 1048576) : ∀ d i, i + d = l.length → i ≤ 13 → Ev (fun k => spec_l2List.l0 k l (i : Int)) (lst (l.take i) (l.drop i) && decide ((l.length : Int) ≤ 12)) := by
  intro d
  induction d with
  | zero =>
    intro i hi h13
    refine Ev.step (fun k => by simp only [spec_l2List.l0]; rfl) ?_
    refine ev_neg (by omega) (Ev.step (fun k => by simp only [spec_l2List.j1]; rfl) ?_)
    refine ev_neg (by simp) (ev_const ?_)
    rw [List.drop_of_length_le (by omega)]; rfl
  | succ d ih =>
    intro i hi h13
    have hlt : i < l.length := by omega
    refine Ev.step (fun k => by simp only [spec_l2List.l0]; rfl) ?_
    refine ev_pos (by omega) (Ev.step (fun k => by simp only [spec_l2List.j1]; rfl) ?_)
    by_cases h12 : (i : Int) ≤ 12
    · refine ev_pos (by simpa using h12) (ev_pos (by omega) (ev_pos (by omega) ?_))
      rw [rd_c l i hlt, wsucc hlt (by omega), List.drop_eq_getElem_cons hlt]
      unfold lst
      refine Ev.bind (cont_spec l[i]) ?_
      cases okCont l[i]
      · exact ev_neg (by simp) (ev_const rfl)
      refine ev_pos rfl (Ev.bind (findc_spec l l[i].f0 (by omega)) ?_)
      have e : idxC (sameId l[i].f0) l 0 = if idxC (sameId l[i].f0) (l.take i) 0 < 0 then (i : Int) else idxC (sameId l[i].f0) (l.take i) 0 := by
        have hs : l = l.take i ++ (l[i] :: l.drop (i + 1)) := by rw [← List.drop_eq_getElem_cons hlt, List.take_append_drop]
        have h1 := idxC_app (sameId l[i].f0) (l.take i) (l[i] :: l.drop (i + 1)) 0
        rw [← hs] at h1
        rw [h1]
        have h2 : idxC (sameId l[i].f0) (l[i] :: l.drop (i + 1)) (0 + (l.take i).length) = (i : Int) := by
          unfold idxC
          rw [if_pos (by simp [sameId]), List.length_take]
          omega
        rw [h2]
      rw [e]
      by_cases hc : idxC (sameId l[i].f0) (l.take i) 0 < 0
      · rw [if_pos hc, decide_eq_true hc]
        have h2 := ih (i + 1) (by omega) (by omega)
        rw [List.take_succ_eq_append_getElem hlt] at h2
        exact ev_pos rfl h2
      · rw [if_neg hc, decide_eq_false hc]
        have hr := idxC_range (sameId l[i].f0) (l.take i) 0
        rw [List.length_take] at hr
        exact ev_neg (by omega) (ev_const rfl)
    · refine ev_eq (ev_neg (by simpa using h12) (ev_const rfl)) ?_
      rw [decide_eq_false (by omega), Bool.and_false]
theorem list_spec (l : List C) (hn : l.length ≤ 1048576) : Ev (fun k => spec_l2List.f k l) (okList l) := by
  unfold spec_l2List.f
  exact list_l l hn l.length 0 (by omega) (by omega)
theorem conts_l (l : List C) (hn : l.length ≤ 1048576) : ∀ d i, i + d = l.length → Ev (fun k => impl_IsValidContainers.l0 k l l (l.length : Int) (i : Int)) (lst (l.take i) (l.drop i) && decide ((l.length : Int) ≤ 12)) := by
  intro d
  induction d with
  | zero =>
    intro i hi
    refine Ev.step (fun k => by simp only [impl_IsValidContainers.l0]; rfl) ?_
    refine ev_neg (by omega) (ev_const ?_)
    rw [List.drop_of_length_le (by omega)]; rfl
  | succ d ih =>
    intro i hi
    have hlt : i < l.length := by omega
    refine Ev.step (fun k => by simp only [impl_IsValidContainers.l0]; rfl) ?_
    refine ev_pos (by omega) (ev_pos (by omega) (ev_pos (by omega) ?_))
    rw [rd_c l i hlt, wsucc hlt (by omega), List.drop_eq_getElem_cons hlt]
    unfold lst
    refine Ev.bind (cont_impl l[i]) ?_
    cases okCont l[i]
    · exact ev_neg (by simp) (ev_const rfl)
    refine ev_pos rfl (ev_pos (by omega) (ev_call rfl ?_))
    rw [Int.toNat_natCast]
    by_cases hc : idxC (sameId l[i].f0) (l.take i) 0 < 0
    · rw [decide_eq_true hc]
      have h2 := ih (i + 1) (by omega)
      rw [List.take_succ_eq_append_getElem hlt] at h2
      exact ev_neg (by omega) h2
    · rw [decide_eq_false hc]
      exact ev_pos (by omega) (ev_const rfl)
theorem conts_impl (l : List C) (hn : l.length ≤ 1048576) : Ev (fun k => impl_IsValidContainers.f k l) (okList l) := by
  unfold impl_IsValidContainers.f
  exact conts_l l hn l.length 0 (by omega)
end Go.Proofs.Ytlbmookfonlpjaa.UC
namespace Go.Proofs.Ytlbmookfonlpjaa.UF
open Go.RowKit Go.Proofs.YtlbmookfonlpjaaW.PrintWords Go.Proofs.YtlbmookfonlpjaaW.PrintMore Go.Proofs.Ytlbmookfonlpjaa.P Go.Proofs.Ytlbmookfonlpjaa.U Go.Proofs.Ytlbmookfonlpjaa.UT Go.Proofs.Ytlbmookfonlpjaa.UY Go.Proofs.Ytlbmookfonlpjaa.UC
set_option linter.unusedVariables false

abbrev F := S66
/-! What is asked. -/
def boxIn (l : List (List Int)) (n : Int) : Bool := l.all fun r => r.all fun x => decide (x ≤ n)
def okAsk (l : List (List Int)) (cs : List C) (a : Int) : Bool := okYard l && (okList cs && (inr a 0 6 && boxIn l (cs.length : Int)))
theorem box_spec (l : List (List Int)) (cs : List C) (hn : l.length ≤ 1048576) (hx : ∀ x, x ∈ l → x.length ≤ 1048576) : ∀ d i, i + d = l.length → Ev (fun k => spec_l7Asked.l0 k cs (i : Int) l) (boxIn (l.drop i) (cs.length : Int)) := by
  intro d
  induction d with
  | zero =>
    intro i hi
    refine Ev.step (fun k => by simp only [spec_l7Asked.l0]; rfl) ?_
    refine ev_neg (by omega) (ev_const ?_)
    rw [List.drop_of_length_le (by omega)]; rfl
  | succ d ih =>
    intro i hi
    have hlt : i < l.length := by omega
    have hxi := hx _ (List.getElem_mem hlt)
    refine Ev.step (fun k => by simp only [spec_l7Asked.l0]; rfl) ?_
    refine ev_pos (by omega) ?_
    rw [List.drop_eq_getElem_cons hlt]
    have inner : ∀ e j, j + e = l[i].length → Ev (fun k => spec_l7Asked.l1 k cs (i : Int) (j : Int) l) (((l[i].drop j).all fun x => decide (x ≤ (cs.length : Int))) && boxIn (l.drop (i + 1)) (cs.length : Int)) := by
      intro e
      induction e with
      | zero =>
        intro j hj
        refine Ev.step (fun k => by simp only [spec_l7Asked.l1]; rfl) ?_
        refine ev_pos (by omega) (ev_pos (by omega) ?_)
        rw [rd_l1 l i hlt, wsucc hlt (by omega), List.drop_of_length_le (show l[i].length ≤ j by omega)]
        exact ev_neg (by omega) (ev_eq (ih (i + 1) (by omega)) (by simp))
      | succ e ihe =>
        intro j hj
        have hjt : j < l[i].length := by omega
        refine Ev.step (fun k => by simp only [spec_l7Asked.l1]; rfl) ?_
        refine ev_pos (by omega) (ev_pos (by omega) ?_)
        rw [rd_l1 l i hlt, rd_at _ j hjt, wsucc hjt (by omega), List.drop_eq_getElem_cons hjt, List.all_cons]
        refine ev_pos (by omega) (ev_pos (by omega) ?_)
        by_cases hc : l[i][j] > (cs.length : Int)
        · exact ev_eq (ev_pos hc (ev_const rfl)) (by rw [decide_eq_false (by omega)]; rfl)
        · exact ev_eq (ev_neg hc (ihe (j + 1) (by omega))) (by rw [decide_eq_true (by omega)]; rfl)
    have h := inner l[i].length 0 (by omega)
    rw [List.drop_zero] at h
    exact h
theorem ask_spec (l : List (List Int)) (cs : List C) (a : Int) (hn : l.length ≤ 1048576) (hx : ∀ x, x ∈ l → x.length ≤ 1048576) (hc : cs.length ≤ 1048576) : Ev (fun k => spec_l7Asked.f k l cs a) (okAsk l cs a) := by
  unfold spec_l7Asked.f okAsk
  refine Ev.bind (good_spec l hn hx) ?_
  cases okYard l
  · refine ev_neg (by simp) (Ev.step (fun k => by simp only [spec_l7Asked.j0]; rfl) ?_)
    exact ev_pos (by simp) (ev_const rfl)
  refine ev_pos rfl (Ev.bind (list_spec cs hc) ?_)
  cases okList cs
  · refine ev_neg (by simp) (Ev.step (fun k => by simp only [spec_l7Asked.j0]; rfl) ?_)
    exact ev_pos (by simp) (ev_const rfl)
  refine ev_pos rfl (ev_call (in_spec _ _ _) (Ev.step (fun k => by simp only [spec_l7Asked.j0]; rfl) ?_))
  cases inr a 0 6
  · exact ev_pos (by simp) (ev_const rfl)
  · exact ev_neg (by simp) (box_spec l cs hn hx l.length 0 (by omega))
theorem box_impl (l : List (List Int)) (cs : List C) (hn : l.length ≤ 1048576) (hx : ∀ x, x ∈ l → x.length ≤ 1048576) : ∀ d i, i + d = l.length → Ev (fun k => impl_areYard.l0 k cs l (l.length : Int) (i : Int)) (boxIn (l.drop i) (cs.length : Int)) := by
  intro d
  induction d with
  | zero =>
    intro i hi
    refine Ev.step (fun k => by simp only [impl_areYard.l0]; rfl) ?_
    refine ev_neg (by omega) (ev_const ?_)
    rw [List.drop_of_length_le (by omega)]; rfl
  | succ d ih =>
    intro i hi
    have hlt : i < l.length := by omega
    have hxi := hx _ (List.getElem_mem hlt)
    refine Ev.step (fun k => by simp only [impl_areYard.l0]; rfl) ?_
    refine ev_pos (by omega) (ev_pos (by omega) (ev_pos (by omega) ?_))
    rw [rd_l1 l i hlt, List.drop_eq_getElem_cons hlt]
    have inner : ∀ e j, j + e = l[i].length → Ev (fun k => impl_areYard.l1 k cs l (l.length : Int) (i : Int) l[i] (l[i].length : Int) (j : Int)) (((l[i].drop j).all fun x => decide (x ≤ (cs.length : Int))) && boxIn (l.drop (i + 1)) (cs.length : Int)) := by
      intro e
      induction e with
      | zero =>
        intro j hj
        refine Ev.step (fun k => by simp only [impl_areYard.l1]; rfl) ?_
        rw [wsucc hlt (by omega), List.drop_of_length_le (show l[i].length ≤ j by omega)]
        exact ev_neg (by omega) (ev_eq (ih (i + 1) (by omega)) (by simp))
      | succ e ihe =>
        intro j hj
        have hjt : j < l[i].length := by omega
        refine Ev.step (fun k => by simp only [impl_areYard.l1]; rfl) ?_
        refine ev_pos (by omega) (ev_pos (by omega) (ev_pos (by omega) ?_))
        rw [rd_at _ j hjt, wsucc hjt (by omega), List.drop_eq_getElem_cons hjt, List.all_cons]
        by_cases hc : l[i][j] > (cs.length : Int)
        · exact ev_eq (ev_pos hc (ev_const rfl)) (by rw [decide_eq_false (by omega)]; rfl)
        · exact ev_eq (ev_neg hc (ihe (j + 1) (by omega))) (by rw [decide_eq_true (by omega)]; rfl)
    have h := inner l[i].length 0 (by omega)
    rw [List.drop_zero] at h
    exact h
theorem ask_impl (l : List (List Int)) (cs : List C) (a : Int) (hn : l.length ≤ 1048576) (hx : ∀ x, x ∈ l → x.length ≤ 1048576) (hc : cs.length ≤ 1048576) : Ev (fun k => impl_areYard.f k l cs a) (okAsk l cs a) := by
  unfold impl_areYard.f okAsk
  refine ev_call (show impl_IsValidYard.f l = some (okYard l) from rfl) ?_
  cases okYard l
  · refine ev_neg (by simp) (Ev.step (fun k => by simp only [impl_areYard.j0]; rfl) ?_)
    exact ev_pos (by simp) (ev_const rfl)
  refine ev_pos rfl (Ev.bind (conts_impl cs hc) ?_)
  cases okList cs
  · refine ev_neg (by simp) (Ev.step (fun k => by simp only [impl_areYard.j0]; rfl) ?_)
    exact ev_pos (by simp) (ev_const rfl)
  refine ev_pos rfl (ev_call (within_impl _ _ _) (Ev.step (fun k => by simp only [impl_areYard.j0]; rfl) ?_))
  cases inr a 0 6
  · exact ev_pos (by simp) (ev_const rfl)
  · exact ev_neg (by simp) (box_impl l cs hn hx l.length 0 (by omega))

/-! What a place breaks. -/
def K (cs : List C) (n : Int) : C := rd_T50 cs (n - 1)
def r1 (cs : List C) (row : List Int) (j : Nat) : Prop := 0 < j ∧ (K cs (rd row (j : Int))).f2 > (K cs (rd row ((j : Int) - 1))).f2
def r2 (cs : List C) (row : List Int) (j : Nat) : Prop := 0 < j ∧ ¬ (K cs (rd row (j : Int))).f1 = (K cs (rd row ((j : Int) - 1))).f1
def r3 (cs : List C) (row : List Int) (j : Nat) : Prop := 0 < j ∧ (K cs (rd row (j : Int))).f3 = 3
def r4 (cs : List C) (a i : Int) (row : List Int) (j : Nat) : Prop := (K cs (rd row (j : Int))).f3 = 2 ∧ i ≥ a
instance (cs : List C) (row : List Int) (j : Nat) : Decidable (r1 cs row j) := by unfold r1; infer_instance
instance (cs : List C) (row : List Int) (j : Nat) : Decidable (r2 cs row j) := by unfold r2; infer_instance
instance (cs : List C) (row : List Int) (j : Nat) : Decidable (r3 cs row j) := by unfold r3; infer_instance
instance (cs : List C) (a i : Int) (row : List Int) (j : Nat) : Decidable (r4 cs a i row j) := by unfold r4; infer_instance
def rl (cs : List C) (a i : Int) (row : List Int) (j : Nat) : List Int :=
  ((((if r1 cs row j then [1] else []) ++ if r2 cs row j then [2] else []) ++ if r3 cs row j then [3] else []) ++ if r4 cs a i row j then [4] else [])
def mk (i : Nat) (j : Nat) (r : Int) : F := ⟨r, (i : Int), (j : Int)⟩
theorem rl_len (cs : List C) (a i : Int) (row : List Int) (j : Nat) : (rl cs a i row j).length ≤ 4 := by
  unfold rl
  simp only [List.length_append]
  have h : ∀ (p : Prop) [Decidable p] (x : Int), (if p then [x] else []).length ≤ 1 := by intro p _ x; split <;> simp
  have := h (r1 cs row j) 1
  have := h (r2 cs row j) 2
  have := h (r3 cs row j) 3
  have := h (r4 cs a i row j) 4
  omega

/-- A yard of six stacks at most, four numbers from 1 to 99 in each. -/
def low99 (l : List (List Int)) : Prop := (1 ≤ l.length ∧ l.length ≤ 6) ∧ ∀ x, x ∈ l → x.length ≤ 4 ∧ ∀ n, n ∈ x → 1 ≤ n ∧ n ≤ 99
theorem cell_in {l : List (List Int)} {cs : List C} (hy : low99 l) (hb : boxIn l (cs.length : Int) = true) {i : Nat} (hi : i < l.length) {j : Nat} (hj : j < l[i].length) :
    1 ≤ rd l[i] (j : Int) ∧ rd l[i] (j : Int) ≤ 99 ∧ rd l[i] (j : Int) ≤ (cs.length : Int) := by
  rw [rd_at _ j hj]
  have hm := List.getElem_mem hi
  have h1 := (hy.2 _ hm).2 _ (List.getElem_mem hj)
  unfold boxIn at hb
  have h2 := List.all_eq_true.mp hb _ hm
  have h3 := List.all_eq_true.mp h2 _ (List.getElem_mem hj)
  exact ⟨h1.1, h1.2, of_decide_eq_true h3⟩

theorem at_spec {l : List (List Int)} {cs : List C} (hy : low99 l) (hb : boxIn l (cs.length : Int) = true) (a : Int) {i : Nat} (hi : i < l.length) {j : Nat} (hj : j < l[i].length) :
    Ev (fun k => spec_l7At.f k l cs a (i : Int) (j : Int)) ((rl cs a i l[i] j).map (mk i j)) := by
  have h1 := cell_in hy hb hi hj
  have h4 := (hy.2 _ (List.getElem_mem hi)).1
  unfold spec_l7At.f
  rw [rd_l1 l i hi]
  refine ev_pos (by omega) (ev_pos (by omega) (ev_pos (by omega) (ev_pos (by omega) ?_)))
  rw [wr (x := rd l[i] (j : Int) - 1) (by omega) (by omega)]
  refine ev_pos (by omega) (ev_pos (by omega) ?_)
  have T5 : ∀ acc : List F, Ev (fun k => spec_l7At.l0 k cs a (i : Int) (j : Int) acc 5 l (K cs (rd l[i] (j : Int))).f0 (K cs (rd l[i] (j : Int))).f1 (K cs (rd l[i] (j : Int))).f2 (K cs (rd l[i] (j : Int))).f3 (K cs (rd l[i] (j : Int))).f4) acc := by
    intro acc
    refine Ev.step (fun k => by simp only [spec_l7At.l0]; rfl) ?_
    exact ev_neg (by decide) (ev_const rfl)
  have T4 : ∀ acc : List F, acc.length < 10 → Ev (fun k => spec_l7At.l0 k cs a (i : Int) (j : Int) acc 4 l (K cs (rd l[i] (j : Int))).f0 (K cs (rd l[i] (j : Int))).f1 (K cs (rd l[i] (j : Int))).f2 (K cs (rd l[i] (j : Int))).f3 (K cs (rd l[i] (j : Int))).f4) (acc ++ (if r4 cs a i l[i] j then [4] else []).map (mk i j)) := by
    intro acc ha
    refine Ev.step (fun k => by simp only [spec_l7At.l0]; rfl) ?_
    refine ev_pos (by decide) (ev_neg (by decide) (ev_neg (by decide) (ev_neg (by decide) ?_)))
    rw [show wrap64 (4 + 1) = 5 from (wr (by decide) (by decide)).trans (by decide)]
    by_cases c1 : (K cs (rd l[i] (j : Int))).f3 = 2
    · refine ev_pos c1 ?_
      by_cases c2 : (i : Int) ≥ a
      · refine ev_pos c2 (ev_pos (by omega) (ev_eq (T5 _) ?_))
        rw [if_pos ⟨c1, c2⟩]; rfl
      · refine ev_neg c2 (ev_eq (T5 _) ?_)
        rw [if_neg (fun h => c2 h.2)]; simp
    · refine ev_neg c1 (ev_eq (T5 _) ?_)
      rw [if_neg (fun h => c1 h.1)]; simp
  have T3 : ∀ acc : List F, acc.length < 9 → Ev (fun k => spec_l7At.l0 k cs a (i : Int) (j : Int) acc 3 l (K cs (rd l[i] (j : Int))).f0 (K cs (rd l[i] (j : Int))).f1 (K cs (rd l[i] (j : Int))).f2 (K cs (rd l[i] (j : Int))).f3 (K cs (rd l[i] (j : Int))).f4) ((acc ++ (if r3 cs l[i] j then [3] else []).map (mk i j)) ++ (if r4 cs a i l[i] j then [4] else []).map (mk i j)) := by
    intro acc ha
    refine Ev.step (fun k => by simp only [spec_l7At.l0]; rfl) ?_
    refine ev_pos (by decide) (ev_neg (by decide) (ev_neg (by decide) (ev_pos (by decide) ?_)))
    rw [show wrap64 (3 + 1) = 4 from (wr (by decide) (by decide)).trans (by decide)]
    by_cases c0 : (j : Int) > 0
    · refine ev_pos c0 ?_
      by_cases c1 : (K cs (rd l[i] (j : Int))).f3 = 3
      · rw [if_pos (show r3 cs l[i] j from ⟨by omega, c1⟩)]
        exact ev_pos c1 (ev_pos (by omega) (T4 _ (by simp; omega)))
      · rw [if_neg (show ¬ r3 cs l[i] j from fun h => c1 h.2)]
        exact ev_neg c1 (ev_eq (T4 _ (by omega)) (by simp))
    · rw [if_neg (show ¬ r3 cs l[i] j from fun h => by have := h.1; omega)]
      exact ev_neg c0 (ev_eq (T4 _ (by omega)) (by simp))
  have T2 : ∀ acc : List F, acc.length < 8 → Ev (fun k => spec_l7At.l0 k cs a (i : Int) (j : Int) acc 2 l (K cs (rd l[i] (j : Int))).f0 (K cs (rd l[i] (j : Int))).f1 (K cs (rd l[i] (j : Int))).f2 (K cs (rd l[i] (j : Int))).f3 (K cs (rd l[i] (j : Int))).f4) (((acc ++ (if r2 cs l[i] j then [2] else []).map (mk i j)) ++ (if r3 cs l[i] j then [3] else []).map (mk i j)) ++ (if r4 cs a i l[i] j then [4] else []).map (mk i j)) := by
    intro acc ha
    refine Ev.step (fun k => by simp only [spec_l7At.l0]; rfl) ?_
    refine ev_pos (by decide) (ev_neg (by decide) (ev_pos (by decide) ?_))
    rw [show wrap64 (2 + 1) = 3 from (wr (by decide) (by decide)).trans (by decide), rd_l1 l i hi]
    by_cases c0 : (j : Int) > 0
    · have h2 := cell_in hy hb hi (show j - 1 < l[i].length by omega)
      rw [show ((j - 1 : Nat) : Int) = (j : Int) - 1 by omega] at h2
      refine ev_pos c0 (ev_pos (by omega) (ev_pos (by omega) ?_))
      rw [wr (x := (j : Int) - 1) (by omega) (by omega)]
      refine ev_pos (by omega) (ev_pos (by omega) ?_)
      rw [wr (x := rd l[i] ((j : Int) - 1) - 1) (by omega) (by omega)]
      refine ev_pos (by omega) (ev_pos (by omega) ?_)
      by_cases c1 : (K cs (rd l[i] (j : Int))).f1 = (K cs (rd l[i] ((j : Int) - 1))).f1
      · rw [if_neg (show ¬ r2 cs l[i] j from fun h => h.2 c1)]
        exact ev_pos c1 (ev_eq (T3 _ (by omega)) (by simp))
      · rw [if_pos (show r2 cs l[i] j from ⟨by omega, c1⟩)]
        exact ev_neg c1 (ev_pos (by omega) (T3 _ (by simp; omega)))
    · rw [if_neg (show ¬ r2 cs l[i] j from fun h => by have := h.1; omega)]
      exact ev_neg c0 (ev_eq (T3 _ (by omega)) (by simp))
  have T1 : Ev (fun k => spec_l7At.l0 k cs a (i : Int) (j : Int) [] 1 l (K cs (rd l[i] (j : Int))).f0 (K cs (rd l[i] (j : Int))).f1 (K cs (rd l[i] (j : Int))).f2 (K cs (rd l[i] (j : Int))).f3 (K cs (rd l[i] (j : Int))).f4) ((((if r1 cs l[i] j then [1] else []).map (mk i j) ++ (if r2 cs l[i] j then [2] else []).map (mk i j)) ++ (if r3 cs l[i] j then [3] else []).map (mk i j)) ++ (if r4 cs a i l[i] j then [4] else []).map (mk i j)) := by
    refine Ev.step (fun k => by simp only [spec_l7At.l0]; rfl) ?_
    refine ev_pos (by decide) (ev_pos (by decide) ?_)
    rw [show wrap64 (1 + 1) = 2 from (wr (by decide) (by decide)).trans (by decide), rd_l1 l i hi]
    by_cases c0 : (j : Int) > 0
    · have h2 := cell_in hy hb hi (show j - 1 < l[i].length by omega)
      rw [show ((j - 1 : Nat) : Int) = (j : Int) - 1 by omega] at h2
      refine ev_pos c0 (ev_pos (by omega) (ev_pos (by omega) ?_))
      rw [wr (x := (j : Int) - 1) (by omega) (by omega)]
      refine ev_pos (by omega) (ev_pos (by omega) ?_)
      rw [wr (x := rd l[i] ((j : Int) - 1) - 1) (by omega) (by omega)]
      refine ev_pos (by omega) (ev_pos (by omega) ?_)
      by_cases c1 : (K cs (rd l[i] (j : Int))).f2 > (K cs (rd l[i] ((j : Int) - 1))).f2
      · rw [if_pos (show r1 cs l[i] j from ⟨by omega, c1⟩)]
        exact ev_pos c1 (ev_pos (by simp) (T2 _ (by simp)))
      · rw [if_neg (show ¬ r1 cs l[i] j from fun h => c1 h.2)]
        exact ev_neg c1 (ev_eq (T2 _ (by simp)) (by simp))
    · rw [if_neg (show ¬ r1 cs l[i] j from fun h => by have := h.1; omega)]
      exact ev_neg c0 (ev_eq (T2 _ (by simp)) (by simp))
  refine ev_eq T1 ?_
  unfold rl
  simp only [List.map_append]

theorem broken_impl {row : List Int} {cs : List C} (a : Int) (i : Nat) {j : Nat} (hj : j < row.length) (hr : row.length ≤ 4) (hc : ∀ j, j < row.length → 1 ≤ rd row (j : Int) ∧ rd row (j : Int) ≤ 99 ∧ rd row (j : Int) ≤ (cs.length : Int)) :
    Ev (fun k => impl_brokenRules.f k row cs a (i : Int) (j : Int)) (rl cs a i row j) := by
  have h1 := hc j hj
  unfold impl_brokenRules.f
  refine ev_call rfl ?_
  refine ev_pos (by omega) (ev_pos (by omega) ?_)
  rw [wr (x := rd row (j : Int) - 1) (by omega) (by omega)]
  refine ev_pos (by omega) (ev_pos (by omega) ?_)
  by_cases c0 : (j : Int) > 0
  · have h2 := hc (j - 1) (by omega)
    rw [show ((j - 1 : Nat) : Int) = (j : Int) - 1 by omega] at h2
    refine ev_pos c0 ?_
    rw [wr (x := (j : Int) - 1) (by omega) (by omega)]
    refine ev_pos (by omega) (ev_pos (by omega) ?_)
    rw [wr (x := rd row ((j : Int) - 1) - 1) (by omega) (by omega)]
    refine ev_pos (by omega) (ev_pos (by omega) ?_)
    have J1 : ∀ acc : List Int, acc.length < 10 → Ev (fun k => impl_brokenRules.j1 k a (i : Int) acc (K cs (rd row (j : Int))).f0 (K cs (rd row (j : Int))).f1 (K cs (rd row (j : Int))).f2 (K cs (rd row (j : Int))).f3 (K cs (rd row (j : Int))).f4) ((acc ++ if r3 cs row j then [3] else []) ++ if r4 cs a i row j then [4] else []) := by
      intro acc ha
      refine Ev.step (fun k => by simp only [impl_brokenRules.j1]; rfl) ?_
      by_cases c1 : (K cs (rd row (j : Int))).f3 = 3
      · refine ev_pos c1 (ev_pos (by omega) (ev_call rfl (ev_neg (by omega) (ev_const ?_))))
        rw [if_pos (show r3 cs row j from ⟨by omega, c1⟩), if_neg (show ¬ r4 cs a i row j from fun h => by have := h.1; omega)]
        simp
      · refine ev_neg c1 ?_
        rw [if_neg (show ¬ r3 cs row j from fun h => c1 h.2)]
        by_cases c2 : (K cs (rd row (j : Int))).f3 = 2
        · refine ev_pos c2 ?_
          by_cases c3 : (i : Int) ≥ a
          · refine ev_pos c3 (ev_pos (by omega) (ev_const ?_))
            rw [if_pos (show r4 cs a i row j from ⟨c2, c3⟩)]; simp
          · refine ev_neg c3 (ev_const ?_)
            rw [if_neg (show ¬ r4 cs a i row j from fun h => c3 h.2)]; simp
        · refine ev_neg c2 (ev_const ?_)
          rw [if_neg (show ¬ r4 cs a i row j from fun h => c2 h.1)]; simp
    have J0 : ∀ acc : List Int, acc.length < 9 → Ev (fun k => impl_brokenRules.j0 k a (i : Int) acc (K cs (rd row (j : Int))).f0 (K cs (rd row (j : Int))).f1 (K cs (rd row (j : Int))).f2 (K cs (rd row (j : Int))).f3 (K cs (rd row (j : Int))).f4 (K cs (rd row ((j : Int) - 1))).f0 (K cs (rd row ((j : Int) - 1))).f1 (K cs (rd row ((j : Int) - 1))).f2 (K cs (rd row ((j : Int) - 1))).f3 (K cs (rd row ((j : Int) - 1))).f4) (((acc ++ if r2 cs row j then [2] else []) ++ if r3 cs row j then [3] else []) ++ if r4 cs a i row j then [4] else []) := by
      intro acc ha
      refine Ev.step (fun k => by simp only [impl_brokenRules.j0]; rfl) ?_
      by_cases c1 : (K cs (rd row (j : Int))).f1 = (K cs (rd row ((j : Int) - 1))).f1
      · rw [if_neg (show ¬ r2 cs row j from fun h => h.2 c1)]
        exact ev_pos c1 (ev_eq (J1 _ (by omega)) (by simp))
      · rw [if_pos (show r2 cs row j from ⟨by omega, c1⟩)]
        exact ev_neg c1 (ev_pos (by omega) (J1 _ (by simp; omega)))
    unfold rl
    by_cases c1 : (K cs (rd row (j : Int))).f2 > (K cs (rd row ((j : Int) - 1))).f2
    · rw [if_pos (show r1 cs row j from ⟨by omega, c1⟩)]
      exact ev_pos c1 (ev_pos (by simp) (J0 _ (by simp)))
    · rw [if_neg (show ¬ r1 cs row j from fun h => c1 h.2)]
      exact ev_neg c1 (J0 _ (by simp))
  · refine ev_neg c0 ?_
    unfold rl
    rw [if_neg (show ¬ r1 cs row j from fun h => by have := h.1; omega), if_neg (show ¬ r2 cs row j from fun h => by have := h.1; omega), if_neg (show ¬ r3 cs row j from fun h => by have := h.1; omega)]
    by_cases c2 : (K cs (rd row (j : Int))).f3 = 2
    · refine ev_pos c2 ?_
      by_cases c3 : (i : Int) ≥ a
      · refine ev_pos c3 (ev_pos (by simp) (ev_const ?_))
        rw [if_pos (show r4 cs a i row j from ⟨c2, c3⟩)]; simp
      · refine ev_neg c3 (ev_const ?_)
        rw [if_neg (show ¬ r4 cs a i row j from fun h => c3 h.2)]; simp
    · refine ev_neg c2 (ev_const ?_)
      rw [if_neg (show ¬ r4 cs a i row j from fun h => c2 h.1)]; simp

/-! All findings. -/
def fRow (cs : List C) (a : Int) (i : Nat) (row : List Int) : Nat → Nat → List F → List F
  | 0, _, acc => acc
  | e + 1, j, acc => fRow cs a i row e (j + 1) (acc ++ (rl cs a i row j).map (mk i j))
def fAll (cs : List C) (a : Int) : List (List Int) → Nat → List F → List F
  | [], _, acc => acc
  | row :: l, i, acc => fAll cs a l (i + 1) (fRow cs a i row row.length 0 acc)
def found (l : List (List Int)) (cs : List C) (a : Int) : List F := fAll cs a l 0 []
theorem find_spec_l {l : List (List Int)} {cs : List C} (hy : low99 l) (hb : boxIn l (cs.length : Int) = true) (a : Int) : ∀ (d i : Nat) (acc : List F), i + d = l.length → acc.length ≤ 16 * i →
    Ev (fun k => spec_l7Findings.l0 k cs a acc (i : Int) l) (fAll cs a (l.drop i) i acc) := by
  have h6 := hy.1
  intro d
  induction d with
  | zero =>
    intro i acc hi ha
    refine Ev.step (fun k => by simp only [spec_l7Findings.l0]; rfl) ?_
    refine ev_neg (by omega) (ev_const ?_)
    rw [List.drop_of_length_le (by omega)]; rfl
  | succ d ih =>
    intro i acc hi ha
    have hlt : i < l.length := by omega
    have h4 := (hy.2 _ (List.getElem_mem hlt)).1
    refine Ev.step (fun k => by simp only [spec_l7Findings.l0]; rfl) ?_
    refine ev_pos (by omega) ?_
    rw [List.drop_eq_getElem_cons hlt]
    have inner : ∀ (e j : Nat) (acc : List F), j + e = l[i].length → acc.length ≤ 16 * i + 4 * j → Ev (fun k => spec_l7Findings.l1 k cs a acc (i : Int) (j : Int) l) (fAll cs a (l.drop (i + 1)) (i + 1) (fRow cs a i l[i] e j acc)) := by
      intro e
      induction e with
      | zero =>
        intro j acc hj ha
        refine Ev.step (fun k => by simp only [spec_l7Findings.l1]; rfl) ?_
        refine ev_pos (by omega) (ev_pos (by omega) ?_)
        rw [rd_l1 l i hlt, wsucc hlt (by omega)]
        exact ev_neg (by omega) (ih (i + 1) acc (by omega) (by omega))
      | succ e ihe =>
        intro j acc hj ha
        have hjt : j < l[i].length := by omega
        have hl := rl_len cs a i l[i] j
        refine Ev.step (fun k => by simp only [spec_l7Findings.l1]; rfl) ?_
        refine ev_pos (by omega) (ev_pos (by omega) ?_)
        rw [rd_l1 l i hlt, wsucc hjt (by omega)]
        refine ev_pos (by omega) (Ev.bind (at_spec hy hb a hlt hjt) (ev_pos ?_ ?_))
        · rw [List.length_map]; omega
        · exact ihe (j + 1) _ (by omega) (by rw [List.length_append, List.length_map]; omega)
    exact inner l[i].length 0 acc (by omega) (by omega)
theorem found_spec {l : List (List Int)} {cs : List C} (hy : low99 l) (hb : boxIn l (cs.length : Int) = true) (a : Int) : Ev (fun k => spec_l7Findings.f k l cs a) (found l cs a) := by
  unfold spec_l7Findings.f found
  exact find_spec_l hy hb a l.length 0 [] (by omega) (by simp)
theorem find_impl_l {l : List (List Int)} {cs : List C} (hy : low99 l) (hb : boxIn l (cs.length : Int) = true) (a : Int) : ∀ (d i : Nat) (acc : List F), i + d = l.length → acc.length ≤ 16 * i →
    Ev (fun k => impl_yardFindings.l0 k cs a acc l (l.length : Int) (i : Int)) (fAll cs a (l.drop i) i acc) := by
  have h6 := hy.1
  intro d
  induction d with
  | zero =>
    intro i acc hi ha
    refine Ev.step (fun k => by simp only [impl_yardFindings.l0]; rfl) ?_
    refine ev_neg (by omega) (ev_const ?_)
    rw [List.drop_of_length_le (by omega)]; rfl
  | succ d ih =>
    intro i acc hi ha
    have hlt : i < l.length := by omega
    have h4 := (hy.2 _ (List.getElem_mem hlt)).1
    refine Ev.step (fun k => by simp only [impl_yardFindings.l0]; rfl) ?_
    refine ev_pos (by omega) (ev_pos (by omega) (ev_pos (by omega) ?_))
    rw [rd_l1 l i hlt, List.drop_eq_getElem_cons hlt]
    have inner : ∀ (e j : Nat) (acc : List F), j + e = l[i].length → acc.length ≤ 16 * i + 4 * j → Ev (fun k => impl_yardFindings.l1 k cs a acc (i : Int) l[i] l (l.length : Int) (i : Int) (l[i].length : Int) (j : Int)) (fAll cs a (l.drop (i + 1)) (i + 1) (fRow cs a i l[i] e j acc)) := by
      intro e
      induction e with
      | zero =>
        intro j acc hj ha
        refine Ev.step (fun k => by simp only [impl_yardFindings.l1]; rfl) ?_
        rw [wsucc hlt (by omega)]
        exact ev_neg (by omega) (ih (i + 1) acc (by omega) (by omega))
      | succ e ihe =>
        intro j acc hj ha
        have hjt : j < l[i].length := by omega
        have hl := rl_len cs a i l[i] j
        refine Ev.step (fun k => by simp only [impl_yardFindings.l1]; rfl) ?_
        refine ev_pos (by omega) (Ev.bind (broken_impl a i hjt h4 (fun j hj => cell_in hy hb hlt hj)) ?_)
        generalize hrs : rl cs a i l[i] j = rs at hl
        have deep : ∀ (f m : Nat) (acc' : List F), m + f = rs.length → acc'.length = acc.length + m → acc' = acc ++ (rs.take m).map (mk i j) →
            Ev (fun k => impl_yardFindings.l2 k cs a acc' (i : Int) l[i] (j : Int) l (l.length : Int) (i : Int) (l[i].length : Int) (j : Int) rs (rs.length : Int) (m : Int)) (fAll cs a (l.drop (i + 1)) (i + 1) (fRow cs a i l[i] e (j + 1) (acc ++ rs.map (mk i j)))) := by
          intro f
          induction f with
          | zero =>
            intro m acc' hm ha2 he
            refine Ev.step (fun k => by simp only [impl_yardFindings.l2]; rfl) ?_
            rw [wsucc hjt (by omega)]
            rw [List.take_of_length_le (by omega)] at he
            rw [← he]
            exact ev_neg (by omega) (ihe (j + 1) _ (by omega) (by omega))
          | succ f ihf =>
            intro m acc' hm ha2 he
            have hmt : m < rs.length := by omega
            refine Ev.step (fun k => by simp only [impl_yardFindings.l2]; rfl) ?_
            refine ev_pos (by omega) (ev_pos (by omega) (ev_pos (by omega) (ev_pos (by omega) ?_)))
            rw [wsucc hmt (by omega)]
            refine ihf (m + 1) _ (by omega) (by simp; omega) ?_
            rw [he, List.take_succ_eq_append_getElem hmt, List.map_append, rd_at rs m hmt, List.append_assoc]; rfl
        have h := deep rs.length 0 acc (by omega) (by omega) (by simp)
        unfold fRow
        rw [hrs]
        exact h
    exact inner l[i].length 0 acc (by omega) (by omega)
theorem found_impl {l : List (List Int)} {cs : List C} (hy : low99 l) (hb : boxIn l (cs.length : Int) = true) (a : Int) : Ev (fun k => impl_yardFindings.f k l cs a) (found l cs a) := by
  unfold impl_yardFindings.f found
  exact find_impl_l hy hb a l.length 0 [] (by omega) (by simp)
theorem okAsk_in {l : List (List Int)} {cs : List C} {a : Int} (h : okAsk l cs a = true) : okYard l = true ∧ boxIn l (cs.length : Int) = true := by
  unfold okAsk at h
  simp only [Bool.and_eq_true] at h
  exact ⟨h.1, h.2.2.2⟩

theorem sz_yard2 (l : List (List Int)) (hl : l.length ≤ 9223372036854775807) (hx : ∀ x, x ∈ l → x.length ≤ 9223372036854775807) :
    ∃ n, Ev (fun k => laws_szYard.f k l 1048576) n ∧ n ≤ 1048576 ∧ (0 ≤ n → l.length ≤ 1048576 ∧ ∀ x, x ∈ l → x.length ≤ 1048576) := by
  obtain ⟨n, h1, h2, h3⟩ := sz_ev l hl hx
  unfold laws_szYard.f
  by_cases hn : n < 0
  · exact ⟨-1, Ev.bind h1 (ev_pos hn (ev_const rfl)), by omega, fun h => by omega⟩
  · exact ⟨n, Ev.bind h1 (ev_neg hn (ev_const rfl)), h2, h3⟩

end Go.Proofs.Ytlbmookfonlpjaa.UF
namespace Go.Proofs.Ytlbmookfonlpjaa.UK
open Go.RowKit Go.Proofs.YtlbmookfonlpjaaW.PrintWords Go.Proofs.YtlbmookfonlpjaaW.PrintMore Go.Proofs.Ytlbmookfonlpjaa.P Go.Proofs.Ytlbmookfonlpjaa.U Go.Proofs.Ytlbmookfonlpjaa.UT
set_option linter.unusedVariables false

/-! What holds from some number of rounds on. -/
def EvP (P : Nat → Prop) : Prop := ∃ K, ∀ k, K ≤ k → P k
theorem EvP.rounds {P : Nat → Prop} (h : EvP P) : ∃ k, P k := by
  obtain ⟨K, h⟩ := h
  exact ⟨K, h K (Nat.le_refl _)⟩
theorem EvP.tr : EvP fun _ => True := ⟨0, fun _ _ => trivial⟩
theorem EvP.bind {α : Type} {g : Nat → Option α} {r : α} {Q : Nat → α → Prop} (h : Ev g r) (hq : EvP fun k => Q k r) : EvP fun k => ∃ t, g k = some t ∧ Q k t := by
  obtain ⟨K, h⟩ := h
  obtain ⟨K', h'⟩ := hq
  exact ⟨max K K', fun k hk => ⟨r, h k (by omega), h' k (by omega)⟩⟩
theorem EvP.bind2 {α β : Type} {g : Nat → Option (α × β)} {r : α} {s : β} {Q : Nat → α → β → Prop} (h : Ev g (r, s)) (hq : EvP fun k => Q k r s) : EvP fun k => ∃ t u, g k = some (t, u) ∧ Q k t u := by
  obtain ⟨K, h⟩ := h
  obtain ⟨K', h'⟩ := hq
  exact ⟨max K K', fun k hk => ⟨r, s, h k (by omega), h' k (by omega)⟩⟩
theorem EvP.bind3 {α β γ : Type} {g : Nat → Option (α × β × γ)} {r : α} {s : β} {v : γ} {Q : Nat → α → β → γ → Prop} (h : Ev g (r, s, v)) (hq : EvP fun k => Q k r s v) : EvP fun k => ∃ t u x, g k = some (t, u, x) ∧ Q k t u x := by
  obtain ⟨K, h⟩ := h
  obtain ⟨K', h'⟩ := hq
  exact ⟨max K K', fun k hk => ⟨r, s, v, h k (by omega), h' k (by omega)⟩⟩
theorem EvP.bind4 {α β γ δ : Type} {g : Nat → Option (α × β × γ × δ)} {r : α} {s : β} {v : γ} {z : δ} {Q : Nat → α → β → γ → δ → Prop} (h : Ev g (r, s, v, z)) (hq : EvP fun k => Q k r s v z) : EvP fun k => ∃ t u x y, g k = some (t, u, x, y) ∧ Q k t u x y := by
  obtain ⟨K, h⟩ := h
  obtain ⟨K', h'⟩ := hq
  exact ⟨max K K', fun k hk => ⟨r, s, v, z, h k (by omega), h' k (by omega)⟩⟩
theorem EvP.out {c : Prop} {Q : Nat → Prop} (h : c) : EvP fun k => c ∨ Q k := ⟨0, fun _ _ => Or.inl h⟩
theorem EvP.on {c : Prop} {Q : Nat → Prop} (h : ¬ c) (hq : EvP Q) : EvP fun k => c ∨ ¬ c ∧ Q k := by
  obtain ⟨K, hq⟩ := hq
  exact ⟨K, fun k hk => Or.inr ⟨h, hq k hk⟩⟩
theorem EvP.no {c : Prop} {Q : Nat → Prop} (h : ¬ c) (hq : EvP Q) : EvP fun k => ¬ c ∧ Q k := by
  obtain ⟨K, hq⟩ := hq
  exact ⟨K, fun k hk => ⟨h, hq k hk⟩⟩
theorem EvP.yes {c : Prop} {Q : Nat → Prop} (h : c) (hq : EvP Q) : EvP fun k => c ∧ Q k := by
  obtain ⟨K, hq⟩ := hq
  exact ⟨K, fun k hk => ⟨h, hq k hk⟩⟩

/-! Lists of numbers. -/
def mk1 (m : Nat) (n : Int) : List Int := (List.range m).map fun j : Nat => n + (j : Int)
theorem mk1_length (m : Nat) (n : Int) : (mk1 m n).length = m := by simp [mk1]
theorem mk1_get (m : Nat) (n : Int) (i : Nat) (h : i < (mk1 m n).length) : (mk1 m n)[i] = n + i := by simp [mk1]
theorem mark1_l (n : Int) (hn : 0 ≤ n ∧ n ≤ 4398046511104) (m : Nat) (hm : m ≤ 1048576) : ∀ d i (acc : List Int), i + d = m → acc.length = m → acc.take i = (mk1 m n).take i → Ev (fun k => laws_markIntS.l0 k acc (n + i) (i : Int)) (n + m, mk1 m n) := by
  intro d
  induction d with
  | zero =>
    intro i acc hi ha ht
    refine Ev.step (fun k => by simp only [laws_markIntS.l0]; rfl) (ev_neg (by omega) (ev_const ?_))
    rw [List.take_of_length_le (by omega), List.take_of_length_le (by rw [mk1_length]; omega)] at ht
    rw [ht, show i = m by omega]
  | succ d ih =>
    intro i acc hi ha ht
    have hlt : i < acc.length := by omega
    refine Ev.step (fun k => by simp only [laws_markIntS.l0]; rfl) ?_
    refine ev_pos (by omega) (ev_pos (by omega) ?_)
    rw [wsucc (n := m) (by omega) (by omega), Int.toNat_natCast, wr (x := n + (i : Int) + 1) (by omega) (by omega)]
    rw [show n + (i : Int) + 1 = n + ((i + 1 : Nat) : Int) by omega]
    refine ih (i + 1) _ (by omega) (by rw [List.length_set]; exact ha) ?_
    rw [fill_step ht hlt, List.take_succ_eq_append_getElem (show i < (mk1 m n).length by rw [mk1_length]; omega), mk1_get]
theorem mark1 (l : List Int) (n : Int) (hn : 0 ≤ n ∧ n ≤ 4398046511104) (hm : l.length ≤ 1048576) : Ev (fun k => laws_markIntS.f k l n) (n + (l.length : Int), mk1 l.length n) := by
  unfold laws_markIntS.f
  have h := mark1_l n hn l.length hm l.length 0 l (by omega) rfl (by simp)
  rw [show n + ((0 : Nat) : Int) = n by omega] at h
  exact h
/-! Rows of numbers. -/
def sumL : List (List Int) → Int
  | [] => 0
  | r :: l => (r.length : Int) + sumL l
def mk2 : List (List Int) → Int → List (List Int)
  | [], _ => []
  | r :: l, n => mk1 r.length n :: mk2 l (n + r.length)
theorem mk2_length : ∀ (l : List (List Int)) (n : Int), (mk2 l n).length = l.length
  | [], _ => rfl
  | _ :: l, n => by simp [mk2, mk2_length l]
theorem sumL_cons (r : List Int) (l : List (List Int)) : sumL (r :: l) = (r.length : Int) + sumL l := rfl
theorem mk2_cons (r : List Int) (l : List (List Int)) (n : Int) : mk2 (r :: l) n = mk1 r.length n :: mk2 l (n + r.length) := rfl
theorem sumL_pos : ∀ (l : List (List Int)), 0 ≤ sumL l
  | [] => Int.le_refl 0
  | r :: l => by have := sumL_pos l; unfold sumL; omega
theorem sumL_le (c : Nat) : ∀ (l : List (List Int)), (∀ x, x ∈ l → x.length ≤ c) → sumL l ≤ (l.length : Int) * (c : Int)
  | [], _ => by simp [sumL]
  | r :: l, h => by
    have h1 := sumL_le c l (fun x hx => h x (List.mem_cons_of_mem _ hx))
    have h2 := h r List.mem_cons_self
    unfold sumL
    rw [List.length_cons, show ((l.length + 1 : Nat) : Int) * (c : Int) = (l.length : Int) * (c : Int) + c by rw [Int.natCast_add, Int.add_mul]; simp]
    omega
theorem set_prefix (pre : List (List Int)) (x y : List Int) (suf : List (List Int)) : (pre ++ x :: suf).set pre.length y = pre ++ y :: suf := by
  simp
theorem getD_prefix (pre : List (List Int)) (x : List Int) (suf : List (List Int)) : (pre ++ x :: suf).getD pre.length [] = x := by
  simp [List.getD]
theorem mark2_l : ∀ (suf pre : List (List Int)) (n : Int), 0 ≤ n → n + sumL suf ≤ 4398046511104 → (pre ++ suf).length ≤ 1048576 → (∀ x, x ∈ suf → x.length ≤ 1048576) →
    Ev (fun k => laws_markIntSS.l0 k (pre ++ suf) n (pre.length : Int)) (n + sumL suf, pre ++ mk2 suf n)
  | [], pre, n, h0, h1, hl, hx => by
    refine Ev.step (fun k => by simp only [laws_markIntSS.l0]; rfl) (ev_neg (by simp) (ev_const ?_))
    simp [sumL, mk2]
  | r :: suf, pre, n, h0, h1, hl, hx => by
    have hr := hx r List.mem_cons_self
    have hp := sumL_pos suf
    rw [sumL_cons] at h1
    have hl2 : pre.length + suf.length + 1 ≤ 1048576 := by simp at hl; omega
    refine Ev.step (fun k => by simp only [laws_markIntSS.l0]; rfl) (ev_pos (by simp; omega) (ev_pos (by omega) ?_))
    rw [Int.toNat_natCast, getD_prefix, wsucc (n := 1048576) (by omega) (by omega)]
    refine Ev.bind (mark1 r n ⟨h0, by omega⟩ hr) ?_
    rw [set_prefix]
    have ih := mark2_l suf (pre ++ [mk1 r.length n]) (n + r.length) (by omega) (by omega) (by simp; omega) (fun x h => hx x (List.mem_cons_of_mem _ h))
    rw [List.length_append, List.length_singleton, List.append_assoc, List.append_assoc] at ih
    refine ev_eq ih ?_
    rw [mk2_cons, sumL_cons]
    simp; omega
theorem mark2 (l : List (List Int)) (n : Int) (h0 : 0 ≤ n) (h1 : n + sumL l ≤ 4398046511104) (hl : l.length ≤ 1048576) (hx : ∀ x, x ∈ l → x.length ≤ 1048576) : Ev (fun k => laws_markIntSS.f k l n) (n + sumL l, mk2 l n) := by
  unfold laws_markIntSS.f
  exact mark2_l l [] n h0 h1 hl hx
theorem sumL_big {l : List (List Int)} (hl : l.length ≤ 1048576) (hx : ∀ x, x ∈ l → x.length ≤ 1048576) : sumL l ≤ 1099511627776 := by
  have h := sumL_le 1048576 l hx
  have h2 : (l.length : Int) * ((1048576 : Nat) : Int) ≤ 1048576 * 1048576 := by
    have := Int.mul_le_mul_of_nonneg_right (show (l.length : Int) ≤ 1048576 by omega) (show (0 : Int) ≤ ((1048576 : Nat) : Int) by omega)
    simpa using this
  omega
end Go.Proofs.Ytlbmookfonlpjaa.UK
namespace Go.Proofs.Ytlbmookfonlpjaa.UF
open Go.RowKit Go.Proofs.YtlbmookfonlpjaaW.PrintWords Go.Proofs.YtlbmookfonlpjaaW.PrintMore Go.Proofs.Ytlbmookfonlpjaa.P Go.Proofs.Ytlbmookfonlpjaa.U Go.Proofs.Ytlbmookfonlpjaa.UT Go.Proofs.Ytlbmookfonlpjaa.UC Go.Proofs.Ytlbmookfonlpjaa.UK
set_option linter.unusedVariables false

theorem dig_size (x : Int) : (strOfNums [x]).size = 1 := by
  unfold strOfNums
  rfl
theorem text_l : ∀ (f : Nat) (x : Int) (s : ByteArray), 0 ≤ x → x ≤ 4611686018427387904 → x < 10 ^ f → s.size + f ≤ 1000 → ∃ r, Ev (fun k => laws_markText.l0 k x s) r
  | 0, x, s, h0, h1, h2, h3 => by
    have hx : x = 0 := by rw [Int.pow_zero] at h2; omega
    refine ⟨_, Ev.step (fun k => by simp only [laws_markText.l0]; rfl) (ev_neg (by omega) (ev_pos (by omega) (ev_const rfl)))⟩
  | f + 1, x, s, h0, h1, h2, h3 => by
    by_cases hx : x > 0
    · rw [Int.pow_succ] at h2
      have e : Int.tdiv x 10 = x / 10 := Int.tdiv_eq_ediv_of_nonneg h0
      have hs : ((strOfNums [(wrap64 (48 + (Int.tmod x 10))) % 256]) ++ s).size = 1 + s.size := by rw [ByteArray.size_append, dig_size]
      obtain ⟨r, hr⟩ := text_l f (x / 10) ((strOfNums [(wrap64 (48 + (Int.tmod x 10))) % 256]) ++ s) (by omega) (by omega) (by omega) (by rw [hs]; omega)
      refine ⟨r, Ev.step (fun k => by simp only [laws_markText.l0]; rfl) (ev_pos hx (ev_call rfl (ev_pos (by rw [dig_size]; omega) ?_)))⟩
      rw [e, wr (x := x / 10) (by omega) (by omega)]
      exact hr
    · exact ⟨_, Ev.step (fun k => by simp only [laws_markText.l0]; rfl) (ev_neg hx (ev_pos (by omega) (ev_const rfl)))⟩
theorem text_ev (x : Int) (h0 : 0 < x) (h1 : x ≤ 4611686018427387904) : ∃ r, Ev (fun k => laws_markText.f k x) r := by
  have hp : (10 : Int) ^ 19 = 10000000000000000000 := by decide
  obtain ⟨r, hr⟩ := text_l 19 x (⟨#[]⟩ : ByteArray) (by omega) h1 (by rw [hp]; omega) (by show 0 + 19 ≤ 1000; omega)
  refine ⟨r, ?_⟩
  unfold laws_markText.f
  exact ev_neg (by omega) hr
theorem markC_l : ∀ d i (n : Int) (l : List C), i + d = l.length → l.length ≤ 1048576 → 0 < n → n + 5 * d ≤ 4611686018427387904 → ∃ l', Ev (fun k => laws_markContainerS.l0 k l n (i : Int)) (n + 5 * d, l') := by
  intro d
  induction d with
  | zero =>
    intro i n l hi hl h0 h1
    refine ⟨l, Ev.step (fun k => by simp only [laws_markContainerS.l0]; rfl) (ev_neg (by omega) (ev_const ?_))⟩
    simp
  | succ d ih =>
    intro i n l hi hl h0 h1
    obtain ⟨t, ht⟩ := text_ev n h0 (by omega)
    have key : ∃ X : List C, X.length = l.length ∧ ∀ r, Ev (fun k => laws_markContainerS.l0 k X (n + 1 + 1 + 1 + 1 + 1) ((i + 1 : Nat) : Int)) r → Ev (fun k => laws_markContainerS.l0 k l n (i : Int)) r := by
      refine ⟨?X, ?len, fun r hr => ?main⟩
      case main =>
        refine Ev.step (fun k => by simp only [laws_markContainerS.l0]; rfl) (ev_pos (by omega) (Ev.bind ht ?_))
        refine ev_pos (by omega) ?_
        refine ev_call rfl ?_
        refine ev_call rfl ?_
        refine ev_call rfl ?_
        refine ev_call rfl ?_
        rw [wsucc (n := 1048576) (by omega) (by omega), wr (x := n + 1) (by omega) (by omega), wr (x := n + 1 + 1) (by omega) (by omega), wr (x := n + 1 + 1 + 1) (by omega) (by omega), wr (x := n + 1 + 1 + 1 + 1) (by omega) (by omega), wr (x := n + 1 + 1 + 1 + 1 + 1) (by omega) (by omega), Int.toNat_natCast]
        exact hr
      case len => simp
    obtain ⟨X, hX, hk⟩ := key
    obtain ⟨l', hl'⟩ := ih (i + 1) (n + 1 + 1 + 1 + 1 + 1) X (by omega) (by omega) (by omega) (by omega)
    refine ⟨l', hk _ (ev_eq hl' ?_)⟩
    rw [Prod.mk.injEq]
    exact ⟨by omega, rfl⟩
theorem markC (l : List C) (n : Int) (hl : l.length ≤ 1048576) (h0 : 0 < n) (h1 : n + 5 * (l.length : Int) ≤ 4611686018427387904) : ∃ l', Ev (fun k => laws_markContainerS.f k l n) (n + 5 * (l.length : Int), l') := by
  unfold laws_markContainerS.f
  exact markC_l l.length 0 n l (by omega) hl h0 h1
end Go.Proofs.Ytlbmookfonlpjaa.UF
namespace Go.Proofs.Ytlbmookfonlpjaa.UK
open Go.RowKit Go.Proofs.YtlbmookfonlpjaaW.PrintWords Go.Proofs.YtlbmookfonlpjaaW.PrintMore Go.Proofs.Ytlbmookfonlpjaa.P Go.Proofs.Ytlbmookfonlpjaa.U Go.Proofs.Ytlbmookfonlpjaa.UT
set_option linter.unusedVariables false

theorem held1_l (n : Int) (hn : 0 ≤ n ∧ n ≤ 4398046511104) (m : Nat) (hm : m ≤ 1048576) : ∀ d i, i + d = m → Ev (fun k => laws_heldIntS.l0 k (mk1 m n) (n + i) (i : Int)) (n + m) := by
  intro d
  induction d with
  | zero =>
    intro i hi
    refine Ev.step (fun k => by simp only [laws_heldIntS.l0]; rfl) (ev_neg (by rw [mk1_length]; omega) (ev_const ?_))
    rw [show i = m by omega]
  | succ d ih =>
    intro i hi
    have hlt : i < (mk1 m n).length := by rw [mk1_length]; omega
    refine Ev.step (fun k => by simp only [laws_heldIntS.l0]; rfl) (ev_pos (by omega) (ev_pos (by omega) ?_))
    rw [wsucc (n := m) (by omega) (by omega), wr (x := n + (i : Int) + 1) (by omega) (by omega), rd_at _ i hlt, mk1_get]
    refine ev_pos rfl ?_
    rw [show n + (i : Int) + 1 = n + ((i + 1 : Nat) : Int) by omega]
    exact ih (i + 1) (by omega)
theorem held1 (m : Nat) (n : Int) (hn : 0 ≤ n ∧ n ≤ 4398046511104) (hm : m ≤ 1048576) : Ev (fun k => laws_heldIntS.f k (mk1 m n) n) (n + (m : Int)) := by
  unfold laws_heldIntS.f
  have h := held1_l n hn m hm m 0 (by omega)
  rw [show n + ((0 : Nat) : Int) = n by omega] at h
  exact h

end Go.Proofs.Ytlbmookfonlpjaa.UK
namespace Go.Proofs.Ytlbmookfonlpjaa.UK
open Go.RowKit Go.Proofs.YtlbmookfonlpjaaW.PrintWords Go.Proofs.YtlbmookfonlpjaaW.PrintMore Go.Proofs.Ytlbmookfonlpjaa.P Go.Proofs.Ytlbmookfonlpjaa.U Go.Proofs.Ytlbmookfonlpjaa.UT
set_option linter.unusedVariables false

theorem held2_l : ∀ (suf : List (List Int)) (pre : List (List Int)) (n : Int), 0 ≤ n → n + sumL suf ≤ 4398046511104 → pre.length + suf.length ≤ 1048576 → (∀ x, x ∈ suf → x.length ≤ 1048576) →
    Ev (fun k => laws_heldIntSS.l0 k (pre ++ mk2 suf n) n (pre.length : Int)) (n + sumL suf)
  | [], pre, n, h0, h1, hl, hx => by
    refine Ev.step (fun k => by simp only [laws_heldIntSS.l0]; rfl) (ev_neg (by simp [mk2]) (ev_const ?_))
    simp [sumL]
  | r :: suf, pre, n, h0, h1, hl, hx => by
    have hr := hx r List.mem_cons_self
    have hp := sumL_pos suf
    rw [sumL_cons] at h1
    rw [List.length_cons] at hl
    refine Ev.step (fun k => by simp only [laws_heldIntSS.l0]; rfl) ?_
    rw [mk2_cons]
    refine (ev_pos (by simp; omega) (ev_pos (by omega) ?_))
    have hg : rd_L1 (pre ++ mk1 r.length n :: mk2 suf (n + r.length)) (pre.length : Int) = mk1 r.length n := by
      rw [rd_l1 _ pre.length (by simp)]; simp
    rw [hg, wsucc (n := 1048576) (by omega) (by omega)]
    refine Ev.bind (held1 r.length n ⟨h0, by omega⟩ hr) (ev_neg (by omega) ?_)
    have ih := held2_l suf (pre ++ [mk1 r.length n]) (n + r.length) (by omega) (by omega) (by simp; omega) (fun x h => hx x (List.mem_cons_of_mem _ h))
    rw [List.length_append, List.length_singleton, List.append_assoc] at ih
    refine ev_eq ih ?_
    rw [sumL_cons]; omega
theorem held2 (l : List (List Int)) (n : Int) (h0 : 0 ≤ n) (h1 : n + sumL l ≤ 4398046511104) (hl : l.length ≤ 1048576) (hx : ∀ x, x ∈ l → x.length ≤ 1048576) : Ev (fun k => laws_heldIntSS.f k (mk2 l n) n) (n + sumL l) := by
  unfold laws_heldIntSS.f
  exact held2_l l [] n h0 h1 (by simp; omega) hx
end Go.Proofs.Ytlbmookfonlpjaa.UK
namespace Go.Proofs.Ytlbmookfonlpjaa.UY
open Go.RowKit Go.Proofs.YtlbmookfonlpjaaW.PrintWords Go.Proofs.YtlbmookfonlpjaaW.PrintMore Go.Proofs.Ytlbmookfonlpjaa.P Go.Proofs.Ytlbmookfonlpjaa.U Go.Proofs.Ytlbmookfonlpjaa.UT
set_option linter.unusedVariables false

/-! A copy. -/
theorem own1_spec (l : List Int) (hn : l.length ≤ 1048576) : spec_l1Own.f l = some l := by
  unfold spec_l1Own.f
  show (if ([] : List Int).length + l.length < 17592186044416 then some ([] ++ l) else none) = some l
  rw [if_pos (by simp; omega)]; rfl
theorem own1_impl (l : List Int) (hn : l.length ≤ 1048576) : slices_Clone_int_int.f l = some l := by
  unfold slices_Clone_int_int.f
  rw [if_pos (by omega)]
theorem own_spec_l (l : List (List Int)) (hn : l.length ≤ 1048576) (hx : ∀ x, x ∈ l → x.length ≤ 1048576) : ∀ d i, i + d = l.length → Ev (fun k => spec_l5Own.l0 k (i : Int) l (l.take i)) l := by
  intro d
  induction d with
  | zero =>
    intro i hi
    refine Ev.step (fun k => by simp only [spec_l5Own.l0]; rfl) (ev_neg (by omega) (ev_const ?_))
    rw [List.take_of_length_le (by omega)]
  | succ d ih =>
    intro i hi
    have hlt : i < l.length := by omega
    refine Ev.step (fun k => by simp only [spec_l5Own.l0]; rfl) (ev_pos (by omega) (ev_pos (by omega) ?_))
    rw [rd_l1 l i hlt, wsucc hlt (by omega)]
    refine ev_call (own1_spec _ (hx _ (List.getElem_mem hlt))) (ev_pos (by rw [List.length_take]; omega) ?_)
    have h := ih (i + 1) (by omega)
    rw [List.take_succ_eq_append_getElem hlt] at h
    exact h
theorem own_spec (l : List (List Int)) (hn : l.length ≤ 1048576) (hx : ∀ x, x ∈ l → x.length ≤ 1048576) : Ev (fun k => spec_l5Own.f k l) l := by
  unfold spec_l5Own.f
  exact own_spec_l l hn hx l.length 0 (by omega)
theorem own_impl_l (l : List (List Int)) (hn : l.length ≤ 1048576) (hx : ∀ x, x ∈ l → x.length ≤ 1048576) : ∀ d i, i + d = l.length → Ev (fun k => impl_ownYard.l0 k l (l.length : Int) (i : Int) (l.take i)) l := by
  intro d
  induction d with
  | zero =>
    intro i hi
    refine Ev.step (fun k => by simp only [impl_ownYard.l0]; rfl) (ev_neg (by omega) (ev_const ?_))
    rw [List.take_of_length_le (by omega)]
  | succ d ih =>
    intro i hi
    have hlt : i < l.length := by omega
    refine Ev.step (fun k => by simp only [impl_ownYard.l0]; rfl) (ev_pos (by omega) (ev_pos (by omega) (ev_pos (by omega) ?_)))
    rw [rd_l1 l i hlt, wsucc hlt (by omega)]
    refine ev_call (own1_impl _ (hx _ (List.getElem_mem hlt))) (ev_pos (by rw [List.length_take]; omega) ?_)
    have h := ih (i + 1) (by omega)
    rw [List.take_succ_eq_append_getElem hlt] at h
    exact h
theorem own_impl (l : List (List Int)) (hn : l.length ≤ 1048576) (hx : ∀ x, x ∈ l → x.length ≤ 1048576) : Ev (fun k => impl_ownYard.f k l) l := by
  unfold impl_ownYard.f
  exact own_impl_l l hn hx l.length 0 (by omega)

/-! One number more on a stack. -/
end Go.Proofs.Ytlbmookfonlpjaa.UY
namespace Go.Proofs.Ytlbmookfonlpjaa.UF
open Go.RowKit Go.Proofs.YtlbmookfonlpjaaW.PrintWords Go.Proofs.YtlbmookfonlpjaaW.PrintMore Go.Proofs.Ytlbmookfonlpjaa.P Go.Proofs.Ytlbmookfonlpjaa.U Go.Proofs.Ytlbmookfonlpjaa.UT Go.Proofs.Ytlbmookfonlpjaa.UY Go.Proofs.Ytlbmookfonlpjaa.UC
set_option linter.unusedVariables false

theorem rows_at {l : List (List Int)} {Q : List Int → Prop} (h : ∀ x, x ∈ l → Q x) (h0 : Q []) (i : Nat) : Q (l.getD i []) := by
  by_cases hi : i < l.length
  · rw [getD_at _ _ _ hi]; exact h _ (List.getElem_mem hi)
  · rw [show l.getD i [] = [] by simp [List.getD, List.getElem?_eq_none (show l.length ≤ i by omega)]]; exact h0
theorem mem_mv {l : List (List Int)} {P : Int → Prop} (h : ∀ x, x ∈ l → ∀ n, n ∈ x → P n) (f t : Nat) (hf : 0 < (l.getD f []).length) : ∀ x, x ∈ mvTab l f t → ∀ n, n ∈ x → P n := by
  have hr := fun i => rows_at (Q := fun x => ∀ n, n ∈ x → P n) h (fun n hn => by cases hn) i
  have hcut : ∀ x, x ∈ mvCut l f → ∀ n, n ∈ x → P n := by
    intro x hx n hn
    unfold mvCut at hx
    rcases List.mem_or_eq_of_mem_set hx with hx | hx
    · exact h x hx n hn
    · rw [hx] at hn; exact hr f n (List.mem_of_mem_take hn)
  intro x hx n hn
  unfold mvTab at hx
  rcases List.mem_or_eq_of_mem_set hx with hx | hx
  · exact hcut x hx n hn
  · rw [hx, List.mem_append] at hn
    rcases hn with hn | hn
    · exact rows_at (Q := fun x => ∀ n, n ∈ x → P n) hcut (fun n hn => by cases hn) t n hn
    · rw [List.mem_singleton] at hn
      rw [hn]
      unfold mvTop
      rw [getD_at _ _ _ (by omega)]
      exact hr f _ (List.getElem_mem (by omega))
theorem len_mv {l : List (List Int)} (h : ∀ x, x ∈ l → x.length ≤ 4) (f t : Nat) (hft : t ≠ f) (ht : (l.getD t []).length ≤ 3) : ∀ x, x ∈ mvTab l f t → x.length ≤ 4 := by
  have hr := fun i => rows_at (Q := fun x => x.length ≤ 4) h (by simp) i
  intro x hx
  unfold mvTab at hx
  rcases List.mem_or_eq_of_mem_set hx with hx | hx
  · unfold mvCut at hx
    rcases List.mem_or_eq_of_mem_set hx with hx | hx
    · exact h x hx
    · rw [hx, List.length_take]; have := hr f; omega
  · have e : (mvCut l f).getD t [] = l.getD t [] := by unfold mvCut; simp [List.getD, Ne.symm hft]
    rw [hx, e, List.length_append, List.length_singleton]; omega
/-- Why a move is none. -/
def noMove (l : List (List Int)) (a b : Nat) : Prop := a = b ∨ (l.getD a []).length = 0 ∨ (l.getD b []).length = 4
instance (l : List (List Int)) (a b : Nat) : Decidable (noMove l a b) := by unfold noMove; exact inferInstance
theorem mv_ok {l : List (List Int)} {cs : List C} (hy : low99 l) (hb : boxIn l (cs.length : Int) = true) (a b : Nat) (h : ¬ noMove l a b) : low99 (mvTab l a b) ∧ boxIn (mvTab l a b) (cs.length : Int) = true := by
  have h1 : ¬ a = b := fun e => h (Or.inl e)
  have h2 : ¬ (l.getD a []).length = 0 := fun e => h (Or.inr (Or.inl e))
  have h3 : ¬ (l.getD b []).length = 4 := fun e => h (Or.inr (Or.inr e))
  have h4 := rows_at (Q := fun x => x.length ≤ 4) (fun x hx => (hy.2 x hx).1) (by simp) b
  have hl : (mvTab l a b).length = l.length := by unfold mvTab mvCut; rw [List.length_set, List.length_set]
  refine ⟨⟨by rw [hl]; exact hy.1, fun x hx => ⟨len_mv (fun x hx => (hy.2 x hx).1) a b (Ne.symm h1) (by omega) x hx, mem_mv (fun x hx => (hy.2 x hx).2) a b (by omega) x hx⟩⟩, ?_⟩
  unfold boxIn
  rw [List.all_eq_true]
  intro x hx
  rw [List.all_eq_true]
  intro n hn
  refine mem_mv (P := fun n => decide (n ≤ (cs.length : Int)) = true) ?_ a b (by omega) x hx n hn
  intro y hy2 m hm
  unfold boxIn at hb
  exact List.all_eq_true.mp (List.all_eq_true.mp hb _ hy2) _ hm
def hlp1 (l : List (List Int)) (cs : List C) (q now : Int) (a b : Nat) : List (List Int) :=
  if noMove l a b then [] else if ((found (mvTab l a b) cs q).length : Int) < now then [[(a : Int), (b : Int)]] else []
def hRow (l : List (List Int)) (cs : List C) (q now : Int) (a : Nat) : Nat → Nat → List (List Int) → List (List Int)
  | 0, _, acc => acc
  | d + 1, b, acc => hRow l cs q now a d (b + 1) (acc ++ hlp1 l cs q now a b)
def hAll (l : List (List Int)) (cs : List C) (q now : Int) : Nat → Nat → List (List Int) → List (List Int)
  | 0, _, acc => acc
  | d + 1, a, acc => hAll l cs q now d (a + 1) (hRow l cs q now a l.length 0 acc)
theorem hlp1_len (l : List (List Int)) (cs : List C) (q now : Int) (a b : Nat) : (hlp1 l cs q now a b).length ≤ 1 ∧ ∀ x, x ∈ hlp1 l cs q now a b → x.length ≤ 2 := by
  unfold hlp1
  split
  · simp
  · split <;> simp
theorem hRow_len (l : List (List Int)) (cs : List C) (q now : Int) (a : Nat) : ∀ (d b : Nat) (acc : List (List Int)), (∀ x, x ∈ acc → x.length ≤ 2) → (hRow l cs q now a d b acc).length ≤ acc.length + d ∧ ∀ x, x ∈ hRow l cs q now a d b acc → x.length ≤ 2
  | 0, _, acc, h => ⟨by unfold hRow; omega, by unfold hRow; exact h⟩
  | d + 1, b, acc, h => by
    unfold hRow
    have h1 := hlp1_len l cs q now a b
    have h2 := hRow_len l cs q now a d (b + 1) (acc ++ hlp1 l cs q now a b) (fun x hx => by rw [List.mem_append] at hx; rcases hx with hx | hx; exact h x hx; exact h1.2 x hx)
    rw [List.length_append] at h2
    exact ⟨by have := h2.1; omega, h2.2⟩
theorem hAll_len (l : List (List Int)) (cs : List C) (q now : Int) : ∀ (d a : Nat) (acc : List (List Int)), (∀ x, x ∈ acc → x.length ≤ 2) → (hAll l cs q now d a acc).length ≤ acc.length + d * l.length ∧ ∀ x, x ∈ hAll l cs q now d a acc → x.length ≤ 2
  | 0, _, acc, h => ⟨by unfold hAll; omega, by unfold hAll; exact h⟩
  | d + 1, a, acc, h => by
    unfold hAll
    have h1 := hRow_len l cs q now a l.length 0 acc h
    have h2 := hAll_len l cs q now d (a + 1) _ h1.2
    exact ⟨by have := h2.1; have := h1.1; rw [Nat.succ_mul]; omega, h2.2⟩
theorem rd1_getD (l : List (List Int)) (i : Nat) : rd_L1 l (i : Int) = l.getD i [] := rfl
theorem move_spec {l : List (List Int)} (hy : low99 l) (a b : Nat) (ha : a < l.length) (hb : b < l.length) (h : ¬ noMove l a b) : Ev (fun k => spec_l5Move.f k l (a : Int) (b : Int)) (mvTab l a b) := by
  have h2 : ¬ (l.getD a []).length = 0 := fun e => h (Or.inr (Or.inl e))
  have hl := hy.1
  have hm : ∀ x, x ∈ l → x.length ≤ 1048576 := fun x hx => by have := (hy.2 x hx).1; omega
  unfold spec_l5Move.f
  refine Ev.bind (own_spec l (by omega) hm) (ev_const ?_)
  unfold spec_l5Move.g
  rw [if_pos ⟨by omega, by omega, by omega, by omega, by rw [Int.toNat_natCast]; omega, fun x hx => by have := (hy.2 x hx).1; omega⟩, Int.toNat_natCast, Int.toNat_natCast]
  rfl
theorem move_impl {l : List (List Int)} (hk : okYard l = true) (hy : low99 l) (a b : Nat) (ha : a < l.length) (hb : b < l.length) : Ev (fun k => impl_MoveTop.f k l (a : Int) (b : Int)) (if noMove l a b then ([], 0, false) else (mvTab l a b, mvTop l a, true)) := by
  have hl := hy.1
  have hm : ∀ x, x ∈ l → x.length ≤ 1048576 := fun x hx => by have := (hy.2 x hx).1; omega
  have hs : okStacks l [(a : Int), (b : Int)] = true := by
    unfold okStacks
    rw [hk]
    have e1 : inr (a : Int) 0 ((l.length : Int) - 1) = true := inr_iff.mpr ⟨by omega, by omega⟩
    have e2 : inr (b : Int) 0 ((l.length : Int) - 1) = true := inr_iff.mpr ⟨by omega, by omega⟩
    simp [e1, e2]
  unfold impl_MoveTop.f impl_hasStack.f
  refine Ev.bind (ev_const rfl) ?_
  rw [hs]
  refine ev_neg (by decide) (ev_pos ⟨by omega, by omega⟩ (ev_pos ⟨by omega, by omega⟩ ?_))
  rw [rd1_getD, rd1_getD]
  by_cases h : noMove l a b
  · rw [if_pos h]
    refine ev_pos ?_ (ev_const rfl)
    rcases h with h | h | h
    · exact Or.inl (by omega)
    · exact Or.inr (Or.inl (by omega))
    · exact Or.inr (Or.inr (by omega))
  · have h1 : ¬ a = b := fun e => h (Or.inl e)
    have h2 : ¬ (l.getD a []).length = 0 := fun e => h (Or.inr (Or.inl e))
    have h3 : ¬ (l.getD b []).length = 4 := fun e => h (Or.inr (Or.inr e))
    rw [if_neg h]
    refine ev_neg (by omega) (Ev.bind (own_impl l (by omega) hm) (ev_const ?_))
    unfold impl_MoveTop.g
    rw [Int.toNat_natCast, Int.toNat_natCast, if_pos ⟨ha, hb, by omega, fun x hx => by have := (hy.2 x hx).1; omega⟩]
theorem help_spec_l {l : List (List Int)} {cs : List C} (hy : low99 l) (hb : boxIn l (cs.length : Int) = true) (q now : Int) : ∀ (d a : Nat) (acc : List (List Int)), a + d = l.length → acc.length ≤ 6 * a →
    Ev (fun k => spec_HelpfulMoves.l0 k cs q acc now (a : Int) l) (hAll l cs q now d a acc, true) := by
  have h6 := hy.1
  intro d
  induction d with
  | zero =>
    intro a acc ha hc
    refine Ev.step (fun k => by simp only [spec_HelpfulMoves.l0]; rfl) (ev_neg (by omega) (ev_const rfl))
  | succ d ih =>
    intro a acc ha hc
    have hlt : a < l.length := by omega
    refine Ev.step (fun k => by simp only [spec_HelpfulMoves.l0]; rfl) (ev_pos (by omega) ?_)
    unfold hAll
    have inner : ∀ (e b : Nat) (acc : List (List Int)), b + e = l.length → acc.length ≤ 6 * a + b → Ev (fun k => spec_HelpfulMoves.l1 k cs q acc now (a : Int) (b : Int) l) (hAll l cs q now d (a + 1) (hRow l cs q now a e b acc), true) := by
      intro e
      induction e with
      | zero =>
        intro b acc hb1 hc1
        refine Ev.step (fun k => by simp only [spec_HelpfulMoves.l1]; rfl) (ev_neg (by omega) ?_)
        rw [wsucc hlt (by omega)]
        exact ih (a + 1) acc (by omega) (by omega)
      | succ e ihe =>
        intro b acc hb1 hc1
        have hbt : b < l.length := by omega
        unfold hRow
        have no : noMove l a b → Ev (fun k => spec_HelpfulMoves.j2 k cs q acc now (a : Int) (b : Int) true l) (hAll l cs q now d (a + 1) (hRow l cs q now a e (b + 1) (acc ++ hlp1 l cs q now a b)), true) := fun h => by
          refine Ev.step (fun k => by simp only [spec_HelpfulMoves.j2]; rfl) (ev_pos (c := true = true) rfl ?_)
          rw [wsucc hbt (by omega), hlp1, if_pos h, List.append_nil]
          exact ihe (b + 1) acc (by omega) (by omega)
        refine Ev.step (fun k => by simp only [spec_HelpfulMoves.l1]; rfl) (ev_pos (by omega) ?_)
        rw [rd1_getD, rd1_getD]
        by_cases h1 : a = b
        · exact ev_pos (by omega) (no (Or.inl h1))
        refine ev_neg (by omega) (ev_pos (by omega) (ev_pos (by omega) ?_))
        by_cases h2 : (l.getD a []).length = 0
        · exact ev_pos (by omega) (no (Or.inr (Or.inl h2)))
        refine ev_neg (by omega) (ev_pos (by omega) ?_)
        by_cases h3 : (l.getD b []).length = 4
        · rw [show (((l.getD b []).length : Int) == 4) = true from beq_iff_eq.mpr (by omega)]
          exact no (Or.inr (Or.inr h3))
        rw [show (((l.getD b []).length : Int) == 4) = false from beq_eq_false_iff_ne.mpr (by omega)]
        have hno : ¬ noMove l a b := by rintro (h | h | h); exact h1 h; exact h2 h; exact h3 h
        obtain ⟨hm1, hm2⟩ := mv_ok hy hb a b hno
        refine Ev.step (fun k => by simp only [spec_HelpfulMoves.j2]; rfl) (ev_neg (by simp) ?_)
        refine Ev.bind (move_spec hy a b hlt hbt hno) (Ev.bind (found_spec hm1 hm2 q) ?_)
        rw [wsucc hbt (by omega), hlp1, if_neg hno]
        by_cases hf : ((found (mvTab l a b) cs q).length : Int) < now
        · rw [if_pos hf]
          exact ev_pos hf (ev_pos (by omega) (ihe (b + 1) _ (by omega) (by rw [List.length_append, List.length_singleton]; omega)))
        · rw [if_neg hf, List.append_nil]
          exact ev_neg hf (ihe (b + 1) acc (by omega) (by omega))
    exact inner l.length 0 acc (by omega) (by omega)
theorem help_impl_l {l : List (List Int)} {cs : List C} (hk : okYard l = true) (hy : low99 l) (hb : boxIn l (cs.length : Int) = true) (q now : Int) : ∀ (d a : Nat) (acc : List (List Int)), a + d = l.length → acc.length ≤ 6 * a →
    Ev (fun k => impl_HelpfulMoves.l0 k cs q now acc (l.length : Int) (a : Int) l) (hAll l cs q now d a acc, true) := by
  have h6 := hy.1
  intro d
  induction d with
  | zero =>
    intro a acc ha hc
    refine Ev.step (fun k => by simp only [impl_HelpfulMoves.l0]; rfl) (ev_neg (by omega) (ev_const rfl))
  | succ d ih =>
    intro a acc ha hc
    have hlt : a < l.length := by omega
    refine Ev.step (fun k => by simp only [impl_HelpfulMoves.l0]; rfl) (ev_pos (by omega) ?_)
    unfold hAll
    have inner : ∀ (e b : Nat) (acc : List (List Int)), b + e = l.length → acc.length ≤ 6 * a + b → Ev (fun k => impl_HelpfulMoves.l1 k cs q now acc (a : Int) (l.length : Int) (a : Int) (l.length : Int) (b : Int) l) (hAll l cs q now d (a + 1) (hRow l cs q now a e b acc), true) := by
      intro e
      induction e with
      | zero =>
        intro b acc hb1 hc1
        refine Ev.step (fun k => by simp only [impl_HelpfulMoves.l1]; rfl) (ev_neg (by omega) ?_)
        rw [wsucc hlt (by omega)]
        exact ih (a + 1) acc (by omega) (by omega)
      | succ e ihe =>
        intro b acc hb1 hc1
        have hbt : b < l.length := by omega
        unfold hRow
        refine Ev.step (fun k => by simp only [impl_HelpfulMoves.l1]; rfl) (ev_pos (by omega) (Ev.bind (move_impl hk hy a b hlt hbt) ?_))
        rw [wsucc hbt (by omega), hlp1]
        by_cases h : noMove l a b
        · rw [if_pos h, if_pos h, List.append_nil]
          exact ev_neg (by simp) (ihe (b + 1) acc (by omega) (by omega))
        · rw [if_neg h, if_neg h]
          obtain ⟨hm1, hm2⟩ := mv_ok hy hb a b h
          refine ev_pos rfl (Ev.bind (found_impl hm1 hm2 q) ?_)
          by_cases hf : ((found (mvTab l a b) cs q).length : Int) < now
          · rw [if_pos hf]
            exact ev_pos hf (ev_pos (by omega) (ihe (b + 1) _ (by omega) (by rw [List.length_append, List.length_singleton]; omega)))
          · rw [if_neg hf, List.append_nil]
            exact ev_neg hf (ihe (b + 1) acc (by omega) (by omega))
    exact inner l.length 0 acc (by omega) (by omega)
theorem help_same (l : List (List Int)) (cs : List C) (q : Int) (hn : l.length ≤ 1048576) (hx : ∀ x, x ∈ l → x.length ≤ 1048576) (hc : cs.length ≤ 1048576) :
    ∃ (r : List (List Int)) (b : Bool), Ev (fun k => spec_HelpfulMoves.f k l cs q) (r, b) ∧ Ev (fun k => impl_HelpfulMoves.f k l cs q) (r, b) ∧ r.length ≤ 1048576 ∧ ∀ x, x ∈ r → x.length ≤ 1048576 := by
  have hA := ask_spec l cs q hn hx hc
  have hI := ask_impl l cs q hn hx hc
  cases h : okAsk l cs q
  · rw [h] at hA hI
    refine ⟨[], false, ?_, ?_, by simp, by simp⟩
    · unfold spec_HelpfulMoves.f
      exact Ev.bind (ev_const rfl) (Ev.bind hA (ev_neg (by simp) (ev_const rfl)))
    · unfold impl_HelpfulMoves.f
      exact Ev.bind hI (ev_neg (by simp) (ev_const rfl))
  · rw [h] at hA hI
    obtain ⟨hk, hb⟩ := okAsk_in h
    have hy : low99 l := okYard_mem hk
    obtain ⟨r, hr⟩ : ∃ r, r = hAll l cs q ((found l cs q).length : Int) l.length 0 [] := ⟨_, rfl⟩
    have hl := hAll_len l cs q ((found l cs q).length : Int) l.length 0 [] (by simp)
    rw [← hr] at hl
    have h6 := hy.1
    have hq : l.length * l.length ≤ 6 * 6 := Nat.mul_le_mul h6.2 h6.2
    refine ⟨r, true, ?_, ?_, by have := hl.1; simp at this; omega, fun x hx => by have := hl.2 x hx; omega⟩
    · unfold spec_HelpfulMoves.f
      rw [hr]
      exact Ev.bind (ev_const rfl) (Ev.bind hA (ev_pos rfl (Ev.bind (found_spec hy hb q) (help_spec_l hy hb q _ l.length 0 [] (by omega) (by simp)))))
    · unfold impl_HelpfulMoves.f
      rw [hr]
      exact Ev.bind hI (ev_pos rfl (Ev.bind (found_impl hy hb q) (help_impl_l hk hy hb q _ l.length 0 [] (by omega) (by simp))))
end Go.Proofs.Ytlbmookfonlpjaa.UF
