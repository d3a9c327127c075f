/- UTab, UYard, UYardMem, UArr0, UOwn, UStepY, UUniq, UOrderA, UStepQ, UStepH, USimple, UMark, as one text. -/
import Derived.Test.YtlnihlmlkdhiaaaPx0
import Derived.Test.YtlnihlmlkdhiaaaPx1
import Derived.Test.YtlnihlmlkdhiaaaPx10
import Derived.Test.YtlnihlmlkdhiaaaPx11
import Derived.Test.YtlnihlmlkdhiaaaPx12
import Derived.Test.YtlnihlmlkdhiaaaPx13
import Derived.Test.YtlnihlmlkdhiaaaPx14
import Derived.Test.YtlnihlmlkdhiaaaPx16
import Derived.Test.YtlnihlmlkdhiaaaPx17
import Derived.Test.YtlnihlmlkdhiaaaPx18
import Derived.Test.YtlnihlmlkdhiaaaPx19
import Derived.Test.YtlnihlmlkdhiaaaPx2
import Derived.Test.YtlnihlmlkdhiaaaPx20
import Derived.Test.YtlnihlmlkdhiaaaPx3
import Derived.Test.YtlnihlmlkdhiaaaPx5
import Derived.Test.YtlnihlmlkdhiaaaPx6
import Derived.Test.YtlnihlmlkdhiaaaPx7
import Derived.Test.YtlnihlmlkdhiaaaPx8
import Derived.Test.YtlnihlmlkdhiaaaPx9
import Derived.Test.YtlnihlmlkdhiaaaU
namespace Go.Proofs.Ytlnihlmlkdhiaaa.UT
open Go.RowKit Go.Proofs.YtlnihlmlkdhiaaaW.PrintWords Go.Proofs.YtlnihlmlkdhiaaaW.PrintMore Go.Proofs.Ytlnihlmlkdhiaaa.P Go.Proofs.Ytlnihlmlkdhiaaa.U
set_option linter.unusedVariables false

theorem rd_l1 (l : List (List Int)) (i : Nat) (h : i < l.length) : rd_L1 l (i : Int) = l[i] := by
  unfold rd_L1
  rw [Int.toNat_natCast]
  exact getD_at l i _ h

/-- What 'sz' leaves of n; -1 if it is too much. -/
def szT (l : List (List Int)) (n : Int) : Int := l.foldl (fun m x => if m < 0 then m else if m - (x.length : Int) < 0 then -1 else m - (x.length : Int)) n
theorem szT_neg (l : List (List Int)) : szT l (-1) = -1 := by
  unfold szT
  induction l with
  | nil => rfl
  | cons x l ih => rw [List.foldl_cons, if_pos (by omega)]; exact ih
theorem szT_le : ∀ (l : List (List Int)) (n : Int), 0 ≤ szT l n → ∀ x, x ∈ l → (x.length : Int) ≤ n
  | [], _, _, x, hx => by cases hx
  | y :: l, n, h, x, hx => by
    unfold szT at h
    rw [List.foldl_cons] at h
    change 0 ≤ szT l _ at h
    by_cases h0 : n < 0
    · rw [if_pos h0] at h
      exact absurd h (by
        have hk : ∀ (l : List (List Int)) (n : Int), n < 0 → szT l n < 0 := by
          intro l
          induction l with
          | nil => intro n hn; exact hn
          | cons z l ih => intro n hn; unfold szT; rw [List.foldl_cons, if_pos hn]; exact ih n hn
        have := hk l n h0
        omega)
    · rw [if_neg h0] at h
      by_cases h1 : n - (y.length : Int) < 0
      · rw [if_pos h1, szT_neg] at h
        omega
      · rw [if_neg h1] at h
        rcases List.mem_cons.1 hx with rfl | hx
        · omega
        · have := szT_le l _ h x hx
          omega
theorem sz1 (l : List Int) (n : Int) (hn : 0 ≤ n ∧ n ≤ 1048576) (hl : l.length ≤ 9223372036854775807) : laws_szIntS.f l n = some (if n - (l.length : Int) < 0 then -1 else n - (l.length : Int)) := by
  unfold laws_szIntS.f
  rw [wr (by omega) (by omega)]
  split <;> rfl
theorem sz_l (l : List (List Int)) (hl : l.length ≤ 9223372036854775807) (hx : ∀ x, x ∈ l → x.length ≤ 9223372036854775807) : ∀ d i (n : Int), i + d = l.length → 0 ≤ n ∧ n ≤ 1048576 → Ev (fun k => laws_szIntSS.l0 k l n (i : Int)) (szT (l.drop i) n) := by
  intro d
  induction d with
  | zero =>
    intro i n hi hn
    refine Ev.step (fun k => by simp only [laws_szIntSS.l0]; rfl) ?_
    refine ev_neg (by omega) (ev_const ?_)
    rw [List.drop_of_length_le (by omega)]; rfl
  | succ d ih =>
    intro i n hi hn
    have hlt : i < l.length := by omega
    refine Ev.step (fun k => by simp only [laws_szIntSS.l0]; rfl) ?_
    refine ev_pos (by omega) (ev_pos (by omega) ?_)
    rw [rd_l1 l i hlt, wsucc hlt hl, List.drop_eq_getElem_cons hlt]
    refine ev_call (sz1 _ n hn (hx _ (List.getElem_mem hlt))) ?_
    by_cases h1 : n - (l[i].length : Int) < 0
    · refine ev_eq (ev_pos (by rw [if_pos h1]; omega) (ev_const rfl)) ?_
      unfold szT
      rw [List.foldl_cons, if_neg (by omega), if_pos h1]
      exact (szT_neg _).symm
    · have e2 : szT (l[i] :: l.drop (i + 1)) n = szT (l.drop (i + 1)) (n - (l[i].length : Int)) := by
        unfold szT
        rw [List.foldl_cons, if_neg (by omega), if_neg h1]
      rw [e2, if_neg h1]
      exact ev_neg h1 (ih (i + 1) _ (by omega) (by omega))
/-- 'sz' of rows: it is small, or it is told as too much. -/
theorem sz_ev (l : List (List Int)) (hl : l.length ≤ 9223372036854775807) (hx : ∀ x, x ∈ l → x.length ≤ 9223372036854775807) :
    ∃ n, Ev (fun k => laws_szIntSS.f k l 1048576) n ∧ n ≤ 1048576 ∧ (0 ≤ n → l.length ≤ 1048576 ∧ ∀ x, x ∈ l → x.length ≤ 1048576) := by
  unfold laws_szIntSS.f
  have e : wrap64 (1048576 - (l.length : Int)) = 1048576 - (l.length : Int) := wr (by omega) (by omega)
  rw [e]
  by_cases h : 1048576 - (l.length : Int) < 0
  · exact ⟨-1, ev_pos h (ev_const rfl), by omega, fun h => by omega⟩
  · refine ⟨_, ev_neg h (sz_l l hl hx l.length 0 _ (by omega) (by omega)), ?_, fun h0 => ⟨by omega, fun x hx => ?_⟩⟩
    · have hk : ∀ (l : List (List Int)) (n : Int), n ≤ 1048576 → szT l n ≤ 1048576 := by
        intro l
        induction l with
        | nil => intro n hn; exact hn
        | cons z l ih =>
          intro n hn
          unfold szT
          rw [List.foldl_cons]
          refine ih _ ?_
          split
          · exact hn
          · split <;> omega
      exact hk _ _ (by omega)
    · have := szT_le _ _ h0 x hx
      omega

theorem to1_l (l : List Int) (hn : l.length ≤ 1048576) : ∀ d i (acc : List Int), i + d = l.length → acc.length = l.length → acc.take i = l.take i → Ev (fun k => laws_toIntS.l0 k l acc (i : Int)) l := by
  intro d
  induction d with
  | zero =>
    intro i acc hi ha ht
    refine Ev.step (fun k => by simp only [laws_toIntS.l0]; rfl) (ev_neg (by omega) (ev_const ?_))
    rw [List.take_of_length_le (by omega), List.take_of_length_le (by omega)] at ht
    rw [ht]
  | succ d ih =>
    intro i acc hi ha ht
    have hlt : i < l.length := by omega
    refine Ev.step (fun k => by simp only [laws_toIntS.l0]; rfl) ?_
    refine ev_pos (by omega) (ev_pos (by omega) (ev_pos (by omega) ?_))
    rw [wsucc hlt (by omega), Int.toNat_natCast, rd_at l i hlt]
    refine ih (i + 1) _ (by omega) (by rw [List.length_set]; exact ha) ?_
    rw [fill_step ht (by omega), List.take_succ_eq_append_getElem hlt]
theorem to1 (l : List Int) (hn : l.length ≤ 1048576) : Ev (fun k => laws_toIntS.f k l) l := by
  unfold laws_toIntS.f
  refine ev_pos (by omega) (ev_pos (by omega) ?_)
  exact to1_l l hn l.length 0 _ (by omega) (by simp) (by simp)
theorem to_l (l : List (List Int)) (hn : l.length ≤ 1048576) (hx : ∀ x, x ∈ l → x.length ≤ 1048576) : ∀ d i (acc : List (List Int)), i + d = l.length → acc.length = l.length → acc.take i = l.take i → Ev (fun k => laws_toIntSS.l0 k l acc (i : Int)) l := by
  intro d
  induction d with
  | zero =>
    intro i acc hi ha ht
    refine Ev.step (fun k => by simp only [laws_toIntSS.l0]; rfl) (ev_neg (by omega) (ev_const ?_))
    rw [List.take_of_length_le (by omega), List.take_of_length_le (by omega)] at ht
    rw [ht]
  | succ d ih =>
    intro i acc hi ha ht
    have hlt : i < l.length := by omega
    refine Ev.step (fun k => by simp only [laws_toIntSS.l0]; rfl) ?_
    refine ev_pos (by omega) (ev_pos (by omega) ?_)
    rw [wsucc hlt (by omega), Int.toNat_natCast, rd_l1 l i hlt]
    refine Ev.bind (to1 _ (hx _ (List.getElem_mem hlt))) (ev_pos (by omega) ?_)
    refine ih (i + 1) _ (by omega) (by rw [List.length_set]; exact ha) ?_
    rw [fill_step ht (by omega), List.take_succ_eq_append_getElem hlt]
theorem to_ev (l : List (List Int)) (hn : l.length ≤ 1048576) (hx : ∀ x, x ∈ l → x.length ≤ 1048576) : Ev (fun k => laws_toIntSS.f k l) l := by
  unfold laws_toIntSS.f
  refine ev_pos (by omega) (ev_pos (by omega) ?_)
  exact to_l l hn hx l.length 0 _ (by omega) (by simp) (by simp)

theorem eq1_l (l : List Int) (hn : l.length ≤ 9223372036854775807) : ∀ d i, i + d = l.length → Ev (fun k => laws_eqIntS.l0 k l l (i : Int)) true := by
  intro d
  induction d with
  | zero => intro i hi; exact Ev.step (fun k => by simp only [laws_eqIntS.l0]; rfl) (ev_neg (by omega) (ev_const rfl))
  | succ d ih =>
    intro i hi
    refine Ev.step (fun k => by simp only [laws_eqIntS.l0]; rfl) ?_
    refine ev_pos (by omega) (ev_pos (by omega) (ev_pos (by omega) (ev_pos (by simp) ?_)))
    rw [wsucc (show i < l.length by omega) (by omega)]
    exact ih (i + 1) (by omega)
theorem eq1 (l : List Int) (hn : l.length ≤ 9223372036854775807) : Ev (fun k => laws_eqIntS.f k l l) true := by
  unfold laws_eqIntS.f
  exact ev_pos rfl (eq1_l l hn l.length 0 (by omega))
theorem eq_l (l : List (List Int)) (hn : l.length ≤ 9223372036854775807) (hx : ∀ x, x ∈ l → x.length ≤ 9223372036854775807) : ∀ d i, i + d = l.length → Ev (fun k => laws_eqIntSS.l0 k l l (i : Int)) true := by
  intro d
  induction d with
  | zero => intro i hi; exact Ev.step (fun k => by simp only [laws_eqIntSS.l0]; rfl) (ev_neg (by omega) (ev_const rfl))
  | succ d ih =>
    intro i hi
    have hlt : i < l.length := by omega
    refine Ev.step (fun k => by simp only [laws_eqIntSS.l0]; rfl) ?_
    refine ev_pos (by omega) (ev_pos (by omega) (ev_pos (by omega) ?_))
    rw [rd_l1 l i hlt]
    refine Ev.bind (eq1 _ (hx _ (List.getElem_mem hlt))) (ev_pos rfl ?_)
    rw [wsucc hlt hn]
    exact ih (i + 1) (by omega)
theorem eq_ev (l : List (List Int)) (hn : l.length ≤ 9223372036854775807) (hx : ∀ x, x ∈ l → x.length ≤ 9223372036854775807) : Ev (fun k => laws_eqIntSS.f k l l) true := by
  unfold laws_eqIntSS.f
  exact ev_pos rfl (eq_l l hn hx l.length 0 (by omega))

theorem in_spec (a b c : Int) : spec_l1In.f a b c = some (inr a b c) := by
  unfold spec_l1In.f inr
  by_cases h : b ≤ a <;> simp [h]
theorem has_l (l : List Int) (v : Int) (hn : l.length ≤ 9223372036854775807) : ∀ d i, i + d = l.length → Ev (fun k => spec_l1Has.l0 k l v (i : Int)) ((l.drop i).contains v) := by
  intro d
  induction d with
  | zero =>
    intro i hi
    refine Ev.step (fun k => by simp only [spec_l1Has.l0]; rfl) (ev_neg (by omega) (ev_const ?_))
    rw [List.drop_of_length_le (by omega)]; rfl
  | succ d ih =>
    intro i hi
    have hlt : i < l.length := by omega
    refine Ev.step (fun k => by simp only [spec_l1Has.l0]; rfl) ?_
    refine ev_pos (by omega) (ev_pos (by omega) ?_)
    rw [rd_at l i hlt, wsucc hlt hn, List.drop_eq_getElem_cons hlt, List.contains_cons]
    by_cases e : l[i] = v
    · exact ev_eq (ev_pos e (ev_const rfl)) (by simp [e])
    · exact ev_eq (ev_neg e (ih (i + 1) (by omega))) (by simp [Ne.symm e])
theorem has_ev (l : List Int) (v : Int) (hn : l.length ≤ 9223372036854775807) : Ev (fun k => spec_l1Has.f k l v) (l.contains v) := by
  unfold spec_l1Has.f
  exact has_l l v hn l.length 0 (by omega)
end Go.Proofs.Ytlnihlmlkdhiaaa.UT
namespace Go.Proofs.Ytlnihlmlkdhiaaa.UY
open Go.RowKit Go.Proofs.YtlnihlmlkdhiaaaW.PrintWords Go.Proofs.YtlnihlmlkdhiaaaW.PrintMore Go.Proofs.Ytlnihlmlkdhiaaa.P Go.Proofs.Ytlnihlmlkdhiaaa.U Go.Proofs.Ytlnihlmlkdhiaaa.UT
set_option linter.unusedVariables false

theorem good_args {s : S24} (h : G24 s) : s.f0.length ≤ 9223372036854775807 ∧ ∀ x, x ∈ s.f0 → x.length ≤ 9223372036854775807 := ⟨h.1, fun x hx => (h.2 x hx).1⟩
theorem sz_yard (l : List (List Int)) (hl : l.length ≤ 9223372036854775807) (hx : ∀ x, x ∈ l → x.length ≤ 9223372036854775807) :
    ∃ n, Ev (fun k => laws_szYard.f k l 1048576) n ∧ (0 ≤ n → l.length ≤ 1048576 ∧ ∀ x, x ∈ l → x.length ≤ 1048576) := by
  obtain ⟨n, h1, h2, h3⟩ := sz_ev l hl hx
  unfold laws_szYard.f
  by_cases hn : n < 0
  · exact ⟨-1, Ev.bind h1 (ev_pos hn (ev_const rfl)), fun h => by omega⟩
  · exact ⟨n, Ev.bind h1 (ev_neg hn (ev_const rfl)), h3⟩
theorem to_yard (l : List (List Int)) (hn : l.length ≤ 1048576) (hx : ∀ x, x ∈ l → x.length ≤ 1048576) : Ev (fun k => laws_toYard.f k l) l := by
  unfold laws_toYard.f
  exact Ev.bind (to_ev l hn hx) (ev_const rfl)
theorem eq_yard (l : List (List Int)) (hn : l.length ≤ 9223372036854775807) (hx : ∀ x, x ∈ l → x.length ≤ 9223372036854775807) : Ev (fun k => laws_eqYard.f k l l) true := by
  unfold laws_eqYard.f
  exact (Ev.bind (eq_ev l hn hx) (ev_pos rfl (ev_const rfl)))

theorem contains_rev (s : List Int) (n : Int) : s.reverse.contains n = s.contains n := by
  rw [Bool.eq_iff_iff]; simp
/-- The reference's loops: what is left of the check. -/
theorem good_l (l : List (List Int)) (hn : l.length ≤ 9223372036854775807) (hx : ∀ x, x ∈ l → x.length ≤ 1048576) : ∀ d i (s : List Int), i + d = l.length → s.length ≤ i * 1048576 → l.length ≤ 1048576 →
    Ev (fun k => spec_l5Good.l0 k s.reverse (i : Int) l) ((chkRows 4 (l.drop i) s).isSome) := by
  intro d
  induction d with
  | zero =>
    intro i s hi hs _
    refine Ev.step (fun k => by simp only [spec_l5Good.l0]; rfl) ?_
    refine ev_neg (by omega) (ev_const ?_)
    rw [List.drop_of_length_le (by omega)]; rfl
  | succ d ih =>
    intro i s hi hs hll
    have hlt : i < l.length := by omega
    refine Ev.step (fun k => by simp only [spec_l5Good.l0]; rfl) ?_
    refine ev_pos (by omega) (ev_pos (by omega) ?_)
    rw [rd_l1 l i hlt, List.drop_eq_getElem_cons hlt]
    have hxi := hx _ (List.getElem_mem hlt)
    unfold chkRows
    by_cases hc : (l[i].length : Int) ≤ 4
    · rw [if_pos hc]
      refine ev_neg (by omega) ?_
      have inner : ∀ e j (s : List Int), j + e = l[i].length → s.length ≤ i * 1048576 + j → Ev (fun k => spec_l5Good.l1 k s.reverse (i : Int) (j : Int) l) (((chkRow (l[i].drop j) s).bind (chkRows 4 (l.drop (i + 1)))).isSome) := by
        intro e
        induction e with
        | zero =>
          intro j s hj hs
          refine Ev.step (fun k => by simp only [spec_l5Good.l1]; rfl) ?_
          refine ev_pos (by omega) (ev_pos (by omega) ?_)
          rw [rd_l1 l i hlt, wsucc hlt hn]
          refine ev_neg (by omega) ?_
          rw [List.drop_of_length_le (by omega)]
          exact ih (i + 1) s (by omega) (by omega) hll
        | succ e ihe =>
          intro j s hj hs
          have hjt : j < l[i].length := by omega
          refine Ev.step (fun k => by simp only [spec_l5Good.l1]; rfl) ?_
          refine ev_pos (by omega) (ev_pos (by omega) ?_)
          rw [rd_l1 l i hlt, rd_at _ j hjt, wsucc hjt (by omega), List.drop_eq_getElem_cons hjt]
          refine ev_pos (by omega) (ev_pos (by omega) ?_)
          refine ev_call (in_spec _ _ _) ?_
          cases h1 : inr l[i][j] 1 99
          · exact ev_eq (ev_neg (by simp) (ev_const rfl)) (by rw [chkRow_bad (by rw [h1]; rfl)]; rfl)
          refine ev_pos rfl ?_
          have hh := has_ev s.reverse l[i][j] (by rw [List.length_reverse]; omega)
          rw [contains_rev] at hh
          refine Ev.bind hh ?_
          cases h2 : s.contains l[i][j]
          · refine ev_neg (by simp) (ev_pos (by rw [List.length_reverse]; omega) ?_)
            rw [chkRow_ok (by rw [h1, h2]; rfl)]
            have e2 := ihe (j + 1) (l[i][j] :: s) (by omega) (by rw [List.length_cons]; omega)
            rw [List.reverse_cons] at e2
            exact e2
          · exact ev_eq (ev_pos rfl (ev_const rfl)) (by rw [chkRow_bad (by rw [h1, h2]; rfl)]; rfl)
      exact inner l[i].length 0 s (by omega) (Nat.le_trans hs (Nat.le_add_right _ _))
    · rw [if_neg hc]
      exact ev_pos (by omega) (ev_const rfl)
theorem good_spec (l : List (List Int)) (hn : l.length ≤ 1048576) (hx : ∀ x, x ∈ l → x.length ≤ 1048576) : Ev (fun k => spec_l5Good.f k l) (okYard l) := by
  unfold spec_l5Good.f okYard
  refine ev_call (in_spec _ _ _) ?_
  cases h2 : inr (l.length : Int) 1 6
  · exact ev_neg (by simp) (ev_const rfl)
  · exact ev_pos rfl (good_l l (by omega) hx l.length 0 [] (by omega) (by simp) hn)
end Go.Proofs.Ytlnihlmlkdhiaaa.UY
namespace Go.Proofs.Ytlnihlmlkdhiaaa.UY
open Go.RowKit Go.Proofs.YtlnihlmlkdhiaaaW.PrintWords Go.Proofs.YtlnihlmlkdhiaaaW.PrintMore Go.Proofs.Ytlnihlmlkdhiaaa.P Go.Proofs.Ytlnihlmlkdhiaaa.U Go.Proofs.Ytlnihlmlkdhiaaa.UT
set_option linter.unusedVariables false

/-! A valid yard. -/
theorem chkRow_mem : ∀ (l s t : List Int), chkRow l s = some t → ∀ n, n ∈ l → inr n 1 99 = true
  | [], _, _, _, n, hn => by cases hn
  | x :: l, s, t, h, n, hn => by
    unfold chkRow at h
    split at h
    · rename_i hc
      rw [Bool.and_eq_true] at hc
      rcases List.mem_cons.mp hn with rfl | hn
      · exact hc.1
      · exact chkRow_mem l _ _ h n hn
    · cases h
theorem chkRows_mem (cap : Int) : ∀ (l : List (List Int)) (s t : List Int), chkRows cap l s = some t → ∀ x, x ∈ l → (x.length : Int) ≤ cap ∧ ∀ n, n ∈ x → inr n 1 99 = true
  | [], _, _, _, x, hx => by cases hx
  | r :: l, s, t, h, x, hx => by
    unfold chkRows at h
    split at h
    · rename_i hc
      cases h1 : chkRow r s with
      | none => rw [h1] at h; cases h
      | some u =>
        rw [h1] at h
        rcases List.mem_cons.mp hx with rfl | hx
        · exact ⟨hc, chkRow_mem _ _ _ h1⟩
        · exact chkRows_mem cap l _ _ h x hx
    · cases h
theorem okYard_mem {l : List (List Int)} (h : okYard l = true) : (1 ≤ l.length ∧ l.length ≤ 6) ∧ ∀ x, x ∈ l → x.length ≤ 4 ∧ ∀ n, n ∈ x → 1 ≤ n ∧ n ≤ 99 := by
  unfold okYard at h
  rw [Bool.and_eq_true, inr_iff] at h
  obtain ⟨h1, h2⟩ := h
  obtain ⟨t, ht⟩ := Option.isSome_iff_exists.mp h2
  refine ⟨⟨by omega, by omega⟩, fun x hx => ?_⟩
  obtain ⟨h3, h4⟩ := chkRows_mem 4 l _ _ ht x hx
  exact ⟨by omega, fun n hn => inr_iff.mp (h4 n hn)⟩

theorem rdl_mem {l : List (List Int)} {s : Int} (h0 : 0 ≤ s) (h1 : s < (l.length : Int)) : rd_L1 l s ∈ l := by
  obtain ⟨n, rfl⟩ := Int.eq_ofNat_of_zero_le h0
  have h : n < l.length := by omega
  rw [show rd_L1 l (n : Int) = l[n] from rd_l1 l n h]
  exact List.getElem_mem h
end Go.Proofs.Ytlnihlmlkdhiaaa.UY
namespace Go.Proofs.Ytlnihlmlkdhiaaa.UY
open Go.RowKit Go.Proofs.YtlnihlmlkdhiaaaW.PrintWords Go.Proofs.YtlnihlmlkdhiaaaW.PrintMore Go.Proofs.Ytlnihlmlkdhiaaa.P Go.Proofs.Ytlnihlmlkdhiaaa.U Go.Proofs.Ytlnihlmlkdhiaaa.UT
set_option linter.unusedVariables false

/-! Where a number stands. -/
def inYard (l : List (List Int)) (v : Int) : Bool := l.any fun r => r.contains v
def findR (v : Int) : List (List Int) → Nat → Int × Int
  | [], _ => (-1, -1)
  | r :: l, i => if r.contains v = true then ((i : Int), (r.idxOf v : Int)) else findR v l (i + 1)
theorem findR_in (v : Int) : ∀ (l : List (List Int)) (i : Nat), decide ((findR v l i).1 ≥ 0) = inYard l v
  | [], i => by simp [findR, inYard]
  | r :: l, i => by
    unfold findR inYard
    rw [List.any_cons]
    by_cases h : r.contains v = true
    · rw [if_pos h, h]; simp
    · have hf : r.contains v = false := by simpa using h
      rw [if_neg h, findR_in v l (i + 1), hf]; rfl
theorem idx_l (l : List Int) (v : Int) (hn : l.length ≤ 1048576) : ∀ d i, i + d = l.length → Ev (fun k => slices_Index_int_int.l0 k l v (l.length : Int) (i : Int)) (if (l.drop i).contains v = true then ((i + (l.drop i).idxOf v : Nat) : Int) else -1) := by
  intro d
  induction d with
  | zero =>
    intro i hi
    refine Ev.step (fun k => by simp only [slices_Index_int_int.l0]; rfl) ?_
    refine ev_neg (by omega) (ev_const ?_)
    rw [List.drop_of_length_le (by omega)]; rfl
  | succ d ih =>
    intro i hi
    have hlt : i < l.length := by omega
    refine Ev.step (fun k => by simp only [slices_Index_int_int.l0]; rfl) ?_
    refine ev_pos (by omega) (ev_pos (by omega) (ev_pos (by omega) ?_))
    rw [rd_at l i hlt, wsucc hlt (by omega), List.drop_eq_getElem_cons hlt]
    by_cases hc : v = l[i]
    · refine ev_eq (ev_pos hc (ev_const rfl)) ?_
      rw [if_pos (by rw [List.contains_cons, show (v == l[i]) = true by simpa using hc]; rfl), List.idxOf_cons, show (l[i] == v) = true by simpa using hc.symm]; simp
    · have e := ih (i + 1) (by omega)
      refine ev_eq (ev_neg hc e) ?_
      have hb : (l[i] == v) = false := by simp; omega
      rw [List.contains_cons, List.idxOf_cons, hb, show (v == l[i]) = false by simp; omega]
      simp only [Bool.false_or, cond_false]
      by_cases h2 : (l.drop (i + 1)).contains v = true
      · rw [if_pos h2, if_pos h2]; omega
      · rw [if_neg h2, if_neg h2]
theorem idx_ev (l : List Int) (v : Int) (hn : l.length ≤ 1048576) : Ev (fun k => slices_Index_int_int.f k l v) (if l.contains v = true then ((l.idxOf v : Nat) : Int) else -1) := by
  unfold slices_Index_int_int.f
  have h := idx_l l v hn l.length 0 (by omega)
  rw [List.drop_zero, Nat.zero_add] at h
  exact h
theorem place_l (l : List (List Int)) (v : Int) (hn : l.length ≤ 1048576) (hx : ∀ x, x ∈ l → x.length ≤ 1048576) : ∀ d i, i + d = l.length → Ev (fun k => impl_placeOf.l0 k v l (l.length : Int) (i : Int)) (findR v (l.drop i) i) := by
  intro d
  induction d with
  | zero =>
    intro i hi
    refine Ev.step (fun k => by simp only [impl_placeOf.l0]; rfl) ?_
    refine ev_neg (by omega) (ev_const ?_)
    rw [List.drop_of_length_le (by omega)]; rfl
  | succ d ih =>
    intro i hi
    have hlt : i < l.length := by omega
    refine Ev.step (fun k => by simp only [impl_placeOf.l0]; rfl) ?_
    refine ev_pos (by omega) (ev_pos (by omega) (ev_pos (by omega) ?_))
    rw [rd_l1 l i hlt, wsucc hlt (by omega), List.drop_eq_getElem_cons hlt]
    refine Ev.bind (idx_ev _ v (hx _ (List.getElem_mem hlt))) ?_
    unfold findR
    cases h : l[i].contains v
    · rw [if_neg (by simp), if_neg (by simp)]
      exact ev_neg (by omega) (ih (i + 1) (by omega))
    · rw [if_pos rfl, if_pos rfl]
      exact ev_pos (by omega) (ev_const rfl)
theorem place_impl (l : List (List Int)) (v : Int) (hn : l.length ≤ 1048576) (hx : ∀ x, x ∈ l → x.length ≤ 1048576) : Ev (fun k => impl_placeOf.f k l v) (findR v l 0) := by
  unfold impl_placeOf.f
  exact place_l l v hn hx l.length 0 (by omega)
theorem find_l (l : List (List Int)) (v : Int) (hn : l.length ≤ 1048576) (hx : ∀ x, x ∈ l → x.length ≤ 1048576) : ∀ d i, i + d = l.length → Ev (fun k => spec_l5Find.l0 k v (i : Int) l) (findR v (l.drop i) i) := by
  intro d
  induction d with
  | zero =>
    intro i hi
    refine Ev.step (fun k => by simp only [spec_l5Find.l0]; rfl) ?_
    refine ev_neg (by omega) (ev_const ?_)
    rw [List.drop_of_length_le (by omega)]; rfl
  | succ d ih =>
    intro i hi
    have hlt : i < l.length := by omega
    have hxi := hx _ (List.getElem_mem hlt)
    refine Ev.step (fun k => by simp only [spec_l5Find.l0]; rfl) ?_
    refine ev_pos (by omega) ?_
    rw [List.drop_eq_getElem_cons hlt]
    have inner : ∀ e j, j + e = l[i].length → Ev (fun k => spec_l5Find.l1 k v (i : Int) (j : Int) l) (if (l[i].drop j).contains v = true then ((i : Int), ((j + (l[i].drop j).idxOf v : Nat) : Int)) else findR v (l.drop (i + 1)) (i + 1)) := by
      intro e
      induction e with
      | zero =>
        intro j hj
        refine Ev.step (fun k => by simp only [spec_l5Find.l1]; rfl) ?_
        refine ev_pos (by omega) (ev_pos (by omega) ?_)
        rw [rd_l1 l i hlt, wsucc hlt (by omega), List.drop_of_length_le (show l[i].length ≤ j by omega)]
        exact ev_neg (by omega) (ih (i + 1) (by omega))
      | succ e ihe =>
        intro j hj
        have hjt : j < l[i].length := by omega
        refine Ev.step (fun k => by simp only [spec_l5Find.l1]; rfl) ?_
        refine ev_pos (by omega) (ev_pos (by omega) ?_)
        rw [rd_l1 l i hlt, rd_at _ j hjt, wsucc hjt (by omega), List.drop_eq_getElem_cons hjt]
        refine ev_pos (by omega) (ev_pos (by omega) ?_)
        by_cases hc : l[i][j] = v
        · refine ev_eq (ev_pos hc (ev_const rfl)) ?_
          rw [if_pos (by simp [hc]), List.idxOf_cons, hc]; simp
        · refine ev_eq (ev_neg hc (ihe (j + 1) (by omega))) ?_
          have hb : (l[i][j] == v) = false := by simp; omega
          rw [List.contains_cons, List.idxOf_cons, hb, show (v == l[i][j]) = false by simp; omega]
          simp only [Bool.false_or, cond_false]
          by_cases h2 : (l[i].drop (j + 1)).contains v = true
          · rw [if_pos h2, if_pos h2]; simp only [Prod.mk.injEq, true_and]; omega
          · rw [if_neg h2, if_neg h2]
    have h := inner l[i].length 0 (by omega)
    rw [List.drop_zero, Nat.zero_add] at h
    exact h
theorem find_spec (l : List (List Int)) (v : Int) (hn : l.length ≤ 1048576) (hx : ∀ x, x ∈ l → x.length ≤ 1048576) : Ev (fun k => spec_l5Find.f k l v) (findR v l 0) := by
  unfold spec_l5Find.f
  exact find_l l v hn hx l.length 0 (by omega)

/-! Numbers that may come. -/
end Go.Proofs.Ytlnihlmlkdhiaaa.UY
namespace Go.Proofs.Ytlnihlmlkdhiaaa.UY
open Go.RowKit Go.Proofs.YtlnihlmlkdhiaaaW.PrintWords Go.Proofs.YtlnihlmlkdhiaaaW.PrintMore Go.Proofs.Ytlnihlmlkdhiaaa.P Go.Proofs.Ytlnihlmlkdhiaaa.U Go.Proofs.Ytlnihlmlkdhiaaa.UT
set_option linter.unusedVariables false

/-! A copy. -/
theorem own1_spec (l : List Int) (hn : l.length ≤ 1048576) : spec_l1Own.f l = some l := by
  unfold spec_l1Own.f
  show (if ([] : List Int).length + l.length < 17592186044416 then some ([] ++ l) else none) = some l
  rw [if_pos (by simp; omega)]; rfl
theorem own1_impl (l : List Int) (hn : l.length ≤ 1048576) : slices_Clone_int_int.f l = some l := by
  unfold slices_Clone_int_int.f
  rw [if_pos (by omega)]
theorem own_spec_l (l : List (List Int)) (hn : l.length ≤ 1048576) (hx : ∀ x, x ∈ l → x.length ≤ 1048576) : ∀ d i, i + d = l.length → Ev (fun k => spec_l5Own.l0 k (i : Int) l (l.take i)) l := by
  intro d
  induction d with
  | zero =>
    intro i hi
    refine Ev.step (fun k => by simp only [spec_l5Own.l0]; rfl) (ev_neg (by omega) (ev_const ?_))
    rw [List.take_of_length_le (by omega)]
  | succ d ih =>
    intro i hi
    have hlt : i < l.length := by omega
    refine Ev.step (fun k => by simp only [spec_l5Own.l0]; rfl) (ev_pos (by omega) (ev_pos (by omega) ?_))
    rw [rd_l1 l i hlt, wsucc hlt (by omega)]
    refine ev_call (own1_spec _ (hx _ (List.getElem_mem hlt))) (ev_pos (by rw [List.length_take]; omega) ?_)
    have h := ih (i + 1) (by omega)
    rw [List.take_succ_eq_append_getElem hlt] at h
    exact h
theorem own_spec (l : List (List Int)) (hn : l.length ≤ 1048576) (hx : ∀ x, x ∈ l → x.length ≤ 1048576) : Ev (fun k => spec_l5Own.f k l) l := by
  unfold spec_l5Own.f
  exact own_spec_l l hn hx l.length 0 (by omega)
theorem own_impl_l (l : List (List Int)) (hn : l.length ≤ 1048576) (hx : ∀ x, x ∈ l → x.length ≤ 1048576) : ∀ d i, i + d = l.length → Ev (fun k => impl_ownYard.l0 k l (l.length : Int) (i : Int) (l.take i)) l := by
  intro d
  induction d with
  | zero =>
    intro i hi
    refine Ev.step (fun k => by simp only [impl_ownYard.l0]; rfl) (ev_neg (by omega) (ev_const ?_))
    rw [List.take_of_length_le (by omega)]
  | succ d ih =>
    intro i hi
    have hlt : i < l.length := by omega
    refine Ev.step (fun k => by simp only [impl_ownYard.l0]; rfl) (ev_pos (by omega) (ev_pos (by omega) (ev_pos (by omega) ?_)))
    rw [rd_l1 l i hlt, wsucc hlt (by omega)]
    refine ev_call (own1_impl _ (hx _ (List.getElem_mem hlt))) (ev_pos (by rw [List.length_take]; omega) ?_)
    have h := ih (i + 1) (by omega)
    rw [List.take_succ_eq_append_getElem hlt] at h
    exact h
theorem own_impl (l : List (List Int)) (hn : l.length ≤ 1048576) (hx : ∀ x, x ∈ l → x.length ≤ 1048576) : Ev (fun k => impl_ownYard.f k l) l := by
  unfold impl_ownYard.f
  exact own_impl_l l hn hx l.length 0 (by omega)

/-! One number more on a stack. -/
end Go.Proofs.Ytlnihlmlkdhiaaa.UY
namespace Go.Proofs.Ytlnihlmlkdhiaaa.UY
open Go.RowKit Go.Proofs.YtlnihlmlkdhiaaaW.PrintWords Go.Proofs.YtlnihlmlkdhiaaaW.PrintMore Go.Proofs.Ytlnihlmlkdhiaaa.P Go.Proofs.Ytlnihlmlkdhiaaa.U Go.Proofs.Ytlnihlmlkdhiaaa.UT
set_option linter.unusedVariables false

theorem sz_yardb (l : List (List Int)) (hl : l.length ≤ 9223372036854775807) (hx : ∀ x, x ∈ l → x.length ≤ 9223372036854775807) :
    ∃ n, Ev (fun k => laws_szYard.f k l 1048576) n ∧ (0 ≤ n → n ≤ 1048576 ∧ l.length ≤ 1048576 ∧ ∀ x, x ∈ l → x.length ≤ 1048576) := by
  obtain ⟨n, h1, h2, h3⟩ := sz_ev l hl hx
  unfold laws_szYard.f
  by_cases hn : n < 0
  · exact ⟨-1, Ev.bind h1 (ev_pos hn (ev_const rfl)), fun h => by omega⟩
  · exact ⟨n, Ev.bind h1 (ev_neg hn (ev_const rfl)), fun h => ⟨h2, h3 h⟩⟩
/-- A yard in which steps are made: six stacks at most, four numbers in each. -/
def low (l : List (List Int)) : Prop := 1 ≤ l.length ∧ l.length ≤ 6 ∧ ∀ x, x ∈ l → x.length ≤ 4
theorem low_big {l : List (List Int)} (h : low l) : l.length ≤ 1048576 ∧ ∀ x, x ∈ l → x.length ≤ 1048576 := ⟨by have := h.2.1; omega, fun x hx => by have := h.2.2 x hx; omega⟩
theorem low_ok {l : List (List Int)} (h : okYard l = true) : low l := ⟨(okYard_mem h).1.1, (okYard_mem h).1.2, fun x hx => ((okYard_mem h).2 x hx).1⟩
theorem findR_bound (v : Int) : ∀ (l : List (List Int)) (i : Nat), findR v l i = (-1, -1) ∨ ∃ (f j : Nat) (r : List Int), findR v l i = ((f : Int), (j : Int)) ∧ i ≤ f ∧ l[f - i]? = some r ∧ j < r.length ∧ r[j]? = some v
  | [], i => Or.inl rfl
  | r :: l, i => by
    unfold findR
    by_cases h : r.contains v = true
    · rw [if_pos h]
      have hm : v ∈ r := by simpa using h
      have hj := List.idxOf_lt_length_iff.2 hm
      exact Or.inr ⟨i, r.idxOf v, r, rfl, Nat.le_refl _, by simp, hj, by rw [List.getElem?_eq_getElem hj]; simp⟩
    · rw [if_neg h]
      rcases findR_bound v l (i + 1) with h1 | ⟨f, j, r', h1, h2, h3, h4⟩
      · exact Or.inl h1
      · exact Or.inr ⟨f, j, r', h1, by omega, by rw [show f - i = (f - (i + 1)) + 1 by omega]; exact h3, h4⟩
theorem rd1_getD (l : List (List Int)) (i : Int) : rd_L1 l i = l.getD i.toNat [] := rfl
theorem cut_low {l : List (List Int)} (h : low l) (f : Nat) : low (mvCut l f) := by
  unfold mvCut
  refine ⟨by rw [List.length_set]; exact h.1, by rw [List.length_set]; exact h.2.1, fun x hx => ?_⟩
  rcases List.mem_or_eq_of_mem_set hx with hx | hx
  · exact h.2.2 x hx
  · rw [hx, List.length_take]
    by_cases hf : f < l.length
    · have := h.2.2 _ (List.getElem_mem hf); rw [getD_at _ _ _ hf]; omega
    · rw [show l.getD f [] = [] by simp [List.getD, List.getElem?_eq_none (show l.length ≤ f by omega)]]; simp
theorem mv_low {l : List (List Int)} (h : low l) (f t : Nat) (hft : t ≠ f) (ht : (l.getD t []).length ≤ 3) : low (mvTab l f t) := by
  have hc := cut_low h f
  unfold mvTab
  refine ⟨by rw [List.length_set]; exact hc.1, by rw [List.length_set]; exact hc.2.1, fun x hx => ?_⟩
  rcases List.mem_or_eq_of_mem_set hx with hx | hx
  · exact hc.2.2 x hx
  · have e : (mvCut l f).getD t [] = l.getD t [] := by unfold mvCut; simp [List.getD, Ne.symm hft]
    rw [hx, e, List.length_append, List.length_singleton]; omega
/-- A step. -/
def stepY (l : List (List Int)) (b dd : Int) : Option (List (List Int)) := stepF l (findR b l 0).1 (findR b l 0).2 dd
theorem stepY_low {l : List (List Int)} (h : low l) {b dd : Int} {t : List (List Int)} (ht : stepY l b dd = some t) : low t := by
  unfold stepY stepF at ht
  split at ht
  · cases ht
  split at ht
  · injection ht with ht; rw [← ht]; exact cut_low h _
  split at ht
  · cases ht
  rename_i h1 h2 h3
  injection ht with ht
  rw [← ht]
  have h3a : 0 ≤ dd ∧ dd ≤ (l.length : Int) - 1 := Decidable.byContradiction fun hn => h3 (Or.inl hn)
  have h3b : ¬ dd = (findR b l 0).1 := fun hn => h3 (Or.inr (Or.inl hn))
  have h3c : ¬ ((l.getD dd.toNat []).length : Int) = 4 := fun hn => h3 (Or.inr (Or.inr hn))
  refine mv_low h _ _ (fun e => h3b (by omega)) ?_
  have hl : dd.toNat < l.length := by omega
  have := h.2.2 _ (List.getElem_mem hl)
  rw [getD_at _ _ _ hl] at h3c ⊢
  omega
theorem mv_eq (l : List (List Int)) (f t : Nat) : l5Mv l f t = mvTab l f t := rfl
theorem step_spec {l : List (List Int)} (h : low l) (b dd : Int) : Ev (fun k => spec_l6Step.f k l b dd) ((stepY l b dd).getD l, (stepY l b dd).isSome) := by
  obtain ⟨hn, hx⟩ := low_big h
  unfold spec_l6Step.f
  refine Ev.bind (find_spec l b hn hx) ?_
  unfold stepY stepF
  rcases findR_bound b l 0 with e | ⟨f, j, r, e, _, hr, hj, _⟩
  · rw [e]
    refine ev_pos (by decide) (Ev.step (fun k => by simp only [spec_l6Step.j0]; rfl) (ev_pos (c := true = true) rfl (ev_const ?_)))
    rw [if_pos (Or.inl (by decide))]; rfl
  rw [e]
  rw [Nat.sub_zero] at hr
  obtain ⟨hf, hfr⟩ := List.getElem?_eq_some_iff.1 hr
  have hr4 := h.2.2 r (by rw [← hfr]; exact List.getElem_mem hf)
  have hrd : rd_L1 l (f : Int) = r := by rw [show rd_L1 l (f : Int) = l[f] from rd_l1 l f hf]; exact hfr
  have hgd : l.getD f [] = r := by rw [getD_at _ _ _ hf]; exact hfr
  refine ev_neg (by omega) (ev_pos (by omega) (ev_pos (by omega) ?_))
  dsimp only
  rw [hrd, wr (by omega) (by omega), Int.toNat_natCast, hgd]
  refine Ev.step (fun k => by simp only [spec_l6Step.j0]; rfl) ?_
  by_cases hjl : (j : Int) = (r.length : Int) - 1
  case neg => 
    refine ev_pos (bne_iff_ne.mpr hjl) (ev_const ?_)
    rw [if_pos (Or.inr hjl)]; rfl
  rw [if_neg (by omega)]
  refine ev_neg (by rw [hjl]; simp) ?_
  by_cases hd : dd = -1
  · rw [if_pos hd]
    refine ev_pos hd (Ev.bind (own_spec l hn hx) (ev_pos (by omega) (ev_pos (by omega) (ev_pos (by omega) (ev_pos ?_ (ev_const ?_))))))
    · rw [hrd]; omega
    · rw [hrd, Int.toNat_natCast, Int.toNat_natCast]
      unfold mvCut
      rw [hgd, show r.length - 1 = j by omega]; rfl
  rw [if_neg hd]
  refine ev_neg hd ?_
  rw [wr (x := (l.length : Int) - 1) (by omega) (by omega)]
  refine ev_call (in_spec _ _ _) ?_
  by_cases hin : 0 ≤ dd ∧ dd ≤ (l.length : Int) - 1
  case neg =>
    rw [if_pos (Or.inl hin), inr_not.2 hin]
    exact ev_neg (by simp) (ev_const rfl)
  rw [inr_iff.2 hin]
  refine ev_pos rfl ?_
  by_cases hs : dd = (f : Int)
  · rw [if_pos (Or.inr (Or.inl hs))]
    exact ev_pos hs (ev_const rfl)
  refine ev_neg hs (ev_pos hin.1 (ev_pos (by omega) ?_))
  rw [rd1_getD]
  by_cases h4 : ((l.getD dd.toNat []).length : Int) = 4
  · rw [if_pos (Or.inr (Or.inr h4))]
    exact ev_pos h4 (ev_const rfl)
  rw [if_neg (by rintro (h1 | h1 | h1); exact h1 hin; exact hs h1; exact h4 h1)]
  refine ev_neg h4 (Ev.bind (a := mvTab l f dd.toNat) ?_ (ev_const rfl))
  unfold spec_l5Move.f
  refine Ev.bind (own_spec l hn hx) (ev_const ?_)
  unfold spec_l5Move.g
  rw [if_pos ⟨by omega, by omega, hin.1, by omega, by rw [Int.toNat_natCast, hgd]; omega, fun x hx => by have := h.2.2 x hx; omega⟩, Int.toNat_natCast, mv_eq]
end Go.Proofs.Ytlnihlmlkdhiaaa.UY
namespace Go.Proofs.Ytlnihlmlkdhiaaa.UY
open Go.RowKit Go.Proofs.YtlnihlmlkdhiaaaW.PrintWords Go.Proofs.YtlnihlmlkdhiaaaW.PrintMore Go.Proofs.Ytlnihlmlkdhiaaa.P Go.Proofs.Ytlnihlmlkdhiaaa.U Go.Proofs.Ytlnihlmlkdhiaaa.UT
set_option linter.unusedVariables false

def atY (l : List (List Int)) (v : Int) (f j : Nat) : Prop := (l.getD f [])[j]? = some v
/-- Each number stands at one place at most. -/
def once (l : List (List Int)) : Prop := ∀ v f j f' j', atY l v f j → atY l v f' j' → f = f' ∧ j = j'
theorem getD_out {l : List (List Int)} {f : Nat} (h : l.length ≤ f) : l.getD f [] = [] := by simp [List.getD, List.getElem?_eq_none h]
theorem at_len {l : List (List Int)} {v : Int} {f j : Nat} (h : atY l v f j) : f < l.length ∧ j < (l.getD f []).length := by
  unfold atY at h
  obtain ⟨h1, h2⟩ := List.getElem?_eq_some_iff.1 h
  refine ⟨?_, h1⟩
  by_cases hf : f < l.length
  · exact hf
  · rw [getD_out (by omega)] at h1; simp at h1
theorem at_nil {v : Int} {f j : Nat} (h : atY [] v f j) : False := by have := (at_len h).1; simp at this
theorem at_zero {r : List Int} {l : List (List Int)} {v : Int} {j : Nat} : atY (r :: l) v 0 j ↔ r[j]? = some v := by unfold atY; simp
theorem at_succ {r : List Int} {l : List (List Int)} {v : Int} {f j : Nat} : atY (r :: l) v (f + 1) j ↔ atY l v f j := by unfold atY; simp
theorem find_none : ∀ (l : List (List Int)) (i : Nat) (v : Int), findR v l i = (-1, -1) → ∀ f j, ¬ atY l v f j
  | [], i, v, _, f, j => fun h => at_nil h
  | r :: l, i, v, hf, f, j => by
    unfold findR at hf
    by_cases hc : r.contains v = true
    · rw [if_pos hc] at hf
      have := congrArg Prod.fst hf
      exact absurd this (by show ¬ (i : Int) = -1; omega)
    · rw [if_neg hc] at hf
      intro h
      cases f with
      | zero => exact hc (by have := List.mem_of_getElem? (at_zero.1 h); simpa using this)
      | succ f => exact find_none l (i + 1) v hf f j (at_succ.1 h)
theorem find_in (l : List (List Int)) (v : Int) : findR v l 0 = (-1, -1) ∨ ∃ f j : Nat, findR v l 0 = ((f : Int), (j : Int)) ∧ atY l v f j := by
  rcases findR_bound v l 0 with e | ⟨f, j, r, e, _, hr, hj, hv⟩
  · exact Or.inl e
  · refine Or.inr ⟨f, j, e, ?_⟩
    rw [Nat.sub_zero] at hr
    unfold atY
    rw [show l.getD f [] = r by simp [List.getD, hr]]
    exact hv
theorem find_at {l : List (List Int)} {v : Int} {f j : Nat} (hU : once l) (h : atY l v f j) : findR v l 0 = ((f : Int), (j : Int)) := by
  rcases find_in l v with e | ⟨f', j', e, h'⟩
  · exact absurd h (find_none l 0 v e f j)
  · obtain ⟨rfl, rfl⟩ := hU v f j f' j' h h'
    exact e
theorem inYard_at {l : List (List Int)} {v : Int} (h : ¬ (findR v l 0).1 < 0) : ∃ f j, atY l v f j := by
  rcases find_in l v with e | ⟨f, j, e, h'⟩
  · rw [e] at h; exact absurd (by decide) h
  · exact ⟨f, j, h'⟩
theorem cut_getD (l : List (List Int)) (f g : Nat) : (mvCut l f).getD g [] = if g = f then (l.getD f []).take ((l.getD f []).length - 1) else l.getD g [] := by
  unfold mvCut
  by_cases e : g = f
  · subst e
    rw [if_pos rfl]
    by_cases h : g < l.length
    · rw [set_getD _ _ _ h]
    · rw [List.set_eq_of_length_le (by omega), getD_out (by omega)]; rfl
  · rw [if_neg e]
    simp [List.getD, Ne.symm e]
theorem at_cut {l : List (List Int)} {f : Nat} {v : Int} {g j : Nat} : atY (mvCut l f) v g j ↔ atY l v g j ∧ ¬ (g = f ∧ j = (l.getD f []).length - 1) := by
  unfold atY
  rw [cut_getD]
  by_cases e : g = f
  · subst e
    rw [if_pos rfl, List.getElem?_take]
    constructor
    · intro h
      split at h
      · exact ⟨h, by omega⟩
      · cases h
    · intro ⟨h, h2⟩
      have := (List.getElem?_eq_some_iff.1 h).1
      rw [if_pos (by omega)]; exact h
  · rw [if_neg e]
    exact ⟨fun h => ⟨h, fun h2 => e h2.1⟩, fun h => h.1⟩
theorem mv_getD (l : List (List Int)) (f t g : Nat) (ht : t < l.length) : (mvTab l f t).getD g [] = if g = t then (mvCut l f).getD t [] ++ [mvTop l f] else (mvCut l f).getD g [] := by
  unfold mvTab
  have hl : t < (mvCut l f).length := by unfold mvCut; rw [List.length_set]; exact ht
  by_cases e : g = t
  · subst e
    rw [if_pos rfl, set_getD _ _ _ hl]
  · rw [if_neg e]
    simp [List.getD, Ne.symm e]
theorem at_mv {l : List (List Int)} {f t : Nat} (htf : t ≠ f) (ht : t < l.length) {v : Int} {g j : Nat} : atY (mvTab l f t) v g j ↔ (atY l v g j ∧ ¬ (g = f ∧ j = (l.getD f []).length - 1)) ∨ (g = t ∧ j = (l.getD t []).length ∧ v = mvTop l f) := by
  rw [← at_cut]
  unfold atY
  rw [mv_getD _ _ _ _ ht]
  have ec : (mvCut l f).getD t [] = l.getD t [] := by rw [cut_getD, if_neg htf]
  by_cases e : g = t
  · subst e
    rw [if_pos rfl, ec]
    by_cases hj : j < (l.getD g []).length
    · rw [List.getElem?_append_left hj]
      exact ⟨fun h => Or.inl h, fun h => h.elim id (fun h2 => absurd h2.2.1 (by omega))⟩
    · rw [List.getElem?_append_right (by omega)]
      constructor
      · intro h
        obtain ⟨h1, h2⟩ := List.getElem?_eq_some_iff.1 h
        simp only [List.length_singleton] at h1
        refine Or.inr ⟨rfl, by omega, ?_⟩
        rw [← h2]; simp
      · rintro (h | ⟨_, h, rfl⟩)
        · exact absurd (List.getElem?_eq_some_iff.1 h).1 hj
        · rw [h]; simp
  · rw [if_neg e]
    exact ⟨fun h => Or.inl h, fun h => h.elim id (fun h2 => absurd h2.1 e)⟩
theorem at_top {l : List (List Int)} {f : Nat} (h : 0 < (l.getD f []).length) : atY l (mvTop l f) f ((l.getD f []).length - 1) := by
  unfold atY mvTop
  generalize l.getD f [] = r at *
  rw [List.getElem?_eq_getElem (show r.length - 1 < r.length by omega), getD_at r _ _ (show r.length - 1 < r.length by omega)]
theorem once_cut {l : List (List Int)} (h : once l) (f : Nat) : once (mvCut l f) := fun v g j g' j' h1 h2 => h v g j g' j' (at_cut.1 h1).1 (at_cut.1 h2).1
theorem once_mv {l : List (List Int)} (h : once l) {f t : Nat} (htf : t ≠ f) (ht : t < l.length) (h0 : 0 < (l.getD f []).length) : once (mvTab l f t) := by
  intro v g j g' j' h1 h2
  rcases (at_mv htf ht).1 h1 with ⟨a1, a2⟩ | ⟨a1, a2, a3⟩ <;> rcases (at_mv htf ht).1 h2 with ⟨b1, b2⟩ | ⟨b1, b2, b3⟩
  · exact h v g j g' j' a1 b1
  · exact absurd (h v g j f _ a1 (b3 ▸ at_top h0)) a2
  · exact absurd (h v g' j' f _ b1 (a3 ▸ at_top h0)) b2
  · exact ⟨a1.trans b1.symm, a2.trans b2.symm⟩

/-! A valid yard. -/
theorem chkRow_nodup : ∀ (l s t : List Int), chkRow l s = some t → (∀ x, x ∈ t ↔ x ∈ l ∨ x ∈ s) ∧ l.Nodup ∧ ∀ x, x ∈ l → ¬ x ∈ s
  | [], s, t, h => by
    injection h with h; subst h
    exact ⟨by simp, List.nodup_nil, fun x hx => by cases hx⟩
  | y :: l, s, t, h => by
    unfold chkRow at h
    split at h
    · rename_i hc
      rw [Bool.and_eq_true] at hc
      have hy : ¬ y ∈ s := by have := hc.2; simpa using this
      obtain ⟨h1, h2, h3⟩ := chkRow_nodup l _ _ h
      refine ⟨fun x => ?_, List.nodup_cons.2 ⟨fun hm => h3 y hm List.mem_cons_self, h2⟩, fun x hx => ?_⟩
      · rw [h1]; simp only [List.mem_cons]; grind
      · rcases List.mem_cons.1 hx with rfl | hx
        · exact hy
        · exact fun hs => h3 x hx (List.mem_cons_of_mem _ hs)
    · cases h
theorem chkRows_once (cap : Int) : ∀ (l : List (List Int)) (s t : List Int), chkRows cap l s = some t → once l ∧ ∀ v f j, atY l v f j → ¬ v ∈ s
  | [], s, t, h => ⟨fun v f j _ _ h => (at_nil h).elim, fun v f j h => (at_nil h).elim⟩
  | r :: l, s, t, h => by
    unfold chkRows at h
    split at h
    · cases hr : chkRow r s with
      | none => rw [hr] at h; cases h
      | some u =>
        rw [hr] at h
        obtain ⟨h1, h2, h3⟩ := chkRow_nodup _ _ _ hr
        obtain ⟨h4, h5⟩ := chkRows_once cap l u t h
        refine ⟨fun v f j f' j' a b => ?_, fun v f j a => ?_⟩
        · cases f with
          | zero =>
            have ha := at_zero.1 a
            have hv := List.mem_of_getElem? ha
            cases f' with
            | zero =>
              have hb := at_zero.1 b
              obtain ⟨i1, e1⟩ := List.getElem?_eq_some_iff.1 ha
              obtain ⟨i2, e2⟩ := List.getElem?_eq_some_iff.1 hb
              exact ⟨rfl, (List.getElem_inj h2).1 (e1.trans e2.symm)⟩
            | succ f' => exact absurd ((h1 v).2 (Or.inl hv)) (h5 v f' j' (at_succ.1 b))
          | succ f =>
            cases f' with
            | zero => exact absurd ((h1 v).2 (Or.inl (List.mem_of_getElem? (at_zero.1 b)))) (h5 v f j (at_succ.1 a))
            | succ f' =>
              obtain ⟨e1, e2⟩ := h4 v f j f' j' (at_succ.1 a) (at_succ.1 b)
              exact ⟨by rw [e1], e2⟩
        · cases f with
          | zero => exact h3 v (List.mem_of_getElem? (at_zero.1 a))
          | succ f => exact fun hs => h5 v f j (at_succ.1 a) ((h1 v).2 (Or.inr hs))
    · cases h
theorem once_ok {l : List (List Int)} (h : okYard l = true) : once l := by
  unfold okYard at h
  rw [Bool.and_eq_true] at h
  obtain ⟨t, ht⟩ := Option.isSome_iff_exists.mp h.2
  exact (chkRows_once 4 l [] t ht).1
end Go.Proofs.Ytlnihlmlkdhiaaa.UY
namespace Go.Proofs.Ytlnihlmlkdhiaaa.UY
open Go.RowKit Go.Proofs.YtlnihlmlkdhiaaaW.PrintWords Go.Proofs.YtlnihlmlkdhiaaaW.PrintMore Go.Proofs.Ytlnihlmlkdhiaaa.P Go.Proofs.Ytlnihlmlkdhiaaa.U Go.Proofs.Ytlnihlmlkdhiaaa.UT
set_option linter.unusedVariables false

theorem contains_impl (l : List Int) (v : Int) (hn : l.length ≤ 1048576) : Ev (fun k => slices_Contains_int_int.f k l v) (l.contains v) := by
  unfold slices_Contains_int_int.f
  refine Ev.bind (idx_ev l v hn) (ev_const ?_)
  cases h : l.contains v
  · rfl
  · rw [if_pos rfl]; simp
def ords (l : List (List Int)) : List Int → List Int → Bool
  | _, [] => true
  | pre, x :: xs => inYard l x && (!(pre.contains x) && ords l (pre ++ [x]) xs)
def okOrd (l : List (List Int)) (a : List Int) : Bool := okYard l && (ords l [] a && decide ((a.length : Int) ≤ 8))
theorem ord_spec (l : List (List Int)) (hn : l.length ≤ 1048576) (hx : ∀ x, x ∈ l → x.length ≤ 1048576) (a : List Int) (ha : a.length ≤ 1048576) : ∀ d i, i + d = a.length →
    Ev (fun k => spec_l6Order.l0 k a (i : Int) l) (ords l (a.take i) (a.drop i) && decide ((a.length : Int) ≤ 8)) := by
  intro d
  induction d with
  | zero =>
    intro i hi
    refine Ev.step (fun k => by simp only [spec_l6Order.l0]; rfl) ?_
    refine ev_neg (by omega) (ev_const ?_)
    rw [List.drop_of_length_le (by omega)]; rfl
  | succ d ih =>
    intro i hi
    have hlt : i < a.length := by omega
    refine Ev.step (fun k => by simp only [spec_l6Order.l0]; rfl) ?_
    refine ev_pos (by omega) (ev_pos (by omega) ?_)
    rw [rd_at a i hlt, wsucc hlt (by omega), List.drop_eq_getElem_cons hlt]
    unfold ords
    refine Ev.bind (find_spec l _ hn hx) ?_
    have hf := findR_in a[i] l 0
    cases h1 : inYard l a[i]
    · rw [h1] at hf
      exact ev_pos (by have := of_decide_eq_false hf; omega) (ev_const rfl)
    · rw [h1] at hf
      refine ev_neg (by have := of_decide_eq_true hf; omega) (ev_pos (by omega) ?_)
      have hh := has_ev (a.take i) a[i] (by rw [List.length_take]; omega)
      rw [Int.toNat_natCast]
      refine Ev.bind hh ?_
      have hi2 := ih (i + 1) (by omega)
      rw [List.take_succ_eq_append_getElem hlt] at hi2
      cases h3 : (a.take i).contains a[i]
      · exact ev_neg (by simp) hi2
      · exact ev_pos rfl (ev_const rfl)
theorem ordA_spec (l : List (List Int)) (hn : l.length ≤ 1048576) (hx : ∀ x, x ∈ l → x.length ≤ 1048576) (a : List Int) (ha : a.length ≤ 1048576) :
    Ev (fun k => spec_l6Asked.f k l a) (okOrd l a) := by
  unfold spec_l6Asked.f okOrd
  refine Ev.bind (good_spec l hn hx) ?_
  cases okYard l
  · exact ev_neg (by simp) (ev_const rfl)
  · refine ev_pos rfl (Ev.bind (a := ords l [] a && decide ((a.length : Int) ≤ 8)) ?_ (ev_const rfl))
    unfold spec_l6Order.f
    exact ord_spec l hn hx a ha a.length 0 (by omega)
theorem ord_impl (l : List (List Int)) (hn : l.length ≤ 1048576) (hx : ∀ x, x ∈ l → x.length ≤ 1048576) (a : List Int) (ha : a.length ≤ 1048576) : ∀ d i, i + d = a.length →
    Ev (fun k => impl_isOrder.l0 k a a (a.length : Int) (i : Int) l) (ords l (a.take i) (a.drop i)) := by
  intro d
  induction d with
  | zero =>
    intro i hi
    refine Ev.step (fun k => by simp only [impl_isOrder.l0]; rfl) ?_
    refine ev_neg (by omega) (ev_const ?_)
    rw [List.drop_of_length_le (by omega)]; rfl
  | succ d ih =>
    intro i hi
    have hlt : i < a.length := by omega
    refine Ev.step (fun k => by simp only [impl_isOrder.l0]; rfl) ?_
    refine ev_pos (by omega) (ev_pos (by omega) (ev_pos (by omega) ?_))
    rw [rd_at a i hlt, wsucc hlt (by omega), List.drop_eq_getElem_cons hlt]
    unfold ords
    refine Ev.bind (place_impl l _ hn hx) ?_
    have hf := findR_in a[i] l 0
    cases h1 : inYard l a[i]
    · rw [h1] at hf
      exact ev_pos (by have := of_decide_eq_false hf; omega) (ev_const rfl)
    · rw [h1] at hf
      refine ev_neg (by have := of_decide_eq_true hf; omega) (ev_pos (by omega) ?_)
      have hh := contains_impl (a.take i) a[i] (by rw [List.length_take]; omega)
      rw [Int.toNat_natCast]
      refine Ev.bind hh ?_
      have hi2 := ih (i + 1) (by omega)
      rw [List.take_succ_eq_append_getElem hlt] at hi2
      cases h3 : (a.take i).contains a[i]
      · exact ev_neg (by simp) hi2
      · exact ev_pos rfl (ev_const rfl)
theorem ordA_impl (l : List (List Int)) (hn : l.length ≤ 1048576) (hx : ∀ x, x ∈ l → x.length ≤ 1048576) (a : List Int) (ha : a.length ≤ 1048576) :
    Ev (fun k => impl_isOrder.f k l a) (okOrd l a) := by
  unfold impl_isOrder.f okOrd
  refine ev_call (show impl_IsValidYard.f l = some (okYard l) from rfl) ?_
  cases okYard l
  · refine ev_neg (by simp) (Ev.step (fun k => by simp only [impl_isOrder.j0]; rfl) ?_)
    exact ev_pos (by simp) (ev_const rfl)
  · refine ev_pos rfl (Ev.step (fun k => by simp only [impl_isOrder.j0]; rfl) ?_)
    by_cases h : (a.length : Int) > 8
    · refine ev_eq (ev_pos (by simpa using h) (ev_const rfl)) ?_
      rw [decide_eq_false (by omega)]; simp
    · refine ev_eq (ev_neg (by simpa using h) (ord_impl l hn hx a ha a.length 0 (by omega))) ?_
      rw [decide_eq_true (by omega)]; simp
theorem ords_in (l : List (List Int)) : ∀ (a pre : List Int), ords l pre a = true → (∀ x, x ∈ a → inYard l x = true ∧ ¬ x ∈ pre) ∧ a.Nodup
  | [], _, _ => ⟨fun x hx => by (cases hx), List.nodup_nil⟩
  | x :: xs, pre, h => by
    unfold ords at h
    simp only [Bool.and_eq_true] at h
    obtain ⟨h1, h2⟩ := ords_in l xs _ h.2.2
    have hp : ¬ x ∈ pre := by have := h.2.1; simpa using this
    refine ⟨fun y hy => ?_, List.nodup_cons.2 ⟨fun hm => (h1 x hm).2 (by simp), h2⟩⟩
    rcases List.mem_cons.1 hy with rfl | hy
    · exact ⟨h.1, hp⟩
    · exact ⟨(h1 y hy).1, fun hm => (h1 y hy).2 (List.mem_append_left _ hm)⟩
end Go.Proofs.Ytlnihlmlkdhiaaa.UY
namespace Go.Proofs.Ytlnihlmlkdhiaaa.UQ
open Go.RowKit Go.Proofs.YtlnihlmlkdhiaaaW.PrintWords Go.Proofs.YtlnihlmlkdhiaaaW.PrintMore Go.Proofs.Ytlnihlmlkdhiaaa.P Go.Proofs.Ytlnihlmlkdhiaaa.U Go.Proofs.Ytlnihlmlkdhiaaa.UT
set_option linter.unusedVariables false

abbrev Q := S51
theorem rd_q (l : List Q) (i : Nat) (h : i < l.length) : rd_T51 l (i : Int) = l[i] := by
  unfold rd_T51
  rw [Int.toNat_natCast]
  exact getD_at l i _ h
theorem eqq_l (l : List Q) (hn : l.length ≤ 9223372036854775807) : ∀ d i, i + d = l.length → Ev (fun k => laws_eqStepS.l0 k l l (i : Int)) true := by
  intro d
  induction d with
  | zero => intro i hi; exact Ev.step (fun k => by simp only [laws_eqStepS.l0]; rfl) (ev_neg (by omega) (ev_const rfl))
  | succ d ih =>
    intro i hi
    refine Ev.step (fun k => by simp only [laws_eqStepS.l0]; rfl) (ev_pos (by omega) (ev_pos (by omega) (ev_pos (by omega) (ev_call (a := true) (by simp [laws_eqStep.f]) (ev_pos rfl ?_)))))
    rw [wsucc (show i < l.length by omega) (by omega)]
    exact ih (i + 1) (by omega)
theorem eqq_ev (l : List Q) (hn : l.length ≤ 9223372036854775807) : Ev (fun k => laws_eqStepS.f k l l) true := by
  unfold laws_eqStepS.f
  exact ev_pos rfl (eqq_l l hn l.length 0 (by omega))
def mkQ (m : Nat) (n : Int) : List Q := (List.range m).map fun j : Nat => ⟨n + 2 * (j : Int), n + 2 * (j : Int) + 1⟩
theorem mkQ_length (m : Nat) (n : Int) : (mkQ m n).length = m := by simp [mkQ]
theorem mkQ_get (m : Nat) (n : Int) (i : Nat) (h : i < (mkQ m n).length) : (mkQ m n)[i] = ⟨n + 2 * i, n + 2 * i + 1⟩ := by simp [mkQ]
theorem rdq_set (l : List Q) (i : Nat) (h : i < l.length) (v : Q) : rd_T51 (l.set i v) (i : Int) = v := by
  rw [rd_q _ i (by simpa using h)]
  simp
theorem markQ_l (n : Int) (hn : 0 ≤ n ∧ n ≤ 4398046511104) (m : Nat) (hm : m ≤ 1048576) : ∀ d i (acc : List Q), i + d = m → acc.length = m → acc.take i = (mkQ m n).take i → Ev (fun k => laws_markStepS.l0 k acc (n + 2 * i) (i : Int)) (n + 2 * m, mkQ m n) := by
  intro d
  induction d with
  | zero =>
    intro i acc hi ha ht
    refine Ev.step (fun k => by simp only [laws_markStepS.l0]; rfl) (ev_neg (by omega) (ev_const ?_))
    rw [List.take_of_length_le (by omega), List.take_of_length_le (by rw [mkQ_length]; omega)] at ht
    rw [ht, show i = m by omega]
  | succ d ih =>
    intro i acc hi ha ht
    have hlt : i < acc.length := by omega
    refine Ev.step (fun k => by simp only [laws_markStepS.l0]; rfl) ?_
    refine ev_pos (by omega) (ev_pos (by omega) ?_)
    refine ev_call rfl ?_
    rw [wsucc (n := m) (by omega) (by omega), Int.toNat_natCast, wr (x := n + 2 * (i : Int) + 1) (by omega) (by omega), wr (x := n + 2 * (i : Int) + 1 + 1) (by omega) (by omega)]
    rw [rdq_set _ i hlt, List.set_set]
    rw [show n + 2 * (i : Int) + 1 + 1 = n + 2 * ((i + 1 : Nat) : Int) by omega]
    refine ih (i + 1) _ (by omega) (by rw [List.length_set]; exact ha) ?_
    rw [fill_step ht hlt, List.take_succ_eq_append_getElem (show i < (mkQ m n).length by rw [mkQ_length]; omega), mkQ_get]
theorem markQ (l : List Q) (n : Int) (hn : 0 ≤ n ∧ n ≤ 4398046511104) (hm : l.length ≤ 1048576) : Ev (fun k => laws_markStepS.f k l n) (n + 2 * (l.length : Int), mkQ l.length n) := by
  unfold laws_markStepS.f
  have h := markQ_l n hn l.length hm l.length 0 l (by omega) rfl (by simp)
  rw [show n + 2 * ((0 : Nat) : Int) = n by omega] at h
  exact h
end Go.Proofs.Ytlnihlmlkdhiaaa.UQ
namespace Go.Proofs.Ytlnihlmlkdhiaaa.UQ
open Go.RowKit Go.Proofs.YtlnihlmlkdhiaaaW.PrintWords Go.Proofs.YtlnihlmlkdhiaaaW.PrintMore Go.Proofs.Ytlnihlmlkdhiaaa.P Go.Proofs.Ytlnihlmlkdhiaaa.U Go.Proofs.Ytlnihlmlkdhiaaa.UT
set_option linter.unusedVariables false

theorem heldQ_l (n : Int) (hn : 0 ≤ n ∧ n ≤ 4398046511104) (m : Nat) (hm : m ≤ 1048576) : ∀ d i, i + d = m → Ev (fun k => laws_heldStepS.l0 k (mkQ m n) (n + 2 * i) (i : Int)) (n + 2 * m) := by
  intro d
  induction d with
  | zero =>
    intro i hi
    refine Ev.step (fun k => by simp only [laws_heldStepS.l0]; rfl) (ev_neg (by rw [mkQ_length]; omega) (ev_const ?_))
    rw [show i = m by omega]
  | succ d ih =>
    intro i hi
    have hlt : i < (mkQ m n).length := by rw [mkQ_length]; omega
    refine Ev.step (fun k => by simp only [laws_heldStepS.l0]; rfl) (ev_pos (by omega) (ev_pos (by omega) ?_))
    rw [wsucc (n := m) (by omega) (by omega), wr (x := n + 2 * (i : Int) + 1) (by omega) (by omega), wr (x := n + 2 * (i : Int) + 1 + 1) (by omega) (by omega), rd_q _ i hlt, mkQ_get]
    refine ev_pos rfl (ev_pos rfl ?_)
    rw [show n + 2 * (i : Int) + 1 + 1 = n + 2 * ((i + 1 : Nat) : Int) by omega]
    exact ih (i + 1) (by omega)
theorem heldQ (m : Nat) (n : Int) (hn : 0 ≤ n ∧ n ≤ 4398046511104) (hm : m ≤ 1048576) : Ev (fun k => laws_heldStepS.f k (mkQ m n) n) (n + 2 * (m : Int)) := by
  unfold laws_heldStepS.f
  have h := heldQ_l n hn m hm m 0 (by omega)
  rw [show n + 2 * ((0 : Nat) : Int) = n by omega] at h
  exact h
end Go.Proofs.Ytlnihlmlkdhiaaa.UQ
namespace Go.Proofs.Ytlnihlmlkdhiaaa.UY
open Go.RowKit Go.Proofs.YtlnihlmlkdhiaaaW.PrintWords Go.Proofs.YtlnihlmlkdhiaaaW.PrintMore Go.Proofs.Ytlnihlmlkdhiaaa.P Go.Proofs.Ytlnihlmlkdhiaaa.U Go.Proofs.Ytlnihlmlkdhiaaa.UT Go.Proofs.Ytlnihlmlkdhiaaa.UQ
set_option linter.unusedVariables false

/-- A stack that may be the lowest one. -/
def goodTo (l : List (List Int)) (f : Nat) (m : Int) : Prop := m = -1 ∨ ∃ t : Nat, m = (t : Int) ∧ t ≠ f ∧ t < l.length ∧ (l.getD t []).length < 4
theorem smLow_good (l : List (List Int)) (f : Nat) : ∀ d i (m : Int), i + d = l.length → goodTo l f m → goodTo l f (smLow l f d i m)
  | 0, _, _, _, h => h
  | d + 1, i, m, hi, h => by
    rw [smLow]
    refine smLow_good l f d (i + 1) _ (by omega) ?_
    split
    · rename_i hc
      exact Or.inr ⟨i, rfl, hc.1, by omega, hc.2.1⟩
    · exact h
theorem low_l (l : List (List Int)) (hl : low l) (a : List Int) (out : List Q) (q : Int) (f : Nat) (b : Int) (r : List Q × Bool) : ∀ d i (m : Int), i + d = l.length → goodTo l f m →
    Ev (fun k => spec_l6Simple.l1 k a out q (f : Int) (l.length : Int) l b (smLow l f d i m)) r → Ev (fun k => spec_l6Simple.l1 k a out q (f : Int) (i : Int) l b m) r := by
  intro d
  induction d with
  | zero =>
    intro i m hi hm h
    rw [show i = l.length by omega]
    exact h
  | succ d ih =>
    intro i m hi hm h
    have hlt : i < l.length := by omega
    have hl6 := hl.2.1
    have hri : rd_L1 l (i : Int) = l.getD i [] := by rw [rd1_getD, Int.toNat_natCast]
    rw [smLow] at h
    refine Ev.step (fun k => by simp only [spec_l6Simple.l1]; rfl) (ev_pos (by omega) ?_)
    rw [wsucc hlt (by omega), hri]
    by_cases c1 : i = f
    · rw [if_neg (fun h => h.1 c1)] at h
      exact ev_pos (by omega) (ih (i + 1) m (by omega) hm h)
    refine ev_neg (by omega) (ev_pos (by omega) ?_)
    by_cases c2 : (l.getD i []).length < 4
    case neg =>
      rw [if_neg (fun h => c2 h.2.1)] at h
      exact ev_neg (by omega) (ih (i + 1) m (by omega) hm h)
    refine ev_pos (by omega) ?_
    rcases hm with rfl | ⟨t, rfl, h1, h2, h3⟩
    · rw [if_pos ⟨c1, c2, Or.inl (by decide)⟩] at h
      exact ev_pos (by decide) (ih (i + 1) _ (by omega) (Or.inr ⟨i, rfl, c1, hlt, c2⟩) h)
    · rw [Int.toNat_natCast] at h
      refine ev_neg (by omega) (ev_pos (by omega) (ev_pos (by omega) ?_))
      rw [rd1_getD, Int.toNat_natCast]
      by_cases c3 : (l.getD i []).length < (l.getD t []).length
      · rw [if_pos ⟨c1, c2, Or.inr c3⟩] at h
        exact ev_pos (by omega) (ih (i + 1) _ (by omega) (Or.inr ⟨i, rfl, c1, hlt, c2⟩) h)
      · rw [if_neg (by rintro ⟨_, _, h4⟩; rcases h4 with h4 | h4; omega; exact c3 h4)] at h
        exact ev_neg (by omega) (ih (i + 1) _ (by omega) (Or.inr ⟨t, rfl, h1, h2, h3⟩) h)
theorem rd_last (l : List (List Int)) (f : Nat) (h : 0 < (l.getD f []).length) : rd (l.getD f []) (((l.getD f []).length : Int) - 1) = mvTop l f := by
  unfold rd mvTop
  rw [show (((l.getD f []).length : Int) - 1).toNat = (l.getD f []).length - 1 by omega]
theorem head_l {l : List (List Int)} (hl : low l) {f j : Nat} {v : Int} (h : atY l v f j) : (l.getD f []).length ≤ 4 := by
  have hf := (at_len h).1
  rw [getD_at _ _ _ hf]
  exact hl.2.2 _ (List.getElem_mem hf)
/-- Until n is on top. -/
theorem in_same (a : List Int) (n : Int) (i : Nat) (hi : i < a.length) (ha : a.length ≤ 8) (hn : rd a (i : Int) = n) (rest : List Int) : ∀ d e (l : List (List Int)) (out : List Q) (f j : Nat), d ≤ e → low l → once l → atY l n f j → (l.getD f []).length = j + 1 + d → out.length + d ≤ 900 → (∀ m, m ∈ rest → ∃ g q, atY l m g q) →
    ∃ l2 out2 b, smIn n f e l out = some (l2, out2, b) ∧ (b = true → low l2 ∧ once l2 ∧ atY l2 n f j ∧ (l2.getD f []).length = j + 1 ∧ out2.length ≤ out.length + d ∧ ∀ m, m ∈ rest → ∃ g q, atY l2 m g q) ∧
      (b = false → Ev (fun k => spec_l6Simple.l0 k a out (i : Int) l) ([], false)) ∧ (b = true → ∀ r, Ev (fun k => spec_l6Simple.l0 k a out2 (i : Int) l2) r → Ev (fun k => spec_l6Simple.l0 k a out (i : Int) l) r) := by
  intro d
  induction d with
  | zero =>
    intro e l out f j _ hl hU hat hlen _ hrest
    have ht : mvTop l f = n := by
      have h1 := at_top (l := l) (f := f) (by omega)
      rw [show (l.getD f []).length - 1 = j by omega] at h1
      unfold atY at h1 hat
      exact Option.some.inj (h1.symm.trans hat)
    exact ⟨l, out, true, smIn_eq ht, fun _ => ⟨hl, hU, hat, hlen, by omega, hrest⟩, (fun h => by cases h), fun _ r h => h⟩
  | succ d ih =>
    intro e l out f j he hl hU hat hlen hout hrest
    obtain ⟨e, rfl⟩ : ∃ e', e = e' + 1 := ⟨e - 1, by omega⟩
    have h4 := head_l hl hat
    have hfl := (at_len hat).1
    have hl6 := hl.2.1
    have htop := at_top (l := l) (f := f) (by omega)
    have hne : ¬ mvTop l f = n := fun ht => by
      have := (hU n f _ f j (ht ▸ htop) hat).2
      omega
    have hgood := smLow_good l f l.length 0 (-1) (by omega) (Or.inl rfl)
    rw [smIn, if_neg hne]
    -- the reference's round
    have hround : ∀ r, Ev (fun k => spec_l6Simple.l1 k a out (i : Int) (f : Int) (l.length : Int) l (mvTop l f) (smLow l f l.length 0 (-1))) r → Ev (fun k => spec_l6Simple.l0 k a out (i : Int) l) r := by
      intro r h
      refine Ev.step (fun k => by simp only [spec_l6Simple.l0]; rfl) (ev_pos (by omega) (ev_pos (by omega) ?_))
      rw [hn]
      refine Ev.bind (find_spec l n (low_big hl).1 (low_big hl).2) ?_
      rw [find_at hU hat]
      refine ev_pos (by omega) (ev_pos (by omega) ?_)
      dsimp only
      rw [rd1_getD, Int.toNat_natCast, wr (x := ((l.getD f []).length : Int) - 1) (by omega) (by omega), rd_last l f (by omega)]
      refine ev_pos (by omega) (ev_pos (by omega) (ev_pos (by omega) ?_))
      exact low_l l hl a out (i : Int) f (mvTop l f) r l.length 0 (-1) (by omega) (Or.inl rfl) h
    rcases hgood with ht | ⟨t, ht, htf, htl, ht4⟩
    · rw [ht, if_pos (by decide)]
      refine ⟨l, out, false, rfl, (fun h => by cases h), fun _ => hround _ ?_, (fun h => by cases h)⟩
      rw [ht]
      exact Ev.step (fun k => by simp only [spec_l6Simple.l1]; rfl) (ev_neg (by omega) (ev_pos (by decide) (ev_const rfl)))
    · have hl2 := mv_low hl f t htf (by omega)
      have hU2 := once_mv hU htf htl (by omega)
      have hat2 : atY (mvTab l f t) n f j := (at_mv htf htl).2 (Or.inl ⟨hat, fun h => by omega⟩)
      have hlen2 : ((mvTab l f t).getD f []).length = j + 1 + d := by
        rw [mv_getD _ _ _ _ htl, if_neg (Ne.symm htf), cut_getD, if_pos rfl, List.length_take]; omega
      have hr2 : ∀ m, m ∈ rest → ∃ g q, atY (mvTab l f t) m g q := fun m hm => by
        obtain ⟨g, q, hg⟩ := hrest m hm
        by_cases hgq : g = f ∧ q = (l.getD f []).length - 1
        · refine ⟨t, _, (at_mv htf htl).2 (Or.inr ⟨rfl, rfl, ?_⟩)⟩
          rw [hgq.1, hgq.2] at hg
          unfold atY at hg htop
          exact Option.some.inj (hg.symm.trans htop)
        · exact ⟨g, q, (at_mv htf htl).2 (Or.inl ⟨hg, hgq⟩)⟩
      obtain ⟨l3, out3, b, h1, h2, h3, h5⟩ := ih e (mvTab l f t) (out ++ [⟨mvTop l f, (t : Int)⟩]) f j (by omega) hl2 hU2 hat2 hlen2 (by rw [List.length_append, List.length_singleton]; omega) hr2
      have hstep : Ev (fun k => spec_l6Step.f k l (mvTop l f) (t : Int)) (mvTab l f t, true) := by
        have h := step_spec hl (mvTop l f) (t : Int)
        have e1 : stepY l (mvTop l f) (t : Int) = some (mvTab l f t) := by
          unfold stepY stepF
          rw [find_at hU htop]
          dsimp only
          rw [Int.toNat_natCast, Int.toNat_natCast, if_neg (by rintro (h | h); omega; exact h (by omega)), if_neg (by omega), if_neg (by rintro (h | h | h) <;> omega)]
        rw [e1] at h
        exact h
      have hback : ∀ r, Ev (fun k => spec_l6Simple.l0 k a (out ++ [⟨mvTop l f, (t : Int)⟩]) (i : Int) (mvTab l f t)) r → Ev (fun k => spec_l6Simple.l0 k a out (i : Int) l) r := by
        intro r h
        refine hround r ?_
        rw [ht]
        refine Ev.step (fun k => by simp only [spec_l6Simple.l1]; rfl) (ev_neg (by omega) (ev_neg (by omega) ?_))
        refine Ev.bind hstep ?_
        exact ev_pos (by omega) h
      rw [ht, if_neg (by omega), if_pos ⟨by omega, fun x hx => by have := hl.2.2 x hx; omega, by omega⟩, Int.toNat_natCast]
      refine ⟨l3, out3, b, h1, fun hb => ?_, fun hb => hback _ (h3 hb), fun hb r h => hback r (h5 hb r h)⟩
      obtain ⟨k1, k2, k3, k4, k5, k6⟩ := h2 hb
      exact ⟨k1, k2, k3, k4, by rw [List.length_append, List.length_singleton] at k5; omega, k6⟩
theorem rest_drop {a : List Int} {i : Nat} (hi : i < a.length) (hd : a.Nodup) : ¬ a[i] ∈ a.drop (i + 1) := by
  rw [List.nodup_iff_pairwise_ne] at hd
  intro h
  have h2 : (a.drop i).Pairwise (· ≠ ·) := hd.sublist (List.drop_sublist i a)
  rw [List.drop_eq_getElem_cons hi, List.pairwise_cons] at h2
  exact h2.1 _ h rfl
theorem go_same (a : List Int) (ha : a.length ≤ 8) (hd : a.Nodup) : ∀ d i (l : List (List Int)) (out : List Q), i + d = a.length → low l → once l → (∀ m, m ∈ a.drop i → ∃ g q, atY l m g q) → out.length ≤ 5 * i →
    ∃ r : List Q × Bool, Ev (fun k => smGo k (a.drop i) l out) r ∧ Ev (fun k => spec_l6Simple.l0 k a out (i : Int) l) r ∧ r.1.length ≤ 40 := by
  intro d
  induction d with
  | zero =>
    intro i l out hi hl hU hin hout
    refine ⟨(out, true), ?_, Ev.step (fun k => by simp only [spec_l6Simple.l0]; rfl) (ev_neg (by omega) (ev_const rfl)), by show out.length ≤ 40; omega⟩
    rw [List.drop_of_length_le (by omega)]
    exact ⟨0, fun k _ => by simp only [smGo]⟩
  | succ d ih =>
    intro i l out hi hl hU hin hout
    have hlt : i < a.length := by omega
    rw [List.drop_eq_getElem_cons hlt] at hin ⊢
    generalize hnv : a[i] = n at *
    have hrd : rd a (i : Int) = n := (rd_at a i hlt).trans hnv
    obtain ⟨f, j, hat⟩ := hin n List.mem_cons_self
    have hfl := at_len hat
    have h4 := head_l hl hat
    have hnr : ¬ n ∈ a.drop (i + 1) := hnv ▸ rest_drop hlt hd
    obtain ⟨l2, out2, b, e1, e2, e3, e4⟩ := in_same a n i hlt ha hrd (a.drop (i + 1)) ((l.getD f []).length - (j + 1)) (l.getD f []).length l out f j (by omega) hl hU hat (by omega) (by omega) (fun m hm => hin m (List.mem_cons_of_mem _ hm))
    have hp : Ev (fun k => impl_placeOf.f k l n) ((f : Int), (j : Int)) := by have h := place_impl l n (low_big hl).1 (low_big hl).2; rw [find_at hU hat] at h; exact h
    have hrows : ∀ {l : List (List Int)}, low l → smRows l := fun h x hx => by have := h.2.2 x hx; omega
    cases b with
    | false =>
      refine ⟨([], false), ?_, e3 rfl, by simp⟩
      refine Ev.congr (fun k => by rw [smGo]) ?_
      refine Ev.bind hp ?_
      refine ev_pos ⟨by omega, by have := hfl.1; omega, hrows hl⟩ ?_
      refine Ev.bind (a := (l2, out2, false)) (ev_const ?_) (ev_pos rfl (ev_const rfl))
      rw [Int.toNat_natCast]; exact e1
    | true =>
      obtain ⟨k1, k2, k3, k4, k5, k6⟩ := e2 rfl
      have hfl2 := (at_len k3).1
      have ht : mvTop l2 f = n := by
        have h1 := at_top (l := l2) (f := f) (by omega)
        rw [show (l2.getD f []).length - 1 = j by omega] at h1
        unfold atY at h1 k3
        exact Option.some.inj (h1.symm.trans k3)
      have es : stepF l2 (f : Int) (j : Int) (-1) = some (mvCut l2 f) := by
        unfold stepF
        rw [Int.toNat_natCast, if_neg (by rintro (h | h); omega; exact h (by omega)), if_pos rfl]
      have hlc := cut_low k1 f
      have hUc := once_cut k2 f
      have hr2 : ∀ m, m ∈ a.drop (i + 1) → ∃ g q, atY (mvCut l2 f) m g q := fun m hm => by
        obtain ⟨g, q, hg⟩ := k6 m hm
        refine ⟨g, q, at_cut.2 ⟨hg, fun hgq => hnr ?_⟩⟩
        have h1 := at_top (l := l2) (f := f) (by omega)
        rw [hgq.1, hgq.2] at hg
        unfold atY at hg h1
        have : m = n := (Option.some.inj (hg.symm.trans h1)).trans ht
        exact this ▸ hm
      obtain ⟨r, s1, s2, s3⟩ := ih (i + 1) (mvCut l2 f) (out2 ++ [⟨n, -1⟩]) (by omega) hlc hUc hr2 (by rw [List.length_append, List.length_singleton]; omega)
      refine ⟨r, ?_, e4 rfl r ?_, s3⟩
      · have hp2 : Ev (fun k => impl_placeOf.f k l2 n) ((f : Int), (j : Int)) := by have h := place_impl l2 n (low_big k1).1 (low_big k1).2; rw [find_at k2 k3] at h; exact h
        refine Ev.congr (fun k => by rw [smGo]) ?_
        refine Ev.bind hp ?_
        refine ev_pos ⟨by omega, by have := hfl.1; omega, hrows hl⟩ ?_
        refine Ev.bind (a := (l2, out2, true)) (ev_const ?_) ?_
        · rw [Int.toNat_natCast]; exact e1
        refine ev_neg (by simp) ?_
        refine Ev.bind hp2 ?_
        refine ev_pos ⟨by show (f : Int) < (l2.length : Int); omega, fun _ => by show (0 : Int) ≤ (j : Int); omega, hrows k1, by show out2.length ≤ 1000; omega⟩ ?_
        dsimp only
        rw [es]
        exact s1
      · refine Ev.step (fun k => by simp only [spec_l6Simple.l0]; rfl) (ev_pos (by omega) (ev_pos (by omega) ?_))
        rw [hrd]
        refine Ev.bind (find_spec l2 n (low_big k1).1 (low_big k1).2) ?_
        rw [find_at k2 k3]
        refine ev_pos (by omega) (ev_pos (by omega) ?_)
        dsimp only
        rw [rd1_getD, Int.toNat_natCast, wr (x := ((l2.getD f []).length : Int) - 1) (by omega) (by omega), rd_last l2 f (by omega), ht, wsucc hlt (by omega)]
        refine ev_pos (by omega) (ev_pos (by omega) (ev_neg (by omega) ?_))
        have hs := step_spec k1 n (-1)
        rw [show stepY l2 n (-1) = some (mvCut l2 f) from by unfold stepY; rw [find_at k2 k3]; exact es] at hs
        exact Ev.bind hs (ev_pos (by omega) s2)
theorem simple_same (l : List (List Int)) (hn : l.length ≤ 1048576) (hx : ∀ x, x ∈ l → x.length ≤ 1048576) (a : List Int) (ha : a.length ≤ 1048576) :
    ∃ (r : List Q) (b : Bool), Ev (fun k => spec_SimpleSteps.f k l a) (r, b) ∧ Ev (fun k => impl_SimpleSteps.f k l a) (r, b) ∧ r.length ≤ 1048576 := by
  unfold spec_SimpleSteps.f impl_SimpleSteps.f
  have h1 := ordA_spec l hn hx a ha
  have h2 := ordA_impl l hn hx a ha
  cases h : okOrd l a
  · rw [h] at h1 h2
    exact ⟨[], false, Ev.bind h1 (ev_neg (by simp) (ev_const rfl)), Ev.bind h2 (ev_pos rfl (ev_const rfl)), by simp⟩
  rw [h] at h1 h2
  obtain ⟨hy, hh⟩ := Bool.and_eq_true_iff.mp h
  obtain ⟨ho, h8⟩ := Bool.and_eq_true_iff.mp hh
  have ha8 : a.length ≤ 8 := by have := of_decide_eq_true h8; omega
  obtain ⟨hin, hd⟩ := ords_in l a [] ho
  have hlow := low_ok hy
  have hpl : ∀ m, m ∈ a.drop 0 → ∃ g q, atY l m g q := fun m hm => by
    have hm2 := (hin m (by simpa using hm)).1
    have hf := findR_in m l 0
    rw [hm2] at hf
    exact inYard_at (by have := of_decide_eq_true hf; omega)
  obtain ⟨r, g1, g2, g3⟩ := go_same a ha8 hd a.length 0 l [] (by omega) hlow (once_ok hy) hpl (by simp)
  refine ⟨r.1, r.2, Ev.bind h1 (ev_pos rfl (Ev.bind (a := r) ?_ (ev_const rfl))), Ev.bind h2 (ev_neg (by simp) (Ev.bind (own_impl l hn hx) ?_)), by omega⟩
  · unfold spec_l6Simple.f; exact g2
  · unfold impl_SimpleSteps.g; exact ev_pos (by have := hlow.1; omega) g1
end Go.Proofs.Ytlnihlmlkdhiaaa.UY
namespace Go.Proofs.Ytlnihlmlkdhiaaa.UK
open Go.RowKit Go.Proofs.YtlnihlmlkdhiaaaW.PrintWords Go.Proofs.YtlnihlmlkdhiaaaW.PrintMore Go.Proofs.Ytlnihlmlkdhiaaa.P Go.Proofs.Ytlnihlmlkdhiaaa.U Go.Proofs.Ytlnihlmlkdhiaaa.UT
set_option linter.unusedVariables false

/-! What holds from some number of rounds on. -/
def EvP (P : Nat → Prop) : Prop := ∃ K, ∀ k, K ≤ k → P k
theorem EvP.rounds {P : Nat → Prop} (h : EvP P) : ∃ k, P k := by
  obtain ⟨K, h⟩ := h
  exact ⟨K, h K (Nat.le_refl _)⟩
theorem EvP.tr : EvP fun _ => True := ⟨0, fun _ _ => trivial⟩
theorem EvP.bind {α : Type} {g : Nat → Option α} {r : α} {Q : Nat → α → Prop} (h : Ev g r) (hq : EvP fun k => Q k r) : EvP fun k => ∃ t, g k = some t ∧ Q k t := by
  obtain ⟨K, h⟩ := h
  obtain ⟨K', h'⟩ := hq
  exact ⟨max K K', fun k hk => ⟨r, h k (by omega), h' k (by omega)⟩⟩
theorem EvP.bind2 {α β : Type} {g : Nat → Option (α × β)} {r : α} {s : β} {Q : Nat → α → β → Prop} (h : Ev g (r, s)) (hq : EvP fun k => Q k r s) : EvP fun k => ∃ t u, g k = some (t, u) ∧ Q k t u := by
  obtain ⟨K, h⟩ := h
  obtain ⟨K', h'⟩ := hq
  exact ⟨max K K', fun k hk => ⟨r, s, h k (by omega), h' k (by omega)⟩⟩
theorem EvP.bind3 {α β γ : Type} {g : Nat → Option (α × β × γ)} {r : α} {s : β} {v : γ} {Q : Nat → α → β → γ → Prop} (h : Ev g (r, s, v)) (hq : EvP fun k => Q k r s v) : EvP fun k => ∃ t u x, g k = some (t, u, x) ∧ Q k t u x := by
  obtain ⟨K, h⟩ := h
  obtain ⟨K', h'⟩ := hq
  exact ⟨max K K', fun k hk => ⟨r, s, v, h k (by omega), h' k (by omega)⟩⟩
theorem EvP.bind4 {α β γ δ : Type} {g : Nat → Option (α × β × γ × δ)} {r : α} {s : β} {v : γ} {z : δ} {Q : Nat → α → β → γ → δ → Prop} (h : Ev g (r, s, v, z)) (hq : EvP fun k => Q k r s v z) : EvP fun k => ∃ t u x y, g k = some (t, u, x, y) ∧ Q k t u x y := by
  obtain ⟨K, h⟩ := h
  obtain ⟨K', h'⟩ := hq
  exact ⟨max K K', fun k hk => ⟨r, s, v, z, h k (by omega), h' k (by omega)⟩⟩
theorem EvP.out {c : Prop} {Q : Nat → Prop} (h : c) : EvP fun k => c ∨ Q k := ⟨0, fun _ _ => Or.inl h⟩
theorem EvP.on {c : Prop} {Q : Nat → Prop} (h : ¬ c) (hq : EvP Q) : EvP fun k => c ∨ ¬ c ∧ Q k := by
  obtain ⟨K, hq⟩ := hq
  exact ⟨K, fun k hk => Or.inr ⟨h, hq k hk⟩⟩
theorem EvP.no {c : Prop} {Q : Nat → Prop} (h : ¬ c) (hq : EvP Q) : EvP fun k => ¬ c ∧ Q k := by
  obtain ⟨K, hq⟩ := hq
  exact ⟨K, fun k hk => ⟨h, hq k hk⟩⟩
theorem EvP.yes {c : Prop} {Q : Nat → Prop} (h : c) (hq : EvP Q) : EvP fun k => c ∧ Q k := by
  obtain ⟨K, hq⟩ := hq
  exact ⟨K, fun k hk => ⟨h, hq k hk⟩⟩

/-! Lists of numbers. -/
def mk1 (m : Nat) (n : Int) : List Int := (List.range m).map fun j : Nat => n + (j : Int)
theorem mk1_length (m : Nat) (n : Int) : (mk1 m n).length = m := by simp [mk1]
theorem mk1_get (m : Nat) (n : Int) (i : Nat) (h : i < (mk1 m n).length) : (mk1 m n)[i] = n + i := by simp [mk1]
theorem mark1_l (n : Int) (hn : 0 ≤ n ∧ n ≤ 4398046511104) (m : Nat) (hm : m ≤ 1048576) : ∀ d i (acc : List Int), i + d = m → acc.length = m → acc.take i = (mk1 m n).take i → Ev (fun k => laws_markIntS.l0 k acc (n + i) (i : Int)) (n + m, mk1 m n) := by
  intro d
  induction d with
  | zero =>
    intro i acc hi ha ht
    refine Ev.step (fun k => by simp only [laws_markIntS.l0]; rfl) (ev_neg (by omega) (ev_const ?_))
    rw [List.take_of_length_le (by omega), List.take_of_length_le (by rw [mk1_length]; omega)] at ht
    rw [ht, show i = m by omega]
  | succ d ih =>
    intro i acc hi ha ht
    have hlt : i < acc.length := by omega
    refine Ev.step (fun k => by simp only [laws_markIntS.l0]; rfl) ?_
    refine ev_pos (by omega) (ev_pos (by omega) ?_)
    rw [wsucc (n := m) (by omega) (by omega), Int.toNat_natCast, wr (x := n + (i : Int) + 1) (by omega) (by omega)]
    rw [show n + (i : Int) + 1 = n + ((i + 1 : Nat) : Int) by omega]
    refine ih (i + 1) _ (by omega) (by rw [List.length_set]; exact ha) ?_
    rw [fill_step ht hlt, List.take_succ_eq_append_getElem (show i < (mk1 m n).length by rw [mk1_length]; omega), mk1_get]
theorem mark1 (l : List Int) (n : Int) (hn : 0 ≤ n ∧ n ≤ 4398046511104) (hm : l.length ≤ 1048576) : Ev (fun k => laws_markIntS.f k l n) (n + (l.length : Int), mk1 l.length n) := by
  unfold laws_markIntS.f
  have h := mark1_l n hn l.length hm l.length 0 l (by omega) rfl (by simp)
  rw [show n + ((0 : Nat) : Int) = n by omega] at h
  exact h
/-! Rows of numbers. -/
def sumL : List (List Int) → Int
  | [] => 0
  | r :: l => (r.length : Int) + sumL l
def mk2 : List (List Int) → Int → List (List Int)
  | [], _ => []
  | r :: l, n => mk1 r.length n :: mk2 l (n + r.length)
theorem mk2_length : ∀ (l : List (List Int)) (n : Int), (mk2 l n).length = l.length
  | [], _ => rfl
  | _ :: l, n => by simp [mk2, mk2_length l]
theorem sumL_cons (r : List Int) (l : List (List Int)) : sumL (r :: l) = (r.length : Int) + sumL l := rfl
theorem mk2_cons (r : List Int) (l : List (List Int)) (n : Int) : mk2 (r :: l) n = mk1 r.length n :: mk2 l (n + r.length) := rfl
theorem sumL_pos : ∀ (l : List (List Int)), 0 ≤ sumL l
  | [] => Int.le_refl 0
  | r :: l => by have := sumL_pos l; unfold sumL; omega
theorem sumL_le (c : Nat) : ∀ (l : List (List Int)), (∀ x, x ∈ l → x.length ≤ c) → sumL l ≤ (l.length : Int) * (c : Int)
  | [], _ => by simp [sumL]
  | r :: l, h => by
    have h1 := sumL_le c l (fun x hx => h x (List.mem_cons_of_mem _ hx))
    have h2 := h r List.mem_cons_self
    unfold sumL
    rw [List.length_cons, show ((l.length + 1 : Nat) : Int) * (c : Int) = (l.length : Int) * (c : Int) + c by rw [Int.natCast_add, Int.add_mul]; simp]
    omega
theorem set_prefix (pre : List (List Int)) (x y : List Int) (suf : List (List Int)) : (pre ++ x :: suf).set pre.length y = pre ++ y :: suf := by
  simp
theorem getD_prefix (pre : List (List Int)) (x : List Int) (suf : List (List Int)) : (pre ++ x :: suf).getD pre.length [] = x := by
  simp [List.getD]
theorem mark2_l : ∀ (suf pre : List (List Int)) (n : Int), 0 ≤ n → n + sumL suf ≤ 4398046511104 → (pre ++ suf).length ≤ 1048576 → (∀ x, x ∈ suf → x.length ≤ 1048576) →
    Ev (fun k => laws_markIntSS.l0 k (pre ++ suf) n (pre.length : Int)) (n + sumL suf, pre ++ mk2 suf n)
  | [], pre, n, h0, h1, hl, hx => by
    refine Ev.step (fun k => by simp only [laws_markIntSS.l0]; rfl) (ev_neg (by simp) (ev_const ?_))
    simp [sumL, mk2]
  | r :: suf, pre, n, h0, h1, hl, hx => by
    have hr := hx r List.mem_cons_self
    have hp := sumL_pos suf
    rw [sumL_cons] at h1
    have hl2 : pre.length + suf.length + 1 ≤ 1048576 := by simp at hl; omega
    refine Ev.step (fun k => by simp only [laws_markIntSS.l0]; rfl) (ev_pos (by simp; omega) (ev_pos (by omega) ?_))
    rw [Int.toNat_natCast, getD_prefix, wsucc (n := 1048576) (by omega) (by omega)]
    refine Ev.bind (mark1 r n ⟨h0, by omega⟩ hr) ?_
    rw [set_prefix]
    have ih := mark2_l suf (pre ++ [mk1 r.length n]) (n + r.length) (by omega) (by omega) (by simp; omega) (fun x h => hx x (List.mem_cons_of_mem _ h))
    rw [List.length_append, List.length_singleton, List.append_assoc, List.append_assoc] at ih
    refine ev_eq ih ?_
    rw [mk2_cons, sumL_cons]
    simp; omega
theorem mark2 (l : List (List Int)) (n : Int) (h0 : 0 ≤ n) (h1 : n + sumL l ≤ 4398046511104) (hl : l.length ≤ 1048576) (hx : ∀ x, x ∈ l → x.length ≤ 1048576) : Ev (fun k => laws_markIntSS.f k l n) (n + sumL l, mk2 l n) := by
  unfold laws_markIntSS.f
  exact mark2_l l [] n h0 h1 hl hx
theorem sumL_big {l : List (List Int)} (hl : l.length ≤ 1048576) (hx : ∀ x, x ∈ l → x.length ≤ 1048576) : sumL l ≤ 1099511627776 := by
  have h := sumL_le 1048576 l hx
  have h2 : (l.length : Int) * ((1048576 : Nat) : Int) ≤ 1048576 * 1048576 := by
    have := Int.mul_le_mul_of_nonneg_right (show (l.length : Int) ≤ 1048576 by omega) (show (0 : Int) ≤ ((1048576 : Nat) : Int) by omega)
    simpa using this
  omega
end Go.Proofs.Ytlnihlmlkdhiaaa.UK
