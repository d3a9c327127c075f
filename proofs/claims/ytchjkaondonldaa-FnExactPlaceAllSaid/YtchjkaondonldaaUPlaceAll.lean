/- UTab, UYard, UYardMem, UEarl, UArr, UChoose, UPush, UMark, UPlace, as one text. -/
import Derived.Test.YtchjkaondonldaaPx0
import Derived.Test.YtchjkaondonldaaPx1
import Derived.Test.YtchjkaondonldaaPx10
import Derived.Test.YtchjkaondonldaaPx11
import Derived.Test.YtchjkaondonldaaPx12
import Derived.Test.YtchjkaondonldaaPx13
import Derived.Test.YtchjkaondonldaaPx14
import Derived.Test.YtchjkaondonldaaPx2
import Derived.Test.YtchjkaondonldaaPx4
import Derived.Test.YtchjkaondonldaaPx5
import Derived.Test.YtchjkaondonldaaPx6
import Derived.Test.YtchjkaondonldaaPx7
import Derived.Test.YtchjkaondonldaaPx8
import Derived.Test.YtchjkaondonldaaPx9
import Derived.Test.YtchjkaondonldaaU
namespace Go.Proofs.Ytchjkaondonldaa.UT
open Go.RowKit Go.Proofs.YtchjkaondonldaaW.PrintWords Go.Proofs.YtchjkaondonldaaW.PrintMore Go.Proofs.Ytchjkaondonldaa.P Go.Proofs.Ytchjkaondonldaa.U
set_option linter.unusedVariables false

theorem rd_l1 (l : List (List Int)) (i : Nat) (h : i < l.length) : rd_L1 l (i : Int) = l[i] := by
  unfold rd_L1
  rw [Int.toNat_natCast]
  exact getD_at l i _ h

/-- What 'sz' leaves of n; -1 if it is too much. -/
def szT (l : List (List Int)) (n : Int) : Int := l.foldl (fun m x => if m < 0 then m else if m - (x.length : Int) < 0 then -1 else m - (x.length : Int)) n
theorem szT_neg (l : List (List Int)) : szT l (-1) = -1 := by
  unfold szT
  induction l with
  | nil => rfl
  | cons x l ih => rw [List.foldl_cons, if_pos (by omega)]; exact ih
theorem szT_le : ∀ (l : List (List Int)) (n : Int), 0 ≤ szT l n → ∀ x, x ∈ l → (x.length : Int) ≤ n
  | [], _, _, x, hx => by cases hx
  | y :: l, n, h, x, hx => by
    unfold szT at h
    rw [List.foldl_cons] at h
    change 0 ≤ szT l _ at h
    by_cases h0 : n < 0
    · rw [if_pos h0] at h
      exact absurd h (by
        have hk : ∀ (l : List (List Int)) (n : Int), n < 0 → szT l n < 0 := by
          intro l
          induction l with
          | nil => intro n hn; exact hn
          | cons z l ih => intro n hn; unfold szT; rw [List.foldl_cons, if_pos hn]; exact ih n hn
        have := hk l n h0
        omega)
    · rw [if_neg h0] at h
      by_cases h1 : n - (y.length : Int) < 0
      · rw [if_pos h1, szT_neg] at h
        omega
      · rw [if_neg h1] at h
        rcases List.mem_cons.1 hx with rfl | hx
        · omega
        · have := szT_le l _ h x hx
          omega
theorem sz1 (l : List Int) (n : Int) (hn : 0 ≤ n ∧ n ≤ 1048576) (hl : l.length ≤ 9223372036854775807) : laws_szIntS.f l n = some (if n - (l.length : Int) < 0 then -1 else n - (l.length : Int)) := by
  unfold laws_szIntS.f
  rw [wr (by omega) (by omega)]
  split <;> rfl
theorem sz_l (l : List (List Int)) (hl : l.length ≤ 9223372036854775807) (hx : ∀ x, x ∈ l → x.length ≤ 9223372036854775807) : ∀ d i (n : Int), i + d = l.length → 0 ≤ n ∧ n ≤ 1048576 → Ev (fun k => laws_szIntSS.l0 k l n (i : Int)) (szT (l.drop i) n) := by
  intro d
  induction d with
  | zero =>
    intro i n hi hn
    refine Ev.step (fun k => by simp only [laws_szIntSS.l0]; rfl) ?_
    refine ev_neg (by omega) (ev_const ?_)
    rw [List.drop_of_length_le (by omega)]; rfl
  | succ d ih =>
    intro i n hi hn
    have hlt : i < l.length := by omega
    refine Ev.step (fun k => by simp only [laws_szIntSS.l0]; rfl) ?_
    refine ev_pos (by omega) (ev_pos (by omega) ?_)
    rw [rd_l1 l i hlt, wsucc hlt hl, List.drop_eq_getElem_cons hlt]
    refine ev_call (sz1 _ n hn (hx _ (List.getElem_mem hlt))) ?_
    by_cases h1 : n - (l[i].length : Int) < 0
    · refine ev_eq (ev_pos (by rw [if_pos h1]; omega) (ev_const rfl)) ?_
      unfold szT
      rw [List.foldl_cons, if_neg (by omega), if_pos h1]
      exact (szT_neg _).symm
    · have e2 : szT (l[i] :: l.drop (i + 1)) n = szT (l.drop (i + 1)) (n - (l[i].length : Int)) := by
        unfold szT
        rw [List.foldl_cons, if_neg (by omega), if_neg h1]
      rw [e2, if_neg h1]
      exact ev_neg h1 (ih (i + 1) _ (by omega) (by omega))
/-- 'sz' of rows: it is small, or it is told as too much. -/
theorem sz_ev (l : List (List Int)) (hl : l.length ≤ 9223372036854775807) (hx : ∀ x, x ∈ l → x.length ≤ 9223372036854775807) :
    ∃ n, Ev (fun k => laws_szIntSS.f k l 1048576) n ∧ n ≤ 1048576 ∧ (0 ≤ n → l.length ≤ 1048576 ∧ ∀ x, x ∈ l → x.length ≤ 1048576) := by
  unfold laws_szIntSS.f
  have e : wrap64 (1048576 - (l.length : Int)) = 1048576 - (l.length : Int) := wr (by omega) (by omega)
  rw [e]
  by_cases h : 1048576 - (l.length : Int) < 0
  · exact ⟨-1, ev_pos h (ev_const rfl), by omega, fun h => by omega⟩
  · refine ⟨_, ev_neg h (sz_l l hl hx l.length 0 _ (by omega) (by omega)), ?_, fun h0 => ⟨by omega, fun x hx => ?_⟩⟩
    · have hk : ∀ (l : List (List Int)) (n : Int), n ≤ 1048576 → szT l n ≤ 1048576 := by
        intro l
        induction l with
        | nil => intro n hn; exact hn
        | cons z l ih =>
          intro n hn
          unfold szT
          rw [List.foldl_cons]
          refine ih _ ?_
          split
          · exact hn
          · split <;> omega
      exact hk _ _ (by omega)
    · have := szT_le _ _ h0 x hx
      omega

theorem to1_l (l : List Int) (hn : l.length ≤ 1048576) : ∀ d i (acc : List Int), i + d = l.length → acc.length = l.length → acc.take i = l.take i → Ev (fun k => laws_toIntS.l0 k l acc (i : Int)) l := by
  intro d
  induction d with
  | zero =>
    intro i acc hi ha ht
    refine Ev.step (fun k => by simp only [laws_toIntS.l0]; rfl) (ev_neg (by omega) (ev_const ?_))
    rw [List.take_of_length_le (by omega), List.take_of_length_le (by omega)] at ht
    rw [ht]
  | succ d ih =>
    intro i acc hi ha ht
    have hlt : i < l.length := by omega
    refine Ev.step (fun k => by simp only [laws_toIntS.l0]; rfl) ?_
    refine ev_pos (by omega) (ev_pos (by omega) (ev_pos (by omega) ?_))
    rw [wsucc hlt (by omega), Int.toNat_natCast, rd_at l i hlt]
    refine ih (i + 1) _ (by omega) (by rw [List.length_set]; exact ha) ?_
    rw [fill_step ht (by omega), List.take_succ_eq_append_getElem hlt]
theorem to1 (l : List Int) (hn : l.length ≤ 1048576) : Ev (fun k => laws_toIntS.f k l) l := by
  unfold laws_toIntS.f
  refine ev_pos (by omega) (ev_pos (by omega) ?_)
  exact to1_l l hn l.length 0 _ (by omega) (by simp) (by simp)
theorem to_l (l : List (List Int)) (hn : l.length ≤ 1048576) (hx : ∀ x, x ∈ l → x.length ≤ 1048576) : ∀ d i (acc : List (List Int)), i + d = l.length → acc.length = l.length → acc.take i = l.take i → Ev (fun k => laws_toIntSS.l0 k l acc (i : Int)) l := by
  intro d
  induction d with
  | zero =>
    intro i acc hi ha ht
    refine Ev.step (fun k => by simp only [laws_toIntSS.l0]; rfl) (ev_neg (by omega) (ev_const ?_))
    rw [List.take_of_length_le (by omega), List.take_of_length_le (by omega)] at ht
    rw [ht]
  | succ d ih =>
    intro i acc hi ha ht
    have hlt : i < l.length := by omega
    refine Ev.step (fun k => by simp only [laws_toIntSS.l0]; rfl) ?_
    refine ev_pos (by omega) (ev_pos (by omega) ?_)
    rw [wsucc hlt (by omega), Int.toNat_natCast, rd_l1 l i hlt]
    refine Ev.bind (to1 _ (hx _ (List.getElem_mem hlt))) (ev_pos (by omega) ?_)
    refine ih (i + 1) _ (by omega) (by rw [List.length_set]; exact ha) ?_
    rw [fill_step ht (by omega), List.take_succ_eq_append_getElem hlt]
theorem to_ev (l : List (List Int)) (hn : l.length ≤ 1048576) (hx : ∀ x, x ∈ l → x.length ≤ 1048576) : Ev (fun k => laws_toIntSS.f k l) l := by
  unfold laws_toIntSS.f
  refine ev_pos (by omega) (ev_pos (by omega) ?_)
  exact to_l l hn hx l.length 0 _ (by omega) (by simp) (by simp)

theorem eq1_l (l : List Int) (hn : l.length ≤ 9223372036854775807) : ∀ d i, i + d = l.length → Ev (fun k => laws_eqIntS.l0 k l l (i : Int)) true := by
  intro d
  induction d with
  | zero => intro i hi; exact Ev.step (fun k => by simp only [laws_eqIntS.l0]; rfl) (ev_neg (by omega) (ev_const rfl))
  | succ d ih =>
    intro i hi
    refine Ev.step (fun k => by simp only [laws_eqIntS.l0]; rfl) ?_
    refine ev_pos (by omega) (ev_pos (by omega) (ev_pos (by omega) (ev_pos (by simp) ?_)))
    rw [wsucc (show i < l.length by omega) (by omega)]
    exact ih (i + 1) (by omega)
theorem eq1 (l : List Int) (hn : l.length ≤ 9223372036854775807) : Ev (fun k => laws_eqIntS.f k l l) true := by
  unfold laws_eqIntS.f
  exact ev_pos rfl (eq1_l l hn l.length 0 (by omega))
theorem eq_l (l : List (List Int)) (hn : l.length ≤ 9223372036854775807) (hx : ∀ x, x ∈ l → x.length ≤ 9223372036854775807) : ∀ d i, i + d = l.length → Ev (fun k => laws_eqIntSS.l0 k l l (i : Int)) true := by
  intro d
  induction d with
  | zero => intro i hi; exact Ev.step (fun k => by simp only [laws_eqIntSS.l0]; rfl) (ev_neg (by omega) (ev_const rfl))
  | succ d ih =>
    intro i hi
    have hlt : i < l.length := by omega
    refine Ev.step (fun k => by simp only [laws_eqIntSS.l0]; rfl) ?_
    refine ev_pos (by omega) (ev_pos (by omega) (ev_pos (by omega) ?_))
    rw [rd_l1 l i hlt]
    refine Ev.bind (eq1 _ (hx _ (List.getElem_mem hlt))) (ev_pos rfl ?_)
    rw [wsucc hlt hn]
    exact ih (i + 1) (by omega)
theorem eq_ev (l : List (List Int)) (hn : l.length ≤ 9223372036854775807) (hx : ∀ x, x ∈ l → x.length ≤ 9223372036854775807) : Ev (fun k => laws_eqIntSS.f k l l) true := by
  unfold laws_eqIntSS.f
  exact ev_pos rfl (eq_l l hn hx l.length 0 (by omega))

theorem in_spec (a b c : Int) : spec_l1In.f a b c = some (inr a b c) := by
  unfold spec_l1In.f inr
  by_cases h : b ≤ a <;> simp [h]
theorem has_l (l : List Int) (v : Int) (hn : l.length ≤ 9223372036854775807) : ∀ d i, i + d = l.length → Ev (fun k => spec_l1Has.l0 k l v (i : Int)) ((l.drop i).contains v) := by
  intro d
  induction d with
  | zero =>
    intro i hi
    refine Ev.step (fun k => by simp only [spec_l1Has.l0]; rfl) (ev_neg (by omega) (ev_const ?_))
    rw [List.drop_of_length_le (by omega)]; rfl
  | succ d ih =>
    intro i hi
    have hlt : i < l.length := by omega
    refine Ev.step (fun k => by simp only [spec_l1Has.l0]; rfl) ?_
    refine ev_pos (by omega) (ev_pos (by omega) ?_)
    rw [rd_at l i hlt, wsucc hlt hn, List.drop_eq_getElem_cons hlt, List.contains_cons]
    by_cases e : l[i] = v
    · exact ev_eq (ev_pos e (ev_const rfl)) (by simp [e])
    · exact ev_eq (ev_neg e (ih (i + 1) (by omega))) (by simp [Ne.symm e])
theorem has_ev (l : List Int) (v : Int) (hn : l.length ≤ 9223372036854775807) : Ev (fun k => spec_l1Has.f k l v) (l.contains v) := by
  unfold spec_l1Has.f
  exact has_l l v hn l.length 0 (by omega)
end Go.Proofs.Ytchjkaondonldaa.UT
namespace Go.Proofs.Ytchjkaondonldaa.UY
open Go.RowKit Go.Proofs.YtchjkaondonldaaW.PrintWords Go.Proofs.YtchjkaondonldaaW.PrintMore Go.Proofs.Ytchjkaondonldaa.P Go.Proofs.Ytchjkaondonldaa.U Go.Proofs.Ytchjkaondonldaa.UT
set_option linter.unusedVariables false

theorem good_args {s : S24} (h : G24 s) : s.f0.length ≤ 9223372036854775807 ∧ ∀ x, x ∈ s.f0 → x.length ≤ 9223372036854775807 := ⟨h.1, fun x hx => (h.2 x hx).1⟩
theorem sz_yard (l : List (List Int)) (hl : l.length ≤ 9223372036854775807) (hx : ∀ x, x ∈ l → x.length ≤ 9223372036854775807) :
    ∃ n, Ev (fun k => laws_szYard.f k l 1048576) n ∧ (0 ≤ n → l.length ≤ 1048576 ∧ ∀ x, x ∈ l → x.length ≤ 1048576) := by
  obtain ⟨n, h1, h2, h3⟩ := sz_ev l hl hx
  unfold laws_szYard.f
  by_cases hn : n < 0
  · exact ⟨-1, Ev.bind h1 (ev_pos hn (ev_const rfl)), fun h => by omega⟩
  · exact ⟨n, Ev.bind h1 (ev_neg hn (ev_const rfl)), h3⟩
theorem to_yard (l : List (List Int)) (hn : l.length ≤ 1048576) (hx : ∀ x, x ∈ l → x.length ≤ 1048576) : Ev (fun k => laws_toYard.f k l) l := by
  unfold laws_toYard.f
  exact Ev.bind (to_ev l hn hx) (ev_const rfl)
theorem eq_yard (l : List (List Int)) (hn : l.length ≤ 9223372036854775807) (hx : ∀ x, x ∈ l → x.length ≤ 9223372036854775807) : Ev (fun k => laws_eqYard.f k l l) true := by
  unfold laws_eqYard.f
  exact (Ev.bind (eq_ev l hn hx) (ev_pos rfl (ev_const rfl)))

theorem contains_rev (s : List Int) (n : Int) : s.reverse.contains n = s.contains n := by
  rw [Bool.eq_iff_iff]; simp
/-- The reference's loops: what is left of the check. -/
theorem good_l (l : List (List Int)) (hn : l.length ≤ 9223372036854775807) (hx : ∀ x, x ∈ l → x.length ≤ 1048576) : ∀ d i (s : List Int), i + d = l.length → s.length ≤ i * 1048576 → l.length ≤ 1048576 →
    Ev (fun k => spec_l5Good.l0 k s.reverse (i : Int) l) ((chkRows 4 (l.drop i) s).isSome) := by
  intro d
  induction d with
  | zero =>
    intro i s hi hs _
    refine Ev.step (fun k => by simp only [spec_l5Good.l0]; rfl) ?_
    refine ev_neg (by omega) (ev_const ?_)
    rw [List.drop_of_length_le (by omega)]; rfl
  | succ d ih =>
    intro i s hi hs hll
    have hlt : i < l.length := by omega
    refine Ev.step (fun k => by simp only [spec_l5Good.l0]; rfl) ?_
    refine ev_pos (by omega) (ev_pos (by omega) ?_)
    rw [rd_l1 l i hlt, List.drop_eq_getElem_cons hlt]
    have hxi := hx _ (List.getElem_mem hlt)
    unfold chkRows
    by_cases hc : (l[i].length : Int) ≤ 4
    · rw [if_pos hc]
      refine ev_neg (by omega) ?_
      have inner : ∀ e j (s : List Int), j + e = l[i].length → s.length ≤ i * 1048576 + j → Ev (fun k => spec_l5Good.l1 k s.reverse (i : Int) (j : Int) l) (((chkRow (l[i].drop j) s).bind (chkRows 4 (l.drop (i + 1)))).isSome) := by
        intro e
        induction e with
        | zero =>
          intro j s hj hs
          refine Ev.step (fun k => by simp only [spec_l5Good.l1]; rfl) ?_
          refine ev_pos (by omega) (ev_pos (by omega) ?_)
          rw [rd_l1 l i hlt, wsucc hlt hn]
          refine ev_neg (by omega) ?_
          rw [List.drop_of_length_le (by omega)]
          exact ih (i + 1) s (by omega) (by omega) hll
        | succ e ihe =>
          intro j s hj hs
          have hjt : j < l[i].length := by omega
          refine Ev.step (fun k => by simp only [spec_l5Good.l1]; rfl) ?_
          refine ev_pos (by omega) (ev_pos (by omega) ?_)
          rw [rd_l1 l i hlt, rd_at _ j hjt, wsucc hjt (by omega), List.drop_eq_getElem_cons hjt]
          refine ev_pos (by omega) (ev_pos (by omega) ?_)
          refine ev_call (in_spec _ _ _) ?_
          cases h1 : inr l[i][j] 1 99
          · exact ev_eq (ev_neg (by simp) (ev_const rfl)) (by rw [chkRow_bad (by rw [h1]; rfl)]; rfl)
          refine ev_pos rfl ?_
          have hh := has_ev s.reverse l[i][j] (by rw [List.length_reverse]; omega)
          rw [contains_rev] at hh
          refine Ev.bind hh ?_
          cases h2 : s.contains l[i][j]
          · refine ev_neg (by simp) (ev_pos (by rw [List.length_reverse]; omega) ?_)
            rw [chkRow_ok (by rw [h1, h2]; rfl)]
            have e2 := ihe (j + 1) (l[i][j] :: s) (by omega) (by rw [List.length_cons]; omega)
            rw [List.reverse_cons] at e2
            exact e2
          · exact ev_eq (ev_pos rfl (ev_const rfl)) (by rw [chkRow_bad (by rw [h1, h2]; rfl)]; rfl)
      exact inner l[i].length 0 s (by omega) (Nat.le_trans hs (Nat.le_add_right _ _))
    · rw [if_neg hc]
      exact ev_pos (by omega) (ev_const rfl)
theorem good_spec (l : List (List Int)) (hn : l.length ≤ 1048576) (hx : ∀ x, x ∈ l → x.length ≤ 1048576) : Ev (fun k => spec_l5Good.f k l) (okYard l) := by
  unfold spec_l5Good.f okYard
  refine ev_call (in_spec _ _ _) ?_
  cases h2 : inr (l.length : Int) 1 6
  · exact ev_neg (by simp) (ev_const rfl)
  · exact ev_pos rfl (good_l l (by omega) hx l.length 0 [] (by omega) (by simp) hn)
end Go.Proofs.Ytchjkaondonldaa.UY
namespace Go.Proofs.Ytchjkaondonldaa.UY
open Go.RowKit Go.Proofs.YtchjkaondonldaaW.PrintWords Go.Proofs.YtchjkaondonldaaW.PrintMore Go.Proofs.Ytchjkaondonldaa.P Go.Proofs.Ytchjkaondonldaa.U Go.Proofs.Ytchjkaondonldaa.UT
set_option linter.unusedVariables false

/-! A valid yard. -/
theorem chkRow_mem : ∀ (l s t : List Int), chkRow l s = some t → ∀ n, n ∈ l → inr n 1 99 = true
  | [], _, _, _, n, hn => by cases hn
  | x :: l, s, t, h, n, hn => by
    unfold chkRow at h
    split at h
    · rename_i hc
      rw [Bool.and_eq_true] at hc
      rcases List.mem_cons.mp hn with rfl | hn
      · exact hc.1
      · exact chkRow_mem l _ _ h n hn
    · cases h
theorem chkRows_mem (cap : Int) : ∀ (l : List (List Int)) (s t : List Int), chkRows cap l s = some t → ∀ x, x ∈ l → (x.length : Int) ≤ cap ∧ ∀ n, n ∈ x → inr n 1 99 = true
  | [], _, _, _, x, hx => by cases hx
  | r :: l, s, t, h, x, hx => by
    unfold chkRows at h
    split at h
    · rename_i hc
      cases h1 : chkRow r s with
      | none => rw [h1] at h; cases h
      | some u =>
        rw [h1] at h
        rcases List.mem_cons.mp hx with rfl | hx
        · exact ⟨hc, chkRow_mem _ _ _ h1⟩
        · exact chkRows_mem cap l _ _ h x hx
    · cases h
theorem okYard_mem {l : List (List Int)} (h : okYard l = true) : (1 ≤ l.length ∧ l.length ≤ 6) ∧ ∀ x, x ∈ l → x.length ≤ 4 ∧ ∀ n, n ∈ x → 1 ≤ n ∧ n ≤ 99 := by
  unfold okYard at h
  rw [Bool.and_eq_true, inr_iff] at h
  obtain ⟨h1, h2⟩ := h
  obtain ⟨t, ht⟩ := Option.isSome_iff_exists.mp h2
  refine ⟨⟨by omega, by omega⟩, fun x hx => ?_⟩
  obtain ⟨h3, h4⟩ := chkRows_mem 4 l _ _ ht x hx
  exact ⟨by omega, fun n hn => inr_iff.mp (h4 n hn)⟩

theorem rdl_mem {l : List (List Int)} {s : Int} (h0 : 0 ≤ s) (h1 : s < (l.length : Int)) : rd_L1 l s ∈ l := by
  obtain ⟨n, rfl⟩ := Int.eq_ofNat_of_zero_le h0
  have h : n < l.length := by omega
  rw [show rd_L1 l (n : Int) = l[n] from rd_l1 l n h]
  exact List.getElem_mem h
end Go.Proofs.Ytchjkaondonldaa.UY
namespace Go.Proofs.Ytchjkaondonldaa.UY
open Go.RowKit Go.Proofs.YtchjkaondonldaaW.PrintWords Go.Proofs.YtchjkaondonldaaW.PrintMore Go.Proofs.Ytchjkaondonldaa.P Go.Proofs.Ytchjkaondonldaa.U Go.Proofs.Ytchjkaondonldaa.UT
set_option linter.unusedVariables false

/-! The earliest number of a stack. -/
def earl (l : List Int) : Int := l.foldl mn 100
theorem mnL_fold : ∀ (l : List Int) (m : Int), mnL l m = l.foldl mn m
  | [], m => rfl
  | x :: l, m => by rw [mnL, mnL_fold l]; rfl
theorem earl_l (l : List Int) (hn : l.length ≤ 1048576) : ∀ d i (m : Int), i + d = l.length → Ev (fun k => spec_l8Earliest.l0 k l m (i : Int)) ((l.drop i).foldl mn m) := by
  intro d
  induction d with
  | zero =>
    intro i m hi
    refine Ev.step (fun k => by simp only [spec_l8Earliest.l0]; rfl) ?_
    refine ev_neg (by omega) (ev_const ?_)
    rw [List.drop_of_length_le (by omega)]; rfl
  | succ d ih =>
    intro i m hi
    have hlt : i < l.length := by omega
    refine Ev.step (fun k => by simp only [spec_l8Earliest.l0]; rfl) ?_
    refine ev_pos (by omega) (ev_pos (by omega) ?_)
    rw [rd_at l i hlt, wsucc hlt (by omega), List.drop_eq_getElem_cons hlt]
    have e : spec_l1Least.f m l[i] = some (mn m l[i]) := by
      unfold spec_l1Least.f mn
      by_cases h : m < l[i]
      · rw [if_pos h, if_neg (by omega)]
      · rw [if_neg h]
        by_cases h2 : l[i] < m
        · rw [if_pos h2]
        · rw [if_neg h2, show l[i] = m by omega]
    exact ev_call e (ih (i + 1) _ (by omega))
theorem earl_spec (l : List Int) (hn : l.length ≤ 1048576) : Ev (fun k => spec_l8Earliest.f k l) (earl l) := by
  unfold spec_l8Earliest.f
  exact earl_l l hn l.length 0 100 (by omega)
theorem earl_impl (l : List Int) (hx : ∀ n, n ∈ l → n ≤ 99) : impl_earliestOf.f l = some (earl l) := by
  unfold impl_earliestOf.f earl
  cases l with
  | nil => rfl
  | cons x l =>
    have h := hx x (List.mem_cons_self ..)
    rw [if_neg (by simp; omega)]
    show (some (mnL l x)).bind _ = _
    rw [Option.bind_some, mnL_fold, List.foldl_cons, show mn 100 x = x from if_pos (by omega)]

/-- A yard whose stacks aren't too high and whose numbers aren't too great. -/
def fine (l : List (List Int)) : Prop := ∀ x, x ∈ l → x.length ≤ 4 ∧ ∀ n, n ∈ x → n ≤ 99
theorem fine_ok {l : List (List Int)} (h : okYard l = true) : fine l := fun x hx => ⟨((okYard_mem h).2 x hx).1, fun n hn => (((okYard_mem h).2 x hx).2 n hn).2⟩
theorem earl_at {l : List (List Int)} (h : fine l) {s : Int} (h0 : 0 ≤ s) (h1 : s < (l.length : Int)) : impl_earliestOf.f (rd_L1 l s) = some (earl (rd_L1 l s)) ∧ Ev (fun k => spec_l8Earliest.f k (rd_L1 l s)) (earl (rd_L1 l s)) := by
  obtain ⟨h2, h3⟩ := h _ (rdl_mem h0 h1)
  exact ⟨earl_impl _ h3, earl_spec _ (by omega)⟩
end Go.Proofs.Ytchjkaondonldaa.UY
namespace Go.Proofs.Ytchjkaondonldaa.UY
open Go.RowKit Go.Proofs.YtchjkaondonldaaW.PrintWords Go.Proofs.YtchjkaondonldaaW.PrintMore Go.Proofs.Ytchjkaondonldaa.P Go.Proofs.Ytchjkaondonldaa.U Go.Proofs.Ytchjkaondonldaa.UT
set_option linter.unusedVariables false

/-! Where a number stands. -/
def inYard (l : List (List Int)) (v : Int) : Bool := l.any fun r => r.contains v
def findR (v : Int) : List (List Int) → Nat → Int × Int
  | [], _ => (-1, -1)
  | r :: l, i => if r.contains v = true then ((i : Int), (r.idxOf v : Int)) else findR v l (i + 1)
theorem findR_in (v : Int) : ∀ (l : List (List Int)) (i : Nat), decide ((findR v l i).1 ≥ 0) = inYard l v
  | [], i => by simp [findR, inYard]
  | r :: l, i => by
    unfold findR inYard
    rw [List.any_cons]
    by_cases h : r.contains v = true
    · rw [if_pos h, h]; simp
    · have hf : r.contains v = false := by simpa using h
      rw [if_neg h, findR_in v l (i + 1), hf]; rfl
theorem idx_l (l : List Int) (v : Int) (hn : l.length ≤ 1048576) : ∀ d i, i + d = l.length → Ev (fun k => slices_Index_int_int.l0 k l v (l.length : Int) (i : Int)) (if (l.drop i).contains v = true then ((i + (l.drop i).idxOf v : Nat) : Int) else -1) := by
  intro d
  induction d with
  | zero =>
    intro i hi
    refine Ev.step (fun k => by simp only [slices_Index_int_int.l0]; rfl) ?_
    refine ev_neg (by omega) (ev_const ?_)
    rw [List.drop_of_length_le (by omega)]; rfl
  | succ d ih =>
    intro i hi
    have hlt : i < l.length := by omega
    refine Ev.step (fun k => by simp only [slices_Index_int_int.l0]; rfl) ?_
    refine ev_pos (by omega) (ev_pos (by omega) (ev_pos (by omega) ?_))
    rw [rd_at l i hlt, wsucc hlt (by omega), List.drop_eq_getElem_cons hlt]
    by_cases hc : v = l[i]
    · refine ev_eq (ev_pos hc (ev_const rfl)) ?_
      rw [if_pos (by rw [List.contains_cons, show (v == l[i]) = true by simpa using hc]; rfl), List.idxOf_cons, show (l[i] == v) = true by simpa using hc.symm]; simp
    · have e := ih (i + 1) (by omega)
      refine ev_eq (ev_neg hc e) ?_
      have hb : (l[i] == v) = false := by simp; omega
      rw [List.contains_cons, List.idxOf_cons, hb, show (v == l[i]) = false by simp; omega]
      simp only [Bool.false_or, cond_false]
      by_cases h2 : (l.drop (i + 1)).contains v = true
      · rw [if_pos h2, if_pos h2]; omega
      · rw [if_neg h2, if_neg h2]
theorem idx_ev (l : List Int) (v : Int) (hn : l.length ≤ 1048576) : Ev (fun k => slices_Index_int_int.f k l v) (if l.contains v = true then ((l.idxOf v : Nat) : Int) else -1) := by
  unfold slices_Index_int_int.f
  have h := idx_l l v hn l.length 0 (by omega)
  rw [List.drop_zero, Nat.zero_add] at h
  exact h
theorem contains_impl (l : List Int) (v : Int) (hn : l.length ≤ 1048576) : Ev (fun k => slices_Contains_int_int.f k l v) (l.contains v) := by
  unfold slices_Contains_int_int.f
  refine Ev.bind (idx_ev l v hn) (ev_const ?_)
  cases h : l.contains v
  · rfl
  · rw [if_pos rfl]; simp
theorem place_l (l : List (List Int)) (v : Int) (hn : l.length ≤ 1048576) (hx : ∀ x, x ∈ l → x.length ≤ 1048576) : ∀ d i, i + d = l.length → Ev (fun k => impl_placeOf.l0 k v l (l.length : Int) (i : Int)) (findR v (l.drop i) i) := by
  intro d
  induction d with
  | zero =>
    intro i hi
    refine Ev.step (fun k => by simp only [impl_placeOf.l0]; rfl) ?_
    refine ev_neg (by omega) (ev_const ?_)
    rw [List.drop_of_length_le (by omega)]; rfl
  | succ d ih =>
    intro i hi
    have hlt : i < l.length := by omega
    refine Ev.step (fun k => by simp only [impl_placeOf.l0]; rfl) ?_
    refine ev_pos (by omega) (ev_pos (by omega) (ev_pos (by omega) ?_))
    rw [rd_l1 l i hlt, wsucc hlt (by omega), List.drop_eq_getElem_cons hlt]
    refine Ev.bind (idx_ev _ v (hx _ (List.getElem_mem hlt))) ?_
    unfold findR
    cases h : l[i].contains v
    · rw [if_neg (by simp), if_neg (by simp)]
      exact ev_neg (by omega) (ih (i + 1) (by omega))
    · rw [if_pos rfl, if_pos rfl]
      exact ev_pos (by omega) (ev_const rfl)
theorem place_impl (l : List (List Int)) (v : Int) (hn : l.length ≤ 1048576) (hx : ∀ x, x ∈ l → x.length ≤ 1048576) : Ev (fun k => impl_placeOf.f k l v) (findR v l 0) := by
  unfold impl_placeOf.f
  exact place_l l v hn hx l.length 0 (by omega)
theorem find_l (l : List (List Int)) (v : Int) (hn : l.length ≤ 1048576) (hx : ∀ x, x ∈ l → x.length ≤ 1048576) : ∀ d i, i + d = l.length → Ev (fun k => spec_l5Find.l0 k v (i : Int) l) (findR v (l.drop i) i) := by
  intro d
  induction d with
  | zero =>
    intro i hi
    refine Ev.step (fun k => by simp only [spec_l5Find.l0]; rfl) ?_
    refine ev_neg (by omega) (ev_const ?_)
    rw [List.drop_of_length_le (by omega)]; rfl
  | succ d ih =>
    intro i hi
    have hlt : i < l.length := by omega
    have hxi := hx _ (List.getElem_mem hlt)
    refine Ev.step (fun k => by simp only [spec_l5Find.l0]; rfl) ?_
    refine ev_pos (by omega) ?_
    rw [List.drop_eq_getElem_cons hlt]
    have inner : ∀ e j, j + e = l[i].length → Ev (fun k => spec_l5Find.l1 k v (i : Int) (j : Int) l) (if (l[i].drop j).contains v = true then ((i : Int), ((j + (l[i].drop j).idxOf v : Nat) : Int)) else findR v (l.drop (i + 1)) (i + 1)) := by
      intro e
      induction e with
      | zero =>
        intro j hj
        refine Ev.step (fun k => by simp only [spec_l5Find.l1]; rfl) ?_
        refine ev_pos (by omega) (ev_pos (by omega) ?_)
        rw [rd_l1 l i hlt, wsucc hlt (by omega), List.drop_of_length_le (show l[i].length ≤ j by omega)]
        exact ev_neg (by omega) (ih (i + 1) (by omega))
      | succ e ihe =>
        intro j hj
        have hjt : j < l[i].length := by omega
        refine Ev.step (fun k => by simp only [spec_l5Find.l1]; rfl) ?_
        refine ev_pos (by omega) (ev_pos (by omega) ?_)
        rw [rd_l1 l i hlt, rd_at _ j hjt, wsucc hjt (by omega), List.drop_eq_getElem_cons hjt]
        refine ev_pos (by omega) (ev_pos (by omega) ?_)
        by_cases hc : l[i][j] = v
        · refine ev_eq (ev_pos hc (ev_const rfl)) ?_
          rw [if_pos (by simp [hc]), List.idxOf_cons, hc]; simp
        · refine ev_eq (ev_neg hc (ihe (j + 1) (by omega))) ?_
          have hb : (l[i][j] == v) = false := by simp; omega
          rw [List.contains_cons, List.idxOf_cons, hb, show (v == l[i][j]) = false by simp; omega]
          simp only [Bool.false_or, cond_false]
          by_cases h2 : (l[i].drop (j + 1)).contains v = true
          · rw [if_pos h2, if_pos h2]; simp only [Prod.mk.injEq, true_and]; omega
          · rw [if_neg h2, if_neg h2]
    have h := inner l[i].length 0 (by omega)
    rw [List.drop_zero, Nat.zero_add] at h
    exact h
theorem find_spec (l : List (List Int)) (v : Int) (hn : l.length ≤ 1048576) (hx : ∀ x, x ∈ l → x.length ≤ 1048576) : Ev (fun k => spec_l5Find.f k l v) (findR v l 0) := by
  unfold spec_l5Find.f
  exact find_l l v hn hx l.length 0 (by omega)

/-! Numbers that may come. -/
def arrs (l : List (List Int)) : List Int → List Int → Bool
  | _, [] => true
  | pre, x :: xs => inr x 1 99 && (!(inYard l x) && (!(pre.contains x) && arrs l (pre ++ [x]) xs))
theorem arr_spec (l : List (List Int)) (hn : l.length ≤ 1048576) (hx : ∀ x, x ∈ l → x.length ≤ 1048576) (a : List Int) (ha : a.length ≤ 1048576) : ∀ d i, i + d = a.length →
    Ev (fun k => spec_l8Arrivals.l0 k a (i : Int) l) (arrs l (a.take i) (a.drop i) && decide ((a.length : Int) ≤ 5)) := by
  intro d
  induction d with
  | zero =>
    intro i hi
    refine Ev.step (fun k => by simp only [spec_l8Arrivals.l0]; rfl) ?_
    refine ev_neg (by omega) (ev_const ?_)
    rw [List.drop_of_length_le (by omega)]; rfl
  | succ d ih =>
    intro i hi
    have hlt : i < a.length := by omega
    refine Ev.step (fun k => by simp only [spec_l8Arrivals.l0]; rfl) ?_
    refine ev_pos (by omega) (ev_pos (by omega) ?_)
    rw [rd_at a i hlt, wsucc hlt (by omega), List.drop_eq_getElem_cons hlt]
    unfold arrs
    refine Ev.bind (find_spec l _ hn hx) ?_
    have hf := findR_in a[i] l 0
    cases h1 : inYard l a[i]
    · rw [h1] at hf
      refine ev_neg (of_decide_eq_false hf) (ev_call (in_spec _ _ _) ?_)
      cases h2 : inr a[i] 1 99
      · exact ev_neg (by simp) (ev_const rfl)
      · refine ev_pos rfl (ev_pos (by omega) ?_)
        have hh := has_ev (a.take i) a[i] (by rw [List.length_take]; omega)
        rw [Int.toNat_natCast]
        refine Ev.bind hh ?_
        have hi2 := ih (i + 1) (by omega)
        rw [List.take_succ_eq_append_getElem hlt] at hi2
        cases h3 : (a.take i).contains a[i]
        · exact ev_neg (by simp) hi2
        · exact ev_pos rfl (ev_const rfl)
    · rw [h1] at hf
      refine ev_eq (ev_pos (of_decide_eq_true hf) (ev_const rfl)) (by simp)
theorem asked_spec (l : List (List Int)) (hn : l.length ≤ 1048576) (hx : ∀ x, x ∈ l → x.length ≤ 1048576) (a : List Int) (ha : a.length ≤ 1048576) :
    Ev (fun k => spec_l8Asked.f k l a) (okYard l && (arrs l [] a && decide ((a.length : Int) ≤ 5))) := by
  unfold spec_l8Asked.f
  refine Ev.bind (good_spec l hn hx) ?_
  cases okYard l
  · exact ev_neg (by simp) (ev_const rfl)
  · refine ev_pos rfl (Ev.bind (a := arrs l [] a && decide ((a.length : Int) ≤ 5)) ?_ (ev_const rfl))
    unfold spec_l8Arrivals.f
    exact arr_spec l hn hx a ha a.length 0 (by omega)
theorem within_impl (a b c : Int) : impl_within.f a b c = some (inr a b c) := by
  unfold impl_within.f inr
  by_cases h : b ≤ a <;> simp [h]
theorem arr_impl (l : List (List Int)) (hn : l.length ≤ 1048576) (hx : ∀ x, x ∈ l → x.length ≤ 1048576) (a : List Int) (ha : a.length ≤ 1048576) : ∀ d i, i + d = a.length →
    Ev (fun k => impl_areArrivals.l0 k a a (a.length : Int) (i : Int) l) (arrs l (a.take i) (a.drop i)) := by
  intro d
  induction d with
  | zero =>
    intro i hi
    refine Ev.step (fun k => by simp only [impl_areArrivals.l0]; rfl) ?_
    refine ev_neg (by omega) (ev_const ?_)
    rw [List.drop_of_length_le (by omega)]; rfl
  | succ d ih =>
    intro i hi
    have hlt : i < a.length := by omega
    refine Ev.step (fun k => by simp only [impl_areArrivals.l0]; rfl) ?_
    refine ev_pos (by omega) (ev_pos (by omega) (ev_pos (by omega) ?_))
    rw [rd_at a i hlt, wsucc hlt (by omega), List.drop_eq_getElem_cons hlt]
    unfold arrs
    refine Ev.bind (place_impl l _ hn hx) (ev_call (within_impl _ _ _) ?_)
    have hf := findR_in a[i] l 0
    cases h2 : inr a[i] 1 99
    · exact ev_neg (by simp) (ev_const rfl)
    refine ev_pos rfl ?_
    cases h1 : inYard l a[i]
    · rw [h1] at hf
      refine ev_neg (of_decide_eq_false hf) (ev_pos (by omega) ?_)
      have hh := contains_impl (a.take i) a[i] (by rw [List.length_take]; omega)
      rw [Int.toNat_natCast]
      refine Ev.bind hh ?_
      have hi2 := ih (i + 1) (by omega)
      rw [List.take_succ_eq_append_getElem hlt] at hi2
      cases h3 : (a.take i).contains a[i]
      · exact ev_neg (by simp) hi2
      · exact ev_pos rfl (ev_const rfl)
    · rw [h1] at hf
      refine ev_eq (ev_pos (of_decide_eq_true hf) (ev_const rfl)) (by simp)
theorem asked_impl (l : List (List Int)) (hn : l.length ≤ 1048576) (hx : ∀ x, x ∈ l → x.length ≤ 1048576) (a : List Int) (ha : a.length ≤ 1048576) :
    Ev (fun k => impl_areArrivals.f k l a) (okYard l && (arrs l [] a && decide ((a.length : Int) ≤ 5))) := by
  unfold impl_areArrivals.f
  refine ev_call (show impl_IsValidYard.f l = some (okYard l) from rfl) ?_
  cases okYard l
  · refine ev_neg (by simp) (Ev.step (fun k => by simp only [impl_areArrivals.j0]; rfl) ?_)
    exact ev_pos (by simp) (ev_const rfl)
  · refine ev_pos rfl (Ev.step (fun k => by simp only [impl_areArrivals.j0]; rfl) ?_)
    by_cases h : (a.length : Int) > 5
    · refine ev_eq (ev_pos (by simpa using h) (ev_const rfl)) ?_
      rw [decide_eq_false (by omega)]; simp
    · refine ev_eq (ev_neg (by simpa using h) (arr_impl l hn hx a ha a.length 0 (by omega))) ?_
      rw [decide_eq_true (by omega)]; simp
end Go.Proofs.Ytchjkaondonldaa.UY
namespace Go.Proofs.Ytchjkaondonldaa.UY
open Go.RowKit Go.Proofs.YtchjkaondonldaaW.PrintWords Go.Proofs.YtchjkaondonldaaW.PrintMore Go.Proofs.Ytchjkaondonldaa.P Go.Proofs.Ytchjkaondonldaa.U Go.Proofs.Ytchjkaondonldaa.UT
set_option linter.unusedVariables false

/-! The choice. -/
def upF (l : List (List Int)) (n : Int) (b : Int) (i : Nat) : Int := if ((rd_L1 l i).length : Int) < 4 ∧ earl (rd_L1 l i) > n ∧ (b < 0 ∨ earl (rd_L1 l i) < earl (rd_L1 l b)) then i else b
def upL (l : List (List Int)) (b : Int) (i : Nat) : Int := if ((rd_L1 l i).length : Int) < 4 ∧ (b < 0 ∨ earl (rd_L1 l i) > earl (rd_L1 l b)) then i else b
def chF (l : List (List Int)) (n : Int) : Nat → Nat → Int → Int
  | 0, _, b => b
  | d + 1, i, b => chF l n d (i + 1) (upF l n b i)
def chL (l : List (List Int)) : Nat → Nat → Int → Int
  | 0, _, b => b
  | d + 1, i, b => chL l d (i + 1) (upL l b i)
def chose (l : List (List Int)) (n : Int) : Int := if chF l n l.length 0 (-1) ≥ 0 then chF l n l.length 0 (-1) else chL l l.length 0 (-1)
theorem upF_lt {l : List (List Int)} {n b : Int} {i : Nat} (hi : i < l.length) (hb : b < (l.length : Int)) : upF l n b i < (l.length : Int) := by
  unfold upF; split <;> omega
theorem upL_lt {l : List (List Int)} {b : Int} {i : Nat} (hi : i < l.length) (hb : b < (l.length : Int)) : upL l b i < (l.length : Int) := by
  unfold upL; split <;> omega
theorem chL_lt {l : List (List Int)} : ∀ d i (b : Int), i + d = l.length → b < (l.length : Int) → chL l d i b < (l.length : Int)
  | 0, _, _, _, hb => hb
  | d + 1, i, b, hi, hb => chL_lt d (i + 1) _ (by omega) (upL_lt (by omega) hb)

theorem choose_impl1 {l : List (List Int)} (h : fine l) (hn : l.length ≤ 1048576) : ∀ d i (b : Int), i + d = l.length → b < (l.length : Int) →
    Ev (fun k => impl_chooseStack.l1 k b l (l.length : Int) (i : Int) l) (chL l d i b) := by
  intro d
  induction d with
  | zero =>
    intro i b hi hb
    refine Ev.step (fun k => by simp only [impl_chooseStack.l1]; rfl) ?_
    exact ev_neg (by omega) (ev_const rfl)
  | succ d ih =>
    intro i b hi hb
    have hlt : i < l.length := by omega
    refine Ev.step (fun k => by simp only [impl_chooseStack.l1]; rfl) ?_
    refine ev_pos (by omega) (ev_pos (by omega) (ev_pos (by omega) ?_))
    rw [wsucc hlt (by omega)]
    have ei := earl_at h (s := (i : Int)) (by omega) (by omega)
    have hi2 := fun b hb => ih (i + 1) b (by omega) hb
    unfold chL
    have hu := hi2 (upL l b i) (upL_lt hlt hb)
    by_cases h1 : ((rd_L1 l i).length : Int) < 4
    · refine ev_pos h1 ?_
      by_cases h2 : b < 0
      · refine ev_pos h2 ?_
        rw [show upL l b i = (i : Int) from if_pos ⟨h1, Or.inl h2⟩] at hu ⊢
        exact hu
      · refine ev_neg h2 (ev_call ei.1 (ev_pos (by omega) (ev_pos (by omega) (ev_call (earl_at h (s := b) (by omega) (by omega)).1 ?_))))
        by_cases h3 : earl (rd_L1 l i) > earl (rd_L1 l b)
        · rw [show upL l b i = (i : Int) from if_pos ⟨h1, Or.inr h3⟩] at hu ⊢
          exact ev_pos h3 hu
        · rw [show upL l b i = b from if_neg (fun hh => hh.2.elim h2 h3)] at hu ⊢
          exact ev_neg h3 hu
    · rw [show upL l b i = b from if_neg (fun hh => h1 hh.1)] at hu ⊢
      exact ev_neg h1 hu
theorem choose_impl0 {l : List (List Int)} (h : fine l) (hn : l.length ≤ 1048576) (n : Int) : ∀ d i (b : Int), i + d = l.length → b < (l.length : Int) →
    Ev (fun k => impl_chooseStack.l0 k n b l (l.length : Int) (i : Int) l) (if chF l n d i b ≥ 0 then chF l n d i b else chL l l.length 0 (chF l n d i b)) := by
  intro d
  induction d with
  | zero =>
    intro i b hi hb
    refine Ev.step (fun k => by simp only [impl_chooseStack.l0]; rfl) ?_
    refine ev_neg (by omega) ?_
    unfold chF
    by_cases h1 : b ≥ 0
    · rw [if_pos h1]; exact ev_pos h1 (ev_const rfl)
    · rw [if_neg h1]; exact ev_neg h1 (choose_impl1 h hn l.length 0 b (by omega) hb)
  | succ d ih =>
    intro i b hi hb
    have hlt : i < l.length := by omega
    refine Ev.step (fun k => by simp only [impl_chooseStack.l0]; rfl) ?_
    refine ev_pos (by omega) (ev_pos (by omega) (ev_pos (by omega) ?_))
    rw [wsucc hlt (by omega)]
    have ei := earl_at h (s := (i : Int)) (by omega) (by omega)
    unfold chF
    have hu := ih (i + 1) (upF l n b i) (by omega) (upF_lt hlt hb)
    refine ev_call ei.1 ?_
    by_cases h1 : ((rd_L1 l i).length : Int) < 4
    · refine ev_pos h1 ?_
      by_cases h4 : earl (rd_L1 l i) > n
      · refine ev_pos h4 ?_
        by_cases h2 : b < 0
        · refine ev_pos h2 ?_
          rw [show upF l n b i = (i : Int) from if_pos ⟨h1, h4, Or.inl h2⟩] at hu ⊢
          exact hu
        · refine ev_neg h2 (ev_pos (by omega) (ev_pos (by omega) (ev_call (earl_at h (s := b) (by omega) (by omega)).1 ?_)))
          by_cases h3 : earl (rd_L1 l i) < earl (rd_L1 l b)
          · rw [show upF l n b i = (i : Int) from if_pos ⟨h1, h4, Or.inr h3⟩] at hu ⊢
            exact ev_pos h3 hu
          · rw [show upF l n b i = b from if_neg (fun hh => hh.2.2.elim h2 h3)] at hu ⊢
            exact ev_neg h3 hu
      · rw [show upF l n b i = b from if_neg (fun hh => h4 hh.2.1)] at hu ⊢
        exact ev_neg h4 hu
    · rw [show upF l n b i = b from if_neg (fun hh => h1 hh.1)] at hu ⊢
      exact ev_neg h1 hu
theorem chL_neg (l : List (List Int)) : ∀ d i (b c : Int), b < 0 → c < 0 → chL l d i b = chL l d i c ∨ (chL l d i b < 0 ∧ chL l d i c < 0)
  | 0, _, _, _, hb, hc => Or.inr ⟨hb, hc⟩
  | d + 1, i, b, c, hb, hc => by
    unfold chL
    by_cases h : ((rd_L1 l i).length : Int) < 4
    · rw [show upL l b i = (i : Int) from if_pos ⟨h, Or.inl hb⟩, show upL l c i = (i : Int) from if_pos ⟨h, Or.inl hc⟩]
      exact Or.inl rfl
    · rw [show upL l b i = b from if_neg (fun hh => h hh.1), show upL l c i = c from if_neg (fun hh => h hh.1)]
      exact chL_neg l d (i + 1) b c hb hc
theorem upF_m1 {l : List (List Int)} {n b : Int} {i : Nat} (hb : b = -1 ∨ 0 ≤ b) : upF l n b i = -1 ∨ 0 ≤ upF l n b i := by
  unfold upF; split
  · exact Or.inr (by omega)
  · exact hb
theorem chF_m1 (l : List (List Int)) (n : Int) : ∀ d i (b : Int), (b = -1 ∨ 0 ≤ b) → chF l n d i b = -1 ∨ 0 ≤ chF l n d i b
  | 0, _, _, hb => hb
  | d + 1, i, b, hb => chF_m1 l n d (i + 1) _ (upF_m1 hb)
theorem choose_impl {l : List (List Int)} (h : fine l) (hn : l.length ≤ 1048576) (n : Int) : Ev (fun k => impl_chooseStack.f k l n) (chose l n) := by
  unfold impl_chooseStack.f chose
  have h1 := choose_impl0 h hn n l.length 0 (-1) (by omega) (by omega)
  rcases chF_m1 l n l.length 0 (-1) (Or.inl rfl) with h2 | h2
  · rw [h2] at h1 ⊢; exact h1
  · rw [if_pos h2] at h1 ⊢; exact h1
theorem choose_spec0 {l : List (List Int)} (h : fine l) (hn : l.length ≤ 1048576) (n : Int) : ∀ d i (b c : Int), i + d = l.length → b < (l.length : Int) → c < (l.length : Int) →
    Ev (fun k => spec_l8Choose.l0 k n b c (i : Int) l) (if chF l n d i b ≥ 0 then chF l n d i b else chL l d i c) := by
  intro d
  induction d with
  | zero =>
    intro i b c hi hb hc
    refine Ev.step (fun k => by simp only [spec_l8Choose.l0]; rfl) ?_
    refine ev_neg (by omega) ?_
    unfold chF chL
    by_cases h1 : b ≥ 0
    · exact ev_eq (ev_pos h1 (ev_const rfl)) (if_pos h1).symm
    · exact ev_eq (ev_neg h1 (ev_const rfl)) (if_neg h1).symm
  | succ d ih =>
    intro i b c hi hb hc
    have hlt : i < l.length := by omega
    refine Ev.step (fun k => by simp only [spec_l8Choose.l0]; rfl) ?_
    refine ev_pos (by omega) (ev_pos (by omega) ?_)
    rw [wsucc hlt (by omega)]
    have ei := earl_at h (s := (i : Int)) (by omega) (by omega)
    unfold chF chL
    have hu := ih (i + 1) (upF l n b i) (upL l c i) (by omega) (upF_lt hlt hb) (upL_lt hlt hc)
    have h5 := (h _ (rdl_mem (s := (i : Int)) (by omega) (by omega))).1
    by_cases h1 : ((rd_L1 l i).length : Int) < 4
    · refine ev_neg (by omega) (Ev.bind ei.2 ?_)
      -- behind the first test: the second
      have tail : ∀ (t : Bool) (b' : Int), (t = true → b' = (i : Int)) → (t = false → b' = b) → upF l n b i = b' → Ev (fun k => spec_l8Choose.j1 k n b c (i : Int) (earl (rd_L1 l i)) t l) (if chF l n d (i + 1) (upF l n b i) ≥ 0 then chF l n d (i + 1) (upF l n b i) else chL l d (i + 1) (upL l c i)) := by
        intro t b' ht hf hb'
        refine Ev.step (fun k => by simp only [spec_l8Choose.j1]; rfl) ?_
        rw [hb'] at hu ⊢
        rw [wsucc hlt (by omega)]
        cases t
        · rw [hf rfl] at hu ⊢
          refine ev_neg (by simp) ?_
          by_cases h2 : c < 0
          · rw [show upL l c i = (i : Int) from if_pos ⟨h1, Or.inl h2⟩] at hu ⊢
            exact ev_pos h2 hu
          · refine ev_neg h2 (ev_pos (by omega) (ev_pos (by omega) (Ev.bind (earl_at h (s := c) (by omega) (by omega)).2 ?_)))
            by_cases h3 : earl (rd_L1 l i) > earl (rd_L1 l c)
            · rw [show upL l c i = (i : Int) from if_pos ⟨h1, Or.inr h3⟩] at hu ⊢
              exact ev_pos h3 hu
            · rw [show upL l c i = c from if_neg (fun hh => hh.2.elim h2 h3)] at hu ⊢
              exact ev_neg h3 hu
        · rw [ht rfl] at hu ⊢
          refine ev_pos rfl ?_
          by_cases h2 : c < 0
          · rw [show upL l c i = (i : Int) from if_pos ⟨h1, Or.inl h2⟩] at hu ⊢
            exact ev_pos h2 hu
          · refine ev_neg h2 (ev_pos (by omega) (ev_pos (by omega) (Ev.bind (earl_at h (s := c) (by omega) (by omega)).2 ?_)))
            by_cases h3 : earl (rd_L1 l i) > earl (rd_L1 l c)
            · rw [show upL l c i = (i : Int) from if_pos ⟨h1, Or.inr h3⟩] at hu ⊢
              exact ev_pos h3 hu
            · rw [show upL l c i = c from if_neg (fun hh => hh.2.elim h2 h3)] at hu ⊢
              exact ev_neg h3 hu
      by_cases h4 : earl (rd_L1 l i) > n
      · refine ev_pos h4 ?_
        by_cases h2 : b < 0
        · exact ev_pos h2 (tail true i (fun _ => rfl) (fun h => by cases h) (if_pos ⟨h1, h4, Or.inl h2⟩))
        · refine ev_neg h2 (ev_pos (by omega) (ev_pos (by omega) (Ev.bind (earl_at h (s := b) (by omega) (by omega)).2 ?_)))
          by_cases h3 : earl (rd_L1 l i) < earl (rd_L1 l b)
          · exact tail _ i (fun _ => rfl) (fun h => by rw [decide_eq_true h3] at h; cases h) (if_pos ⟨h1, h4, Or.inr h3⟩)
          · exact tail _ b (fun h => absurd (of_decide_eq_true h) h3) (fun _ => rfl) (if_neg (fun hh => hh.2.2.elim h2 h3))
      · exact ev_neg h4 (tail false b (fun h => by cases h) (fun _ => rfl) (if_neg (fun hh => h4 hh.2.1)))
    · rw [show upF l n b i = b from if_neg (fun hh => h1 hh.1), show upL l c i = c from if_neg (fun hh => h1 hh.1)] at hu ⊢
      exact ev_pos (by omega) hu
theorem choose_spec {l : List (List Int)} (h : fine l) (hn : l.length ≤ 1048576) (n : Int) : Ev (fun k => spec_l8Choose.f k l n) (chose l n) := by
  unfold spec_l8Choose.f chose
  exact choose_spec0 h hn n l.length 0 (-1) (-1) (by omega) (by omega) (by omega)
end Go.Proofs.Ytchjkaondonldaa.UY
namespace Go.Proofs.Ytchjkaondonldaa.UY
open Go.RowKit Go.Proofs.YtchjkaondonldaaW.PrintWords Go.Proofs.YtchjkaondonldaaW.PrintMore Go.Proofs.Ytchjkaondonldaa.P Go.Proofs.Ytchjkaondonldaa.U Go.Proofs.Ytchjkaondonldaa.UT
set_option linter.unusedVariables false

/-! A copy. -/
theorem own1_spec (l : List Int) (hn : l.length ≤ 1048576) : spec_l1Own.f l = some l := by
  unfold spec_l1Own.f
  show (if ([] : List Int).length + l.length < 17592186044416 then some ([] ++ l) else none) = some l
  rw [if_pos (by simp; omega)]; rfl
theorem own1_impl (l : List Int) (hn : l.length ≤ 1048576) : slices_Clone_int_int.f l = some l := by
  unfold slices_Clone_int_int.f
  rw [if_pos (by omega)]
theorem own_spec_l (l : List (List Int)) (hn : l.length ≤ 1048576) (hx : ∀ x, x ∈ l → x.length ≤ 1048576) : ∀ d i, i + d = l.length → Ev (fun k => spec_l5Own.l0 k (i : Int) l (l.take i)) l := by
  intro d
  induction d with
  | zero =>
    intro i hi
    refine Ev.step (fun k => by simp only [spec_l5Own.l0]; rfl) (ev_neg (by omega) (ev_const ?_))
    rw [List.take_of_length_le (by omega)]
  | succ d ih =>
    intro i hi
    have hlt : i < l.length := by omega
    refine Ev.step (fun k => by simp only [spec_l5Own.l0]; rfl) (ev_pos (by omega) (ev_pos (by omega) ?_))
    rw [rd_l1 l i hlt, wsucc hlt (by omega)]
    refine ev_call (own1_spec _ (hx _ (List.getElem_mem hlt))) (ev_pos (by rw [List.length_take]; omega) ?_)
    have h := ih (i + 1) (by omega)
    rw [List.take_succ_eq_append_getElem hlt] at h
    exact h
theorem own_spec (l : List (List Int)) (hn : l.length ≤ 1048576) (hx : ∀ x, x ∈ l → x.length ≤ 1048576) : Ev (fun k => spec_l5Own.f k l) l := by
  unfold spec_l5Own.f
  exact own_spec_l l hn hx l.length 0 (by omega)
theorem own_impl_l (l : List (List Int)) (hn : l.length ≤ 1048576) (hx : ∀ x, x ∈ l → x.length ≤ 1048576) : ∀ d i, i + d = l.length → Ev (fun k => impl_ownYard.l0 k l (l.length : Int) (i : Int) (l.take i)) l := by
  intro d
  induction d with
  | zero =>
    intro i hi
    refine Ev.step (fun k => by simp only [impl_ownYard.l0]; rfl) (ev_neg (by omega) (ev_const ?_))
    rw [List.take_of_length_le (by omega)]
  | succ d ih =>
    intro i hi
    have hlt : i < l.length := by omega
    refine Ev.step (fun k => by simp only [impl_ownYard.l0]; rfl) (ev_pos (by omega) (ev_pos (by omega) (ev_pos (by omega) ?_)))
    rw [rd_l1 l i hlt, wsucc hlt (by omega)]
    refine ev_call (own1_impl _ (hx _ (List.getElem_mem hlt))) (ev_pos (by rw [List.length_take]; omega) ?_)
    have h := ih (i + 1) (by omega)
    rw [List.take_succ_eq_append_getElem hlt] at h
    exact h
theorem own_impl (l : List (List Int)) (hn : l.length ≤ 1048576) (hx : ∀ x, x ∈ l → x.length ≤ 1048576) : Ev (fun k => impl_ownYard.f k l) l := by
  unfold impl_ownYard.f
  exact own_impl_l l hn hx l.length 0 (by omega)

/-! One number more on a stack. -/
def push (l : List (List Int)) (s n : Int) : List (List Int) := l.set s.toNat (rd_L1 l s ++ [n])
theorem push_len (l : List (List Int)) (s n : Int) : (push l s n).length = l.length := by simp [push]
theorem push_mem {l : List (List Int)} {s n : Int} {x : List Int} (h : x ∈ push l s n) : x ∈ l ∨ x = rd_L1 l s ++ [n] := List.mem_or_eq_of_mem_set h
theorem push_rows {l : List (List Int)} {s n : Int} {c : Nat} (h : ∀ x, x ∈ l → x.length ≤ c) (h0 : 0 ≤ s) (h1 : s < (l.length : Int)) : ∀ x, x ∈ push l s n → x.length ≤ c + 1 := by
  intro x hx
  rcases push_mem hx with h2 | rfl
  · exact Nat.le_succ_of_le (h x h2)
  · rw [List.length_append, List.length_singleton]
    exact Nat.succ_le_succ (h _ (rdl_mem h0 h1))
end Go.Proofs.Ytchjkaondonldaa.UY
namespace Go.Proofs.Ytchjkaondonldaa.UK
open Go.RowKit Go.Proofs.YtchjkaondonldaaW.PrintWords Go.Proofs.YtchjkaondonldaaW.PrintMore Go.Proofs.Ytchjkaondonldaa.P Go.Proofs.Ytchjkaondonldaa.U Go.Proofs.Ytchjkaondonldaa.UT
set_option linter.unusedVariables false

/-! What holds from some number of rounds on. -/
def EvP (P : Nat → Prop) : Prop := ∃ K, ∀ k, K ≤ k → P k
theorem EvP.rounds {P : Nat → Prop} (h : EvP P) : ∃ k, P k := by
  obtain ⟨K, h⟩ := h
  exact ⟨K, h K (Nat.le_refl _)⟩
theorem EvP.tr : EvP fun _ => True := ⟨0, fun _ _ => trivial⟩
theorem EvP.bind {α : Type} {g : Nat → Option α} {r : α} {Q : Nat → α → Prop} (h : Ev g r) (hq : EvP fun k => Q k r) : EvP fun k => ∃ t, g k = some t ∧ Q k t := by
  obtain ⟨K, h⟩ := h
  obtain ⟨K', h'⟩ := hq
  exact ⟨max K K', fun k hk => ⟨r, h k (by omega), h' k (by omega)⟩⟩
theorem EvP.bind2 {α β : Type} {g : Nat → Option (α × β)} {r : α} {s : β} {Q : Nat → α → β → Prop} (h : Ev g (r, s)) (hq : EvP fun k => Q k r s) : EvP fun k => ∃ t u, g k = some (t, u) ∧ Q k t u := by
  obtain ⟨K, h⟩ := h
  obtain ⟨K', h'⟩ := hq
  exact ⟨max K K', fun k hk => ⟨r, s, h k (by omega), h' k (by omega)⟩⟩
theorem EvP.bind3 {α β γ : Type} {g : Nat → Option (α × β × γ)} {r : α} {s : β} {v : γ} {Q : Nat → α → β → γ → Prop} (h : Ev g (r, s, v)) (hq : EvP fun k => Q k r s v) : EvP fun k => ∃ t u x, g k = some (t, u, x) ∧ Q k t u x := by
  obtain ⟨K, h⟩ := h
  obtain ⟨K', h'⟩ := hq
  exact ⟨max K K', fun k hk => ⟨r, s, v, h k (by omega), h' k (by omega)⟩⟩
theorem EvP.out {c : Prop} {Q : Nat → Prop} (h : c) : EvP fun k => c ∨ Q k := ⟨0, fun _ _ => Or.inl h⟩
theorem EvP.on {c : Prop} {Q : Nat → Prop} (h : ¬ c) (hq : EvP Q) : EvP fun k => c ∨ ¬ c ∧ Q k := by
  obtain ⟨K, hq⟩ := hq
  exact ⟨K, fun k hk => Or.inr ⟨h, hq k hk⟩⟩
theorem EvP.no {c : Prop} {Q : Nat → Prop} (h : ¬ c) (hq : EvP Q) : EvP fun k => ¬ c ∧ Q k := by
  obtain ⟨K, hq⟩ := hq
  exact ⟨K, fun k hk => ⟨h, hq k hk⟩⟩
theorem EvP.yes {c : Prop} {Q : Nat → Prop} (h : c) (hq : EvP Q) : EvP fun k => c ∧ Q k := by
  obtain ⟨K, hq⟩ := hq
  exact ⟨K, fun k hk => ⟨h, hq k hk⟩⟩

/-! Lists of numbers. -/
def mk1 (m : Nat) (n : Int) : List Int := (List.range m).map fun j : Nat => n + (j : Int)
theorem mk1_length (m : Nat) (n : Int) : (mk1 m n).length = m := by simp [mk1]
theorem mk1_get (m : Nat) (n : Int) (i : Nat) (h : i < (mk1 m n).length) : (mk1 m n)[i] = n + i := by simp [mk1]
theorem mark1_l (n : Int) (hn : 0 ≤ n ∧ n ≤ 4398046511104) (m : Nat) (hm : m ≤ 1048576) : ∀ d i (acc : List Int), i + d = m → acc.length = m → acc.take i = (mk1 m n).take i → Ev (fun k => laws_markIntS.l0 k acc (n + i) (i : Int)) (n + m, mk1 m n) := by
  intro d
  induction d with
  | zero =>
    intro i acc hi ha ht
    refine Ev.step (fun k => by simp only [laws_markIntS.l0]; rfl) (ev_neg (by omega) (ev_const ?_))
    rw [List.take_of_length_le (by omega), List.take_of_length_le (by rw [mk1_length]; omega)] at ht
    rw [ht, show i = m by omega]
  | succ d ih =>
    intro i acc hi ha ht
    have hlt : i < acc.length := by omega
    refine Ev.step (fun k => by simp only [laws_markIntS.l0]; rfl) ?_
    refine ev_pos (by omega) (ev_pos (by omega) ?_)
    rw [wsucc (n := m) (by omega) (by omega), Int.toNat_natCast, wr (x := n + (i : Int) + 1) (by omega) (by omega)]
    rw [show n + (i : Int) + 1 = n + ((i + 1 : Nat) : Int) by omega]
    refine ih (i + 1) _ (by omega) (by rw [List.length_set]; exact ha) ?_
    rw [fill_step ht hlt, List.take_succ_eq_append_getElem (show i < (mk1 m n).length by rw [mk1_length]; omega), mk1_get]
theorem mark1 (l : List Int) (n : Int) (hn : 0 ≤ n ∧ n ≤ 4398046511104) (hm : l.length ≤ 1048576) : Ev (fun k => laws_markIntS.f k l n) (n + (l.length : Int), mk1 l.length n) := by
  unfold laws_markIntS.f
  have h := mark1_l n hn l.length hm l.length 0 l (by omega) rfl (by simp)
  rw [show n + ((0 : Nat) : Int) = n by omega] at h
  exact h
theorem held1_l (n : Int) (hn : 0 ≤ n ∧ n ≤ 4398046511104) (m : Nat) (hm : m ≤ 1048576) : ∀ d i, i + d = m → Ev (fun k => laws_heldIntS.l0 k (mk1 m n) (n + i) (i : Int)) (n + m) := by
  intro d
  induction d with
  | zero =>
    intro i hi
    refine Ev.step (fun k => by simp only [laws_heldIntS.l0]; rfl) (ev_neg (by rw [mk1_length]; omega) (ev_const ?_))
    rw [show i = m by omega]
  | succ d ih =>
    intro i hi
    have hlt : i < (mk1 m n).length := by rw [mk1_length]; omega
    refine Ev.step (fun k => by simp only [laws_heldIntS.l0]; rfl) (ev_pos (by omega) (ev_pos (by omega) ?_))
    rw [wsucc (n := m) (by omega) (by omega), wr (x := n + (i : Int) + 1) (by omega) (by omega), rd_at _ i hlt, mk1_get]
    refine ev_pos rfl ?_
    rw [show n + (i : Int) + 1 = n + ((i + 1 : Nat) : Int) by omega]
    exact ih (i + 1) (by omega)
theorem held1 (m : Nat) (n : Int) (hn : 0 ≤ n ∧ n ≤ 4398046511104) (hm : m ≤ 1048576) : Ev (fun k => laws_heldIntS.f k (mk1 m n) n) (n + (m : Int)) := by
  unfold laws_heldIntS.f
  have h := held1_l n hn m hm m 0 (by omega)
  rw [show n + ((0 : Nat) : Int) = n by omega] at h
  exact h

/-! Rows of numbers. -/
def sumL : List (List Int) → Int
  | [] => 0
  | r :: l => (r.length : Int) + sumL l
def mk2 : List (List Int) → Int → List (List Int)
  | [], _ => []
  | r :: l, n => mk1 r.length n :: mk2 l (n + r.length)
theorem mk2_length : ∀ (l : List (List Int)) (n : Int), (mk2 l n).length = l.length
  | [], _ => rfl
  | _ :: l, n => by simp [mk2, mk2_length l]
theorem sumL_cons (r : List Int) (l : List (List Int)) : sumL (r :: l) = (r.length : Int) + sumL l := rfl
theorem mk2_cons (r : List Int) (l : List (List Int)) (n : Int) : mk2 (r :: l) n = mk1 r.length n :: mk2 l (n + r.length) := rfl
theorem sumL_pos : ∀ (l : List (List Int)), 0 ≤ sumL l
  | [] => Int.le_refl 0
  | r :: l => by have := sumL_pos l; unfold sumL; omega
theorem sumL_le (c : Nat) : ∀ (l : List (List Int)), (∀ x, x ∈ l → x.length ≤ c) → sumL l ≤ (l.length : Int) * (c : Int)
  | [], _ => by simp [sumL]
  | r :: l, h => by
    have h1 := sumL_le c l (fun x hx => h x (List.mem_cons_of_mem _ hx))
    have h2 := h r List.mem_cons_self
    unfold sumL
    rw [List.length_cons, show ((l.length + 1 : Nat) : Int) * (c : Int) = (l.length : Int) * (c : Int) + c by rw [Int.natCast_add, Int.add_mul]; simp]
    omega
theorem set_prefix (pre : List (List Int)) (x y : List Int) (suf : List (List Int)) : (pre ++ x :: suf).set pre.length y = pre ++ y :: suf := by
  simp
theorem getD_prefix (pre : List (List Int)) (x : List Int) (suf : List (List Int)) : (pre ++ x :: suf).getD pre.length [] = x := by
  simp [List.getD]
theorem mark2_l : ∀ (suf pre : List (List Int)) (n : Int), 0 ≤ n → n + sumL suf ≤ 4398046511104 → (pre ++ suf).length ≤ 1048576 → (∀ x, x ∈ suf → x.length ≤ 1048576) →
    Ev (fun k => laws_markIntSS.l0 k (pre ++ suf) n (pre.length : Int)) (n + sumL suf, pre ++ mk2 suf n)
  | [], pre, n, h0, h1, hl, hx => by
    refine Ev.step (fun k => by simp only [laws_markIntSS.l0]; rfl) (ev_neg (by simp) (ev_const ?_))
    simp [sumL, mk2]
  | r :: suf, pre, n, h0, h1, hl, hx => by
    have hr := hx r List.mem_cons_self
    have hp := sumL_pos suf
    rw [sumL_cons] at h1
    have hl2 : pre.length + suf.length + 1 ≤ 1048576 := by simp at hl; omega
    refine Ev.step (fun k => by simp only [laws_markIntSS.l0]; rfl) (ev_pos (by simp; omega) (ev_pos (by omega) ?_))
    rw [Int.toNat_natCast, getD_prefix, wsucc (n := 1048576) (by omega) (by omega)]
    refine Ev.bind (mark1 r n ⟨h0, by omega⟩ hr) ?_
    rw [set_prefix]
    have ih := mark2_l suf (pre ++ [mk1 r.length n]) (n + r.length) (by omega) (by omega) (by simp; omega) (fun x h => hx x (List.mem_cons_of_mem _ h))
    rw [List.length_append, List.length_singleton, List.append_assoc, List.append_assoc] at ih
    refine ev_eq ih ?_
    rw [mk2_cons, sumL_cons]
    simp; omega
theorem mark2 (l : List (List Int)) (n : Int) (h0 : 0 ≤ n) (h1 : n + sumL l ≤ 4398046511104) (hl : l.length ≤ 1048576) (hx : ∀ x, x ∈ l → x.length ≤ 1048576) : Ev (fun k => laws_markIntSS.f k l n) (n + sumL l, mk2 l n) := by
  unfold laws_markIntSS.f
  exact mark2_l l [] n h0 h1 hl hx
theorem held2_l : ∀ (suf : List (List Int)) (pre : List (List Int)) (n : Int), 0 ≤ n → n + sumL suf ≤ 4398046511104 → pre.length + suf.length ≤ 1048576 → (∀ x, x ∈ suf → x.length ≤ 1048576) →
    Ev (fun k => laws_heldIntSS.l0 k (pre ++ mk2 suf n) n (pre.length : Int)) (n + sumL suf)
  | [], pre, n, h0, h1, hl, hx => by
    refine Ev.step (fun k => by simp only [laws_heldIntSS.l0]; rfl) (ev_neg (by simp [mk2]) (ev_const ?_))
    simp [sumL]
  | r :: suf, pre, n, h0, h1, hl, hx => by
    have hr := hx r List.mem_cons_self
    have hp := sumL_pos suf
    rw [sumL_cons] at h1
    rw [List.length_cons] at hl
    refine Ev.step (fun k => by simp only [laws_heldIntSS.l0]; rfl) ?_
    rw [mk2_cons]
    refine (ev_pos (by simp; omega) (ev_pos (by omega) ?_))
    have hg : rd_L1 (pre ++ mk1 r.length n :: mk2 suf (n + r.length)) (pre.length : Int) = mk1 r.length n := by
      rw [rd_l1 _ pre.length (by simp)]; simp
    rw [hg, wsucc (n := 1048576) (by omega) (by omega)]
    refine Ev.bind (held1 r.length n ⟨h0, by omega⟩ hr) (ev_neg (by omega) ?_)
    have ih := held2_l suf (pre ++ [mk1 r.length n]) (n + r.length) (by omega) (by omega) (by simp; omega) (fun x h => hx x (List.mem_cons_of_mem _ h))
    rw [List.length_append, List.length_singleton, List.append_assoc] at ih
    refine ev_eq ih ?_
    rw [sumL_cons]; omega
theorem held2 (l : List (List Int)) (n : Int) (h0 : 0 ≤ n) (h1 : n + sumL l ≤ 4398046511104) (hl : l.length ≤ 1048576) (hx : ∀ x, x ∈ l → x.length ≤ 1048576) : Ev (fun k => laws_heldIntSS.f k (mk2 l n) n) (n + sumL l) := by
  unfold laws_heldIntSS.f
  exact held2_l l [] n h0 h1 (by simp; omega) hx
theorem sumL_big {l : List (List Int)} (hl : l.length ≤ 1048576) (hx : ∀ x, x ∈ l → x.length ≤ 1048576) : sumL l ≤ 1099511627776 := by
  have h := sumL_le 1048576 l hx
  have h2 : (l.length : Int) * ((1048576 : Nat) : Int) ≤ 1048576 * 1048576 := by
    have := Int.mul_le_mul_of_nonneg_right (show (l.length : Int) ≤ 1048576 by omega) (show (0 : Int) ≤ ((1048576 : Nat) : Int) by omega)
    simpa using this
  omega
end Go.Proofs.Ytchjkaondonldaa.UK
namespace Go.Proofs.Ytchjkaondonldaa.UY
open Go.RowKit Go.Proofs.YtchjkaondonldaaW.PrintWords Go.Proofs.YtchjkaondonldaaW.PrintMore Go.Proofs.Ytchjkaondonldaa.P Go.Proofs.Ytchjkaondonldaa.U Go.Proofs.Ytchjkaondonldaa.UT
set_option linter.unusedVariables false

/-! Chosen stacks. -/
def room (l : List (List Int)) (b : Int) : Prop := b < 0 ∨ (b < (l.length : Int) ∧ (rd_L1 l b).length < 4)
theorem upF_room {l : List (List Int)} {n b : Int} {i : Nat} (hi : i < l.length) (hb : room l b) : room l (upF l n b i) := by
  unfold upF
  split
  · rename_i h; exact Or.inr ⟨by omega, by omega⟩
  · exact hb
theorem upL_room {l : List (List Int)} {b : Int} {i : Nat} (hi : i < l.length) (hb : room l b) : room l (upL l b i) := by
  unfold upL
  split
  · rename_i h; exact Or.inr ⟨by omega, by omega⟩
  · exact hb
theorem chF_room {l : List (List Int)} (n : Int) : ∀ d i (b : Int), i + d = l.length → room l b → room l (chF l n d i b)
  | 0, _, _, _, hb => hb
  | d + 1, i, b, hi, hb => chF_room n d (i + 1) _ (by omega) (upF_room (by omega) hb)
theorem chL_room {l : List (List Int)} : ∀ d i (b : Int), i + d = l.length → room l b → room l (chL l d i b)
  | 0, _, _, _, hb => hb
  | d + 1, i, b, hi, hb => chL_room d (i + 1) _ (by omega) (upL_room (by omega) hb)
theorem chose_room (l : List (List Int)) (n : Int) : room l (chose l n) := by
  unfold chose
  split
  · exact chF_room n l.length 0 (-1) (by omega) (Or.inl (by omega))
  · exact chL_room l.length 0 (-1) (by omega) (Or.inl (by omega))
theorem push_fine {l : List (List Int)} {s n : Int} (h : fine l) (h0 : 0 ≤ s) (h1 : s < (l.length : Int)) (h2 : (rd_L1 l s).length < 4) (h3 : n ≤ 99) : fine (push l s n) := by
  intro x hx
  rcases push_mem hx with h4 | rfl
  · exact h x h4
  · refine ⟨by rw [List.length_append, List.length_singleton]; omega, fun m hm => ?_⟩
    rcases List.mem_append.mp hm with h5 | h5
    · exact (h _ (rdl_mem h0 h1)).2 m h5
    · rw [List.mem_singleton.mp h5]; exact h3
def paux (a : List Int) : Nat → Nat → List (List Int) → List Int → List (List Int) × List Int × Bool
  | 0, _, out, ps => (out, ps, true)
  | d + 1, i, out, ps => if chose out (a.getD i 0) < 0 then ([], [], false) else paux a d (i + 1) (push out (chose out (a.getD i 0)) (a.getD i 0)) (ps ++ [chose out (a.getD i 0)])
theorem paux_fine (a : List Int) (h9 : ∀ n, n ∈ a → n ≤ 99) : ∀ d i (out : List (List Int)) (ps : List Int), i + d = a.length → fine out → (paux a d i out ps).1.length ≤ out.length ∧ fine (paux a d i out ps).1 ∧ (paux a d i out ps).2.1.length ≤ ps.length + d
  | 0, _, _, _, _, hf => ⟨Nat.le_refl _, hf, Nat.le_refl _⟩
  | d + 1, i, out, ps, hi, hf => by
    unfold paux
    have hlt : i < a.length := by omega
    rw [getD_at a i 0 hlt]
    split
    · exact ⟨by simp, (fun x hx => by cases hx), by simp⟩
    · rename_i hc
      rcases chose_room out a[i] with h | ⟨h1, h2⟩
      · exact absurd h hc
      · obtain ⟨g1, g2, g3⟩ := paux_fine a h9 d (i + 1) (push out (chose out a[i]) a[i]) (ps ++ [chose out a[i]]) (by omega) (push_fine hf (by omega) h1 h2 (h9 _ (List.getElem_mem hlt)))
        rw [push_len] at g1
        rw [List.length_append, List.length_singleton] at g3
        exact ⟨g1, g2, by omega⟩
theorem pa_spec (a : List Int) (ha : a.length ≤ 5) (h9 : ∀ n, n ∈ a → n ≤ 99) : ∀ d i (out : List (List Int)) (ps : List Int), i + d = a.length → fine out → out.length ≤ 6 → ps.length ≤ i → Ev (fun k => spec_PlaceAll.l0 k a ps (i : Int) out) (paux a d i out ps) := by
  intro d
  induction d with
  | zero =>
    intro i out ps hi hf ho hp
    exact Ev.step (fun k => by simp only [spec_PlaceAll.l0]; rfl) (ev_neg (by omega) (ev_const rfl))
  | succ d ih =>
    intro i out ps hi hf ho hp
    have hlt : i < a.length := by omega
    refine Ev.step (fun k => by simp only [spec_PlaceAll.l0]; rfl) (ev_pos (by omega) (ev_pos (by omega) ?_))
    rw [rd_at a i hlt, wsucc hlt (by omega)]
    refine Ev.bind (choose_spec hf (by omega) a[i]) ?_
    unfold paux
    rw [getD_at a i 0 hlt]
    by_cases hc : chose out a[i] < 0
    · rw [if_pos hc]; exact ev_pos hc (ev_const rfl)
    · rw [if_neg hc]
      rcases chose_room out a[i] with h | ⟨h1, h2⟩
      · exact absurd h hc
      · exact ev_neg hc (ev_pos (by omega) (ev_pos h1 (ev_pos (by omega) (ev_pos (by omega) (ih (i + 1) _ _ (by omega) (push_fine hf (by omega) h1 h2 (h9 _ (List.getElem_mem hlt))) (by rw [List.length_set]; exact ho) (by rw [List.length_append, List.length_singleton]; omega))))))
theorem pa_impl (a : List Int) (ha : a.length ≤ 5) (h9 : ∀ n, n ∈ a → n ≤ 99) : ∀ d i (out : List (List Int)) (ps : List Int), i + d = a.length → fine out → out.length ≤ 6 → ps.length ≤ i → Ev (fun k => impl_PlaceAll.l0 k ps a (a.length : Int) (i : Int) out) (paux a d i out ps) := by
  intro d
  induction d with
  | zero =>
    intro i out ps hi hf ho hp
    exact Ev.step (fun k => by simp only [impl_PlaceAll.l0]; rfl) (ev_neg (by omega) (ev_const rfl))
  | succ d ih =>
    intro i out ps hi hf ho hp
    have hlt : i < a.length := by omega
    refine Ev.step (fun k => by simp only [impl_PlaceAll.l0]; rfl) (ev_pos (by omega) (ev_pos (by omega) (ev_pos (by omega) ?_)))
    rw [rd_at a i hlt, wsucc hlt (by omega)]
    refine Ev.bind (choose_impl hf (by omega) a[i]) ?_
    unfold paux
    rw [getD_at a i 0 hlt]
    by_cases hc : chose out a[i] < 0
    · rw [if_pos hc]; exact ev_pos hc (ev_const rfl)
    · rw [if_neg hc]
      rcases chose_room out a[i] with h | ⟨h1, h2⟩
      · exact absurd h hc
      · exact ev_neg hc (ev_pos (by omega) (ev_pos h1 (ev_pos (by omega) (ev_pos (by omega) (ih (i + 1) _ _ (by omega) (push_fine hf (by omega) h1 h2 (h9 _ (List.getElem_mem hlt))) (by rw [List.length_set]; exact ho) (by rw [List.length_append, List.length_singleton]; omega))))))
theorem arrs_mem (l : List (List Int)) : ∀ (a pre : List Int), arrs l pre a = true → ∀ n, n ∈ a → n ≤ 99
  | [], _, _, n, hn => by cases hn
  | x :: xs, pre, h, n, hn => by
    unfold arrs at h
    simp only [Bool.and_eq_true] at h
    rcases List.mem_cons.mp hn with rfl | hn
    · exact (inr_iff.mp h.1).2
    · exact arrs_mem l xs _ h.2.2.2 n hn
theorem place_same (l : List (List Int)) (hn : l.length ≤ 1048576) (hx : ∀ x, x ∈ l → x.length ≤ 1048576) (a : List Int) (ha : a.length ≤ 1048576) :
    ∃ (r : List (List Int)) (q : List Int) (b : Bool), Ev (fun k => spec_PlaceAll.f k l a) (r, q, b) ∧ Ev (fun k => impl_PlaceAll.f k l a) (r, q, b) ∧ r.length ≤ 1048576 ∧ (∀ x, x ∈ r → x.length ≤ 1048576) ∧ q.length ≤ 1048576 := by
  unfold spec_PlaceAll.f impl_PlaceAll.f
  have h1 := asked_spec l hn hx a ha
  have h2 := asked_impl l hn hx a ha
  cases h : (okYard l && (arrs l [] a && decide ((a.length : Int) ≤ 5)))
  · rw [h] at h1 h2
    exact ⟨[], [], false, Ev.bind h1 (ev_neg (by simp) (ev_const rfl)), Ev.bind h2 (ev_neg (by simp) (ev_const rfl)), by simp, (fun x hx => by cases hx), by simp⟩
  rw [h] at h1 h2
  obtain ⟨hy, hh⟩ := Bool.and_eq_true_iff.mp h
  obtain ⟨hr, h5⟩ := Bool.and_eq_true_iff.mp hh
  have ha5 : a.length ≤ 5 := by have := of_decide_eq_true h5; omega
  have hl6 := (okYard_mem hy).1.2
  have h9 := arrs_mem l a [] hr
  obtain ⟨g1, g2, g3⟩ := paux_fine a h9 a.length 0 l [] (by omega) (fine_ok hy)
  rw [List.length_nil] at g3
  exact ⟨(paux a a.length 0 l []).1, (paux a a.length 0 l []).2.1, (paux a a.length 0 l []).2.2, Ev.bind h1 (ev_pos rfl (Ev.bind (own_spec l hn hx) (pa_spec a ha5 h9 a.length 0 l [] (by omega) (fine_ok hy) hl6 (by simp)))), Ev.bind h2 (ev_pos rfl (Ev.bind (own_impl l hn hx) (pa_impl a ha5 h9 a.length 0 l [] (by omega) (fine_ok hy) hl6 (by simp)))), by omega, (fun x hx => by have := (g2 x hx).1; omega), by omega⟩
end Go.Proofs.Ytchjkaondonldaa.UY
