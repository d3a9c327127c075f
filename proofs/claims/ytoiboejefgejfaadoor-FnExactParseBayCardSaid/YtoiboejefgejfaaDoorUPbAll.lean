/- UTabP, UBayP, UBayM, UBText0, UMark, UMarkH, UMark2, UPbA, UPbB, UPbC, UPbD, as one text. -/
import Derived.Test.YtoiboejefgejfaaDoorPx0
import Derived.Test.YtoiboejefgejfaaDoorPx1
import Derived.Test.YtoiboejefgejfaaDoorPx15
import Derived.Test.YtoiboejefgejfaaDoorPx16
import Derived.Test.YtoiboejefgejfaaDoorPx17
import Derived.Test.YtoiboejefgejfaaDoorPx19
import Derived.Test.YtoiboejefgejfaaDoorPx2
import Derived.Test.YtoiboejefgejfaaDoorPx20
import Derived.Test.YtoiboejefgejfaaDoorPx21
import Derived.Test.YtoiboejefgejfaaDoorPx22
import Derived.Test.YtoiboejefgejfaaDoorPx24
import Derived.Test.YtoiboejefgejfaaDoorPx3
import Derived.Test.YtoiboejefgejfaaDoorPx8
import Derived.Test.YtoiboejefgejfaaDoorPx9
import Derived.Test.YtoiboejefgejfaaDoorU
namespace Go.Proofs.YtoiboejefgejfaaDoor.UT
open Go.RowKit Go.Proofs.YtoiboejefgejfaaDoorW.PrintWords Go.Proofs.YtoiboejefgejfaaDoorW.PrintMore Go.Proofs.YtoiboejefgejfaaDoor.P Go.Proofs.YtoiboejefgejfaaDoor.U
set_option linter.unusedVariables false

theorem rd_l1 (l : List (List Int)) (i : Nat) (h : i < l.length) : rd_L2 l (i : Int) = l[i] := by
  unfold rd_L2
  rw [Int.toNat_natCast]
  exact getD_at l i _ h

theorem eq1_l (l : List Int) (hn : l.length ≤ 9223372036854775807) : ∀ d i, i + d = l.length → Ev (fun k => laws_eqIntS.l0 k l l (i : Int)) true := by
  intro d
  induction d with
  | zero => intro i hi; exact Ev.step (fun k => by simp only [laws_eqIntS.l0]; rfl) (ev_neg (by omega) (ev_const rfl))
  | succ d ih =>
    intro i hi
    refine Ev.step (fun k => by simp only [laws_eqIntS.l0]; rfl) ?_
    refine ev_pos (by omega) (ev_pos (by omega) (ev_pos (by omega) (ev_pos (by simp) ?_)))
    rw [wsucc (show i < l.length by omega) (by omega)]
    exact ih (i + 1) (by omega)
theorem eq1 (l : List Int) (hn : l.length ≤ 9223372036854775807) : Ev (fun k => laws_eqIntS.f k l l) true := by
  unfold laws_eqIntS.f
  exact ev_pos rfl (eq1_l l hn l.length 0 (by omega))
theorem eq_l (l : List (List Int)) (hn : l.length ≤ 9223372036854775807) (hx : ∀ x, x ∈ l → x.length ≤ 9223372036854775807) : ∀ d i, i + d = l.length → Ev (fun k => laws_eqIntSS.l0 k l l (i : Int)) true := by
  intro d
  induction d with
  | zero => intro i hi; exact Ev.step (fun k => by simp only [laws_eqIntSS.l0]; rfl) (ev_neg (by omega) (ev_const rfl))
  | succ d ih =>
    intro i hi
    have hlt : i < l.length := by omega
    refine Ev.step (fun k => by simp only [laws_eqIntSS.l0]; rfl) ?_
    refine ev_pos (by omega) (ev_pos (by omega) (ev_pos (by omega) ?_))
    rw [rd_l1 l i hlt]
    refine Ev.bind (eq1 _ (hx _ (List.getElem_mem hlt))) (ev_pos rfl ?_)
    rw [wsucc hlt hn]
    exact ih (i + 1) (by omega)
theorem eq_ev (l : List (List Int)) (hn : l.length ≤ 9223372036854775807) (hx : ∀ x, x ∈ l → x.length ≤ 9223372036854775807) : Ev (fun k => laws_eqIntSS.f k l l) true := by
  unfold laws_eqIntSS.f
  exact ev_pos rfl (eq_l l hn hx l.length 0 (by omega))

theorem in_spec (a b c : Int) : spec_l1In.f a b c = some (inr a b c) := by
  unfold spec_l1In.f inr
  by_cases h : b ≤ a <;> simp [h]
theorem has_l (l : List Int) (v : Int) (hn : l.length ≤ 9223372036854775807) : ∀ d i, i + d = l.length → Ev (fun k => spec_l1Has.l0 k l v (i : Int)) ((l.drop i).contains v) := by
  intro d
  induction d with
  | zero =>
    intro i hi
    refine Ev.step (fun k => by simp only [spec_l1Has.l0]; rfl) (ev_neg (by omega) (ev_const ?_))
    rw [List.drop_of_length_le (by omega)]; rfl
  | succ d ih =>
    intro i hi
    have hlt : i < l.length := by omega
    refine Ev.step (fun k => by simp only [spec_l1Has.l0]; rfl) ?_
    refine ev_pos (by omega) (ev_pos (by omega) ?_)
    rw [rd_at l i hlt, wsucc hlt hn, List.drop_eq_getElem_cons hlt, List.contains_cons]
    by_cases e : l[i] = v
    · exact ev_eq (ev_pos e (ev_const rfl)) (by simp [e])
    · exact ev_eq (ev_neg e (ih (i + 1) (by omega))) (by simp [Ne.symm e])
theorem has_ev (l : List Int) (v : Int) (hn : l.length ≤ 9223372036854775807) : Ev (fun k => spec_l1Has.f k l v) (l.contains v) := by
  unfold spec_l1Has.f
  exact has_l l v hn l.length 0 (by omega)
end Go.Proofs.YtoiboejefgejfaaDoor.UT
namespace Go.Proofs.YtoiboejefgejfaaDoor.UB
open Go.RowKit Go.Proofs.YtoiboejefgejfaaDoorW.PrintWords Go.Proofs.YtoiboejefgejfaaDoorW.PrintMore Go.Proofs.YtoiboejefgejfaaDoor.P Go.Proofs.YtoiboejefgejfaaDoor.U Go.Proofs.YtoiboejefgejfaaDoor.UT
set_option linter.unusedVariables false

theorem eq_bay (h : Int) (l : List (List Int)) (hn : l.length ≤ 9223372036854775807) (hx : ∀ x, x ∈ l → x.length ≤ 9223372036854775807) : Ev (fun k => laws_eqBay.f k h l h l) true := by
  unfold laws_eqBay.f
  exact ev_pos rfl (Ev.bind (eq_ev l hn hx) (ev_pos rfl (ev_const rfl)))

theorem contains_rev (s : List Int) (n : Int) : s.reverse.contains n = s.contains n := by
  rw [Bool.eq_iff_iff]; simp
/-- The reference's loops: what is left of the check. -/
theorem good_l (h : Int) (l : List (List Int)) (hn : l.length ≤ 9223372036854775807) (hx : ∀ x, x ∈ l → x.length ≤ 1048576) : ∀ d i (s : List Int), i + d = l.length → s.length ≤ i * 1048576 → l.length ≤ 1048576 →
    Ev (fun k => spec_l9Good.l0 k s.reverse (i : Int) h l) ((chkRows h (l.drop i) s).isSome) := by
  intro d
  induction d with
  | zero =>
    intro i s hi hs _
    refine Ev.step (fun k => by simp only [spec_l9Good.l0]; rfl) ?_
    refine ev_neg (by omega) (ev_const ?_)
    rw [List.drop_of_length_le (by omega)]; rfl
  | succ d ih =>
    intro i s hi hs hll
    have hlt : i < l.length := by omega
    refine Ev.step (fun k => by simp only [spec_l9Good.l0]; rfl) ?_
    refine ev_pos (by omega) (ev_pos (by omega) ?_)
    rw [rd_l1 l i hlt, List.drop_eq_getElem_cons hlt]
    have hxi := hx _ (List.getElem_mem hlt)
    unfold chkRows
    by_cases hc : (l[i].length : Int) ≤ h
    · rw [if_pos hc]
      refine ev_neg (by omega) ?_
      have inner : ∀ e j (s : List Int), j + e = l[i].length → s.length ≤ i * 1048576 + j → Ev (fun k => spec_l9Good.l1 k s.reverse (i : Int) (j : Int) h l) (((chkRow (l[i].drop j) s).bind (chkRows h (l.drop (i + 1)))).isSome) := by
        intro e
        induction e with
        | zero =>
          intro j s hj hs
          refine Ev.step (fun k => by simp only [spec_l9Good.l1]; rfl) ?_
          refine ev_pos (by omega) (ev_pos (by omega) ?_)
          rw [rd_l1 l i hlt, wsucc hlt hn]
          refine ev_neg (by omega) ?_
          rw [List.drop_of_length_le (by omega)]
          exact ih (i + 1) s (by omega) (by omega) hll
        | succ e ihe =>
          intro j s hj hs
          have hjt : j < l[i].length := by omega
          refine Ev.step (fun k => by simp only [spec_l9Good.l1]; rfl) ?_
          refine ev_pos (by omega) (ev_pos (by omega) ?_)
          rw [rd_l1 l i hlt, rd_at _ j hjt, wsucc hjt (by omega), List.drop_eq_getElem_cons hjt]
          refine ev_pos (by omega) (ev_pos (by omega) ?_)
          refine ev_call (in_spec _ _ _) ?_
          cases h1 : inr l[i][j] 1 99
          · exact ev_eq (ev_neg (by simp) (ev_const rfl)) (by rw [chkRow_bad (by rw [h1]; rfl)]; rfl)
          refine ev_pos rfl ?_
          have hh := has_ev s.reverse l[i][j] (by rw [List.length_reverse]; omega)
          rw [contains_rev] at hh
          refine Ev.bind hh ?_
          cases h2 : s.contains l[i][j]
          · refine ev_neg (by simp) (ev_pos (by rw [List.length_reverse]; omega) ?_)
            rw [chkRow_ok (by rw [h1, h2]; rfl)]
            have e2 := ihe (j + 1) (l[i][j] :: s) (by omega) (by rw [List.length_cons]; omega)
            rw [List.reverse_cons] at e2
            exact e2
          · exact ev_eq (ev_pos rfl (ev_const rfl)) (by rw [chkRow_bad (by rw [h1, h2]; rfl)]; rfl)
      exact inner l[i].length 0 s (by omega) (Nat.le_trans hs (Nat.le_add_right _ _))
    · rw [if_neg hc]
      exact ev_pos (by omega) (ev_const rfl)
theorem good_spec (h : Int) (l : List (List Int)) (hn : l.length ≤ 1048576) (hx : ∀ x, x ∈ l → x.length ≤ 1048576) : Ev (fun k => spec_l9Good.f k h l) (okBay h l) := by
  unfold spec_l9Good.f okBay
  refine ev_call (in_spec _ _ _) ?_
  cases h1 : inr h 1 4
  · refine ev_neg (by simp) ?_
    refine Ev.step (fun k => by simp only [spec_l9Good.j0]; rfl) ?_
    exact ev_pos (by simp) (ev_const rfl)
  refine ev_pos rfl (ev_call (in_spec _ _ _) ?_)
  cases h2 : inr (l.length : Int) 1 5
  · refine Ev.step (fun k => by simp only [spec_l9Good.j0]; rfl) ?_
    exact ev_pos (by simp) (ev_const rfl)
  · refine Ev.step (fun k => by simp only [spec_l9Good.j0]; rfl) ?_
    exact ev_neg (by simp) (good_l h l (by omega) hx l.length 0 [] (by omega) (by simp) hn)
end Go.Proofs.YtoiboejefgejfaaDoor.UB
namespace Go.Proofs.YtoiboejefgejfaaDoor.UB
open Go.RowKit Go.Proofs.YtoiboejefgejfaaDoorW.PrintWords Go.Proofs.YtoiboejefgejfaaDoorW.PrintMore Go.Proofs.YtoiboejefgejfaaDoor.P Go.Proofs.YtoiboejefgejfaaDoor.U Go.Proofs.YtoiboejefgejfaaDoor.UT
set_option linter.unusedVariables false

/-! A valid yard. -/
theorem chkRow_mem : ∀ (l s t : List Int), chkRow l s = some t → ∀ n, n ∈ l → inr n 1 99 = true
  | [], _, _, _, n, hn => by cases hn
  | x :: l, s, t, h, n, hn => by
    unfold chkRow at h
    split at h
    · rename_i hc
      rw [Bool.and_eq_true] at hc
      rcases List.mem_cons.mp hn with rfl | hn
      · exact hc.1
      · exact chkRow_mem l _ _ h n hn
    · cases h
theorem chkRows_mem (cap : Int) : ∀ (l : List (List Int)) (s t : List Int), chkRows cap l s = some t → ∀ x, x ∈ l → (x.length : Int) ≤ cap ∧ ∀ n, n ∈ x → inr n 1 99 = true
  | [], _, _, _, x, hx => by cases hx
  | r :: l, s, t, h, x, hx => by
    unfold chkRows at h
    split at h
    · rename_i hc
      cases h1 : chkRow r s with
      | none => rw [h1] at h; cases h
      | some u =>
        rw [h1] at h
        rcases List.mem_cons.mp hx with rfl | hx
        · exact ⟨hc, chkRow_mem _ _ _ h1⟩
        · exact chkRows_mem cap l _ _ h x hx
    · cases h
theorem rdl_mem {l : List (List Int)} {s : Int} (h0 : 0 ≤ s) (h1 : s < (l.length : Int)) : rd_L2 l s ∈ l := by
  obtain ⟨n, rfl⟩ := Int.eq_ofNat_of_zero_le h0
  have h : n < l.length := by omega
  rw [show rd_L2 l (n : Int) = l[n] from rd_l1 l n h]
  exact List.getElem_mem h

theorem okBay_mem {h : Int} {l : List (List Int)} (hb : okBay h l = true) : (1 ≤ l.length ∧ l.length ≤ 5) ∧ ∀ x, x ∈ l → x.length ≤ 4 ∧ ∀ n, n ∈ x → 1 ≤ n ∧ n ≤ 99 := by
  unfold okBay at hb
  simp only [Bool.and_eq_true, inr_iff] at hb
  obtain ⟨h1, h2, h3⟩ := hb
  obtain ⟨t, ht⟩ := Option.isSome_iff_exists.mp h3
  refine ⟨⟨by omega, by omega⟩, fun x hx => ?_⟩
  obtain ⟨h4, h5⟩ := chkRows_mem h l _ _ ht x hx
  exact ⟨by omega, fun n hn => inr_iff.mp (h5 n hn)⟩
end Go.Proofs.YtoiboejefgejfaaDoor.UB
namespace Go.Proofs.YtoiboejefgejfaaDoor.UB
open Go.RowKit Go.Proofs.YtoiboejefgejfaaDoorW.PrintWords Go.Proofs.YtoiboejefgejfaaDoorW.PrintMore Go.Proofs.YtoiboejefgejfaaDoor.P Go.Proofs.YtoiboejefgejfaaDoor.U Go.Proofs.YtoiboejefgejfaaDoor.UT
set_option linter.unusedVariables false

def Bt (l : List UInt8) : ByteArray := ⟨l.toArray⟩
theorem bt_app (a b : List UInt8) : Bt a ++ Bt b = Bt (a ++ b) := by
  apply ByteArray.ext
  simp [Bt]
theorem bt_size (a : List UInt8) : (Bt a).size = a.length := by simp [Bt, ByteArray.size]
theorem bt_dig : ∀ d, d < 10 → (⟨#[48, 49, 50, 51, 52, 53, 54, 55, 56, 57]⟩ : ByteArray).extract d (d + 1) = Bt [(48 + d).toUInt8] := by decide +kernel
theorem b32 : (⟨#[32]⟩ : ByteArray) = Bt [32] := rfl
theorem b46 : (⟨#[46, 46]⟩ : ByteArray) = Bt [46, 46] := rfl
theorem b10 : (⟨#[10]⟩ : ByteArray) = Bt [10] := rfl
theorem quo10 (m : Nat) (hm : m < 100) : wrap64 (Int.tdiv (m : Int) 10) = ((m / 10 : Nat) : Int) := by
  rw [show Int.tdiv (m : Int) 10 = (m : Int) / 10 from Int.tdiv_eq_ediv_of_nonneg (by omega), wr (by omega) (by omega)]
  omega
theorem rem10 (m : Nat) : Int.tmod (m : Int) 10 = ((m % 10 : Nat) : Int) := by
  rw [show Int.tmod (m : Int) 10 = (m : Int) % 10 from Int.tmod_eq_emod_of_nonneg (by omega)]
  omega
theorem part_data (t : Nat) (row : List Int) : (btPart t row).data.toList = if t < row.length then btPd (row.getD t 0) else [46, 46] := by
  unfold btPart
  split <;> rfl
theorem part_len (t : Nat) (row : List Int) : (btPart t row).data.toList.length = 2 := by
  rw [part_data]
  split <;> rfl
/-- A line, row by row. -/
def ln (t : Nat) : List (List Int) → Nat → List UInt8
  | [], _ => []
  | r :: rs, i => ((if 0 < i then [32] else []) ++ (btPart t r).data.toList) ++ ln t rs (i + 1)
theorem ln_tail (t : Nat) : ∀ (rs : List (List Int)) (i : Nat), ln t rs (i + 1) = Go.Lib.joinTail [32] ((rs.map (btPart t)).map (·.data.toList))
  | [], _ => rfl
  | r :: rs, i => by
    rw [ln, if_pos (by omega), ln_tail t rs (i + 1)]
    simp [Go.Lib.joinTail]
theorem ln_join (t : Nat) (rows : List (List Int)) : ln t rows 0 = Go.Lib.join ((rows.map (btPart t)).map (·.data.toList)) [32] := by
  cases rows with
  | nil => rfl
  | cons r rs => rw [ln, if_neg (by omega), ln_tail, List.map_cons, List.map_cons, Go.Lib.join_cons, List.nil_append]
theorem ln_len (t : Nat) : ∀ (rs : List (List Int)) (i : Nat), (ln t rs i).length ≤ 3 * rs.length
  | [], _ => by simp [ln]
  | r :: rs, i => by
    have h1 := ln_len t rs (i + 1)
    have h2 := part_len t r
    rw [ln, List.length_append, List.length_append, h2, List.length_cons]
    split <;> simp <;> omega
theorem btLine_eq (rows : List (List Int)) (t : Nat) : btLine rows t = ln t rows 0 ++ [10] := by rw [ln_join]; rfl
theorem btT_len (rows : List (List Int)) (h5 : rows.length ≤ 5) : ∀ n, (btT rows n).length ≤ 16 * n
  | 0 => by simp [btT]
  | n + 1 => by
    have h1 := btT_len rows h5 n
    have h2 := ln_len n rows 0
    rw [btT, btLine_eq, List.length_append, List.length_append, List.length_singleton]
    omega
theorem text_row {rows : List (List Int)} (hn : rows.length ≤ 5) (hm : ∀ x, x ∈ rows → x.length ≤ 4 ∧ ∀ n, n ∈ x → 1 ≤ n ∧ n ≤ 99) (h : Int) (t : Nat) (ht : t ≤ 10) (T : List UInt8) (hT : T.length ≤ 1000000)
    (ih : ∀ acc, acc ++ btT rows t = T → Ev (fun k => spec_l9Text.l0 k (Bt acc) ((t : Int) - 1) h rows) (Bt T)) : ∀ d i (acc : List UInt8), i + d = rows.length → acc ++ ((ln t (rows.drop i) i ++ [10]) ++ btT rows t) = T →
      Ev (fun k => spec_l9Text.l1 k (Bt acc) (t : Int) (i : Int) h rows) (Bt T) := by
  intro d
  induction d with
  | zero =>
    intro i acc hi he
    have hal : acc.length ≤ 1000000 := by rw [← he, List.length_append] at hT; omega
    refine Ev.step (fun k => by simp only [spec_l9Text.l1]; rfl) (ev_neg (by omega) ?_)
    simp only [b10, bt_size, bt_app]
    rw [wr (x := (t : Int) - 1) (by omega) (by omega)]
    refine ev_pos (by omega) (ih _ ?_)
    rw [← he, List.drop_of_length_le (by omega), ln, List.nil_append, List.append_assoc]
  | succ d ihd =>
    intro i acc hi he
    have hlt : i < rows.length := by omega
    have hal : acc.length ≤ 1000000 := by rw [← he, List.length_append] at hT; omega
    have hrow := hm _ (List.getElem_mem hlt)
    rw [List.drop_eq_getElem_cons hlt, ln] at he
    refine Ev.step (fun k => by simp only [spec_l9Text.l1]; rfl) (ev_pos (by omega) ?_)
    rw [rd_l1 rows i hlt, wsucc hlt (by omega)]
    have go : ∀ acc2, acc2 = acc ++ ((if 0 < i then [32] else []) ++ (btPart t rows[i]).data.toList) → Ev (fun k => spec_l9Text.l1 k (Bt acc2) (t : Int) ((i + 1 : Nat) : Int) h rows) (Bt T) := by
      intro acc2 h2
      refine ihd (i + 1) acc2 (by omega) ?_
      rw [h2, ← he]
      simp only [List.append_assoc]
    rw [part_data] at go
    by_cases hs : t < rows[i].length
    · have hmem := hrow.2 rows[i][t] (List.getElem_mem hs)
      rw [if_pos hs, getD_at _ _ _ hs] at go
      obtain ⟨m, hmv⟩ := Int.eq_ofNat_of_zero_le (show 0 ≤ rows[i][t] by omega)
      rw [rd_at _ t hs]
      rw [hmv] at hmem go ⊢
      have hm100 : m < 100 := by omega
      rw [quo10 m hm100, rem10 m, wsucc (n := 10) (show m / 10 < 10 by omega) (by omega), wsucc (n := 10) (show m % 10 < 10 by omega) (by omega)]
      simp only [Int.toNat_natCast, bt_dig (m / 10) (by omega), bt_dig (m % 10) (by omega), b32, b46, bt_app, bt_size]
      unfold btPd at go
      rw [Int.toNat_natCast] at go
      by_cases hz : 0 < i
      · rw [if_pos hz] at go
        refine ev_pos (by omega) (ev_pos (by simp; omega) (ev_pos (by omega) (ev_neg (by omega) (ev_pos (by omega) (ev_pos (by omega) (ev_pos (by omega) (ev_pos (by omega) (ev_pos (by omega) (ev_pos (by simp; omega) (ev_pos (by omega) (ev_pos (by omega) (ev_pos (by omega) (ev_pos (by simp; omega) (go _ ?_))))))))))))))
        simp
      · rw [if_neg hz] at go
        refine ev_neg (by omega) (ev_pos (by omega) (ev_neg (by omega) (ev_pos (by omega) (ev_pos (by omega) (ev_pos (by omega) (ev_pos (by omega) (ev_pos (by omega) (ev_pos (by simp; omega) (ev_pos (by omega) (ev_pos (by omega) (ev_pos (by omega) (ev_pos (by simp; omega) (go _ ?_)))))))))))))
        simp
    · rw [if_neg hs] at go
      simp only [b32, b46, bt_app, bt_size]
      by_cases hz : 0 < i
      · rw [if_pos hz] at go
        refine ev_pos (by omega) (ev_pos (by simp; omega) (ev_pos (by omega) (ev_pos (by omega) (ev_pos (by simp; omega) (go _ ?_)))))
        simp
      · rw [if_neg hz] at go
        refine ev_neg (by omega) (ev_pos (by omega) (ev_pos (by omega) (ev_pos (by simp; omega) (go _ ?_))))
        simp
theorem text_all {rows : List (List Int)} (hn : rows.length ≤ 5) (hm : ∀ x, x ∈ rows → x.length ≤ 4 ∧ ∀ n, n ∈ x → 1 ≤ n ∧ n ≤ 99) (h : Int) (T : List UInt8) (hT : T.length ≤ 1000000) : ∀ t, t ≤ 10 → ∀ acc, acc ++ btT rows t = T →
      Ev (fun k => spec_l9Text.l0 k (Bt acc) ((t : Int) - 1) h rows) (Bt T) := by
  intro t
  induction t with
  | zero =>
    intro ht acc he
    rw [btT, List.append_nil] at he
    subst he
    exact Ev.step (fun k => by simp only [spec_l9Text.l0]; rfl) (ev_neg (by omega) (ev_const rfl))
  | succ t ih =>
    intro ht acc he
    rw [show ((t + 1 : Nat) : Int) - 1 = (t : Int) by omega]
    refine Ev.step (fun k => by simp only [spec_l9Text.l0]; rfl) (ev_pos (by omega) ?_)
    refine text_row hn hm h t (by omega) T hT (ih (by omega)) rows.length 0 acc (by omega) ?_
    rw [List.drop_zero, ← btLine_eq, ← he, btT]
end Go.Proofs.YtoiboejefgejfaaDoor.UB
namespace Go.Proofs.YtoiboejefgejfaaDoor.UK
open Go.RowKit Go.Proofs.YtoiboejefgejfaaDoorW.PrintWords Go.Proofs.YtoiboejefgejfaaDoorW.PrintMore Go.Proofs.YtoiboejefgejfaaDoor.P Go.Proofs.YtoiboejefgejfaaDoor.U Go.Proofs.YtoiboejefgejfaaDoor.UT
set_option linter.unusedVariables false

/-! What holds from some number of rounds on. -/
def EvP (P : Nat → Prop) : Prop := ∃ K, ∀ k, K ≤ k → P k
theorem EvP.rounds {P : Nat → Prop} (h : EvP P) : ∃ k, P k := by
  obtain ⟨K, h⟩ := h
  exact ⟨K, h K (Nat.le_refl _)⟩
theorem EvP.tr : EvP fun _ => True := ⟨0, fun _ _ => trivial⟩
theorem EvP.bind {α : Type} {g : Nat → Option α} {r : α} {Q : Nat → α → Prop} (h : Ev g r) (hq : EvP fun k => Q k r) : EvP fun k => ∃ t, g k = some t ∧ Q k t := by
  obtain ⟨K, h⟩ := h
  obtain ⟨K', h'⟩ := hq
  exact ⟨max K K', fun k hk => ⟨r, h k (by omega), h' k (by omega)⟩⟩
theorem EvP.bind2 {α β : Type} {g : Nat → Option (α × β)} {r : α} {s : β} {Q : Nat → α → β → Prop} (h : Ev g (r, s)) (hq : EvP fun k => Q k r s) : EvP fun k => ∃ t u, g k = some (t, u) ∧ Q k t u := by
  obtain ⟨K, h⟩ := h
  obtain ⟨K', h'⟩ := hq
  exact ⟨max K K', fun k hk => ⟨r, s, h k (by omega), h' k (by omega)⟩⟩
theorem EvP.bind3 {α β γ : Type} {g : Nat → Option (α × β × γ)} {r : α} {s : β} {v : γ} {Q : Nat → α → β → γ → Prop} (h : Ev g (r, s, v)) (hq : EvP fun k => Q k r s v) : EvP fun k => ∃ t u x, g k = some (t, u, x) ∧ Q k t u x := by
  obtain ⟨K, h⟩ := h
  obtain ⟨K', h'⟩ := hq
  exact ⟨max K K', fun k hk => ⟨r, s, v, h k (by omega), h' k (by omega)⟩⟩
theorem EvP.bind4 {α β γ δ : Type} {g : Nat → Option (α × β × γ × δ)} {r : α} {s : β} {v : γ} {z : δ} {Q : Nat → α → β → γ → δ → Prop} (h : Ev g (r, s, v, z)) (hq : EvP fun k => Q k r s v z) : EvP fun k => ∃ t u x y, g k = some (t, u, x, y) ∧ Q k t u x y := by
  obtain ⟨K, h⟩ := h
  obtain ⟨K', h'⟩ := hq
  exact ⟨max K K', fun k hk => ⟨r, s, v, z, h k (by omega), h' k (by omega)⟩⟩
theorem EvP.out {c : Prop} {Q : Nat → Prop} (h : c) : EvP fun k => c ∨ Q k := ⟨0, fun _ _ => Or.inl h⟩
theorem EvP.on {c : Prop} {Q : Nat → Prop} (h : ¬ c) (hq : EvP Q) : EvP fun k => c ∨ ¬ c ∧ Q k := by
  obtain ⟨K, hq⟩ := hq
  exact ⟨K, fun k hk => Or.inr ⟨h, hq k hk⟩⟩
theorem EvP.no {c : Prop} {Q : Nat → Prop} (h : ¬ c) (hq : EvP Q) : EvP fun k => ¬ c ∧ Q k := by
  obtain ⟨K, hq⟩ := hq
  exact ⟨K, fun k hk => ⟨h, hq k hk⟩⟩
theorem EvP.yes {c : Prop} {Q : Nat → Prop} (h : c) (hq : EvP Q) : EvP fun k => c ∧ Q k := by
  obtain ⟨K, hq⟩ := hq
  exact ⟨K, fun k hk => ⟨h, hq k hk⟩⟩

/-! Lists of numbers. -/
def mk1 (m : Nat) (n : Int) : List Int := (List.range m).map fun j : Nat => n + (j : Int)
theorem mk1_length (m : Nat) (n : Int) : (mk1 m n).length = m := by simp [mk1]
theorem mk1_get (m : Nat) (n : Int) (i : Nat) (h : i < (mk1 m n).length) : (mk1 m n)[i] = n + i := by simp [mk1]
theorem mark1_l (n : Int) (hn : 0 ≤ n ∧ n ≤ 4398046511104) (m : Nat) (hm : m ≤ 1048576) : ∀ d i (acc : List Int), i + d = m → acc.length = m → acc.take i = (mk1 m n).take i → Ev (fun k => laws_markIntS.l0 k acc (n + i) (i : Int)) (n + m, mk1 m n) := by
  intro d
  induction d with
  | zero =>
    intro i acc hi ha ht
    refine Ev.step (fun k => by simp only [laws_markIntS.l0]; rfl) (ev_neg (by omega) (ev_const ?_))
    rw [List.take_of_length_le (by omega), List.take_of_length_le (by rw [mk1_length]; omega)] at ht
    rw [ht, show i = m by omega]
  | succ d ih =>
    intro i acc hi ha ht
    have hlt : i < acc.length := by omega
    refine Ev.step (fun k => by simp only [laws_markIntS.l0]; rfl) ?_
    refine ev_pos (by omega) (ev_pos (by omega) ?_)
    rw [wsucc (n := m) (by omega) (by omega), Int.toNat_natCast, wr (x := n + (i : Int) + 1) (by omega) (by omega)]
    rw [show n + (i : Int) + 1 = n + ((i + 1 : Nat) : Int) by omega]
    refine ih (i + 1) _ (by omega) (by rw [List.length_set]; exact ha) ?_
    rw [fill_step ht hlt, List.take_succ_eq_append_getElem (show i < (mk1 m n).length by rw [mk1_length]; omega), mk1_get]
theorem mark1 (l : List Int) (n : Int) (hn : 0 ≤ n ∧ n ≤ 4398046511104) (hm : l.length ≤ 1048576) : Ev (fun k => laws_markIntS.f k l n) (n + (l.length : Int), mk1 l.length n) := by
  unfold laws_markIntS.f
  have h := mark1_l n hn l.length hm l.length 0 l (by omega) rfl (by simp)
  rw [show n + ((0 : Nat) : Int) = n by omega] at h
  exact h
/-! Rows of numbers. -/
def sumL : List (List Int) → Int
  | [] => 0
  | r :: l => (r.length : Int) + sumL l
def mk2 : List (List Int) → Int → List (List Int)
  | [], _ => []
  | r :: l, n => mk1 r.length n :: mk2 l (n + r.length)
theorem mk2_length : ∀ (l : List (List Int)) (n : Int), (mk2 l n).length = l.length
  | [], _ => rfl
  | _ :: l, n => by simp [mk2, mk2_length l]
theorem sumL_cons (r : List Int) (l : List (List Int)) : sumL (r :: l) = (r.length : Int) + sumL l := rfl
theorem mk2_cons (r : List Int) (l : List (List Int)) (n : Int) : mk2 (r :: l) n = mk1 r.length n :: mk2 l (n + r.length) := rfl
theorem sumL_pos : ∀ (l : List (List Int)), 0 ≤ sumL l
  | [] => Int.le_refl 0
  | r :: l => by have := sumL_pos l; unfold sumL; omega
theorem sumL_le (c : Nat) : ∀ (l : List (List Int)), (∀ x, x ∈ l → x.length ≤ c) → sumL l ≤ (l.length : Int) * (c : Int)
  | [], _ => by simp [sumL]
  | r :: l, h => by
    have h1 := sumL_le c l (fun x hx => h x (List.mem_cons_of_mem _ hx))
    have h2 := h r List.mem_cons_self
    unfold sumL
    rw [List.length_cons, show ((l.length + 1 : Nat) : Int) * (c : Int) = (l.length : Int) * (c : Int) + c by rw [Int.natCast_add, Int.add_mul]; simp]
    omega
theorem set_prefix (pre : List (List Int)) (x y : List Int) (suf : List (List Int)) : (pre ++ x :: suf).set pre.length y = pre ++ y :: suf := by
  simp
theorem getD_prefix (pre : List (List Int)) (x : List Int) (suf : List (List Int)) : (pre ++ x :: suf).getD pre.length [] = x := by
  simp [List.getD]
theorem mark2_l : ∀ (suf pre : List (List Int)) (n : Int), 0 ≤ n → n + sumL suf ≤ 4398046511104 → (pre ++ suf).length ≤ 1048576 → (∀ x, x ∈ suf → x.length ≤ 1048576) →
    Ev (fun k => laws_markIntSS.l0 k (pre ++ suf) n (pre.length : Int)) (n + sumL suf, pre ++ mk2 suf n)
  | [], pre, n, h0, h1, hl, hx => by
    refine Ev.step (fun k => by simp only [laws_markIntSS.l0]; rfl) (ev_neg (by simp) (ev_const ?_))
    simp [sumL, mk2]
  | r :: suf, pre, n, h0, h1, hl, hx => by
    have hr := hx r List.mem_cons_self
    have hp := sumL_pos suf
    rw [sumL_cons] at h1
    have hl2 : pre.length + suf.length + 1 ≤ 1048576 := by simp at hl; omega
    refine Ev.step (fun k => by simp only [laws_markIntSS.l0]; rfl) (ev_pos (by simp; omega) (ev_pos (by omega) ?_))
    rw [Int.toNat_natCast, getD_prefix, wsucc (n := 1048576) (by omega) (by omega)]
    refine Ev.bind (mark1 r n ⟨h0, by omega⟩ hr) ?_
    rw [set_prefix]
    have ih := mark2_l suf (pre ++ [mk1 r.length n]) (n + r.length) (by omega) (by omega) (by simp; omega) (fun x h => hx x (List.mem_cons_of_mem _ h))
    rw [List.length_append, List.length_singleton, List.append_assoc, List.append_assoc] at ih
    refine ev_eq ih ?_
    rw [mk2_cons, sumL_cons]
    simp; omega
theorem mark2 (l : List (List Int)) (n : Int) (h0 : 0 ≤ n) (h1 : n + sumL l ≤ 4398046511104) (hl : l.length ≤ 1048576) (hx : ∀ x, x ∈ l → x.length ≤ 1048576) : Ev (fun k => laws_markIntSS.f k l n) (n + sumL l, mk2 l n) := by
  unfold laws_markIntSS.f
  exact mark2_l l [] n h0 h1 hl hx
theorem sumL_big {l : List (List Int)} (hl : l.length ≤ 1048576) (hx : ∀ x, x ∈ l → x.length ≤ 1048576) : sumL l ≤ 1099511627776 := by
  have h := sumL_le 1048576 l hx
  have h2 : (l.length : Int) * ((1048576 : Nat) : Int) ≤ 1048576 * 1048576 := by
    have := Int.mul_le_mul_of_nonneg_right (show (l.length : Int) ≤ 1048576 by omega) (show (0 : Int) ≤ ((1048576 : Nat) : Int) by omega)
    simpa using this
  omega
end Go.Proofs.YtoiboejefgejfaaDoor.UK
namespace Go.Proofs.YtoiboejefgejfaaDoor.UK
open Go.RowKit Go.Proofs.YtoiboejefgejfaaDoorW.PrintWords Go.Proofs.YtoiboejefgejfaaDoorW.PrintMore Go.Proofs.YtoiboejefgejfaaDoor.P Go.Proofs.YtoiboejefgejfaaDoor.U Go.Proofs.YtoiboejefgejfaaDoor.UT
set_option linter.unusedVariables false

theorem held1_l (n : Int) (hn : 0 ≤ n ∧ n ≤ 4398046511104) (m : Nat) (hm : m ≤ 1048576) : ∀ d i, i + d = m → Ev (fun k => laws_heldIntS.l0 k (mk1 m n) (n + i) (i : Int)) (n + m) := by
  intro d
  induction d with
  | zero =>
    intro i hi
    refine Ev.step (fun k => by simp only [laws_heldIntS.l0]; rfl) (ev_neg (by rw [mk1_length]; omega) (ev_const ?_))
    rw [show i = m by omega]
  | succ d ih =>
    intro i hi
    have hlt : i < (mk1 m n).length := by rw [mk1_length]; omega
    refine Ev.step (fun k => by simp only [laws_heldIntS.l0]; rfl) (ev_pos (by omega) (ev_pos (by omega) ?_))
    rw [wsucc (n := m) (by omega) (by omega), wr (x := n + (i : Int) + 1) (by omega) (by omega), rd_at _ i hlt, mk1_get]
    refine ev_pos rfl ?_
    rw [show n + (i : Int) + 1 = n + ((i + 1 : Nat) : Int) by omega]
    exact ih (i + 1) (by omega)
theorem held1 (m : Nat) (n : Int) (hn : 0 ≤ n ∧ n ≤ 4398046511104) (hm : m ≤ 1048576) : Ev (fun k => laws_heldIntS.f k (mk1 m n) n) (n + (m : Int)) := by
  unfold laws_heldIntS.f
  have h := held1_l n hn m hm m 0 (by omega)
  rw [show n + ((0 : Nat) : Int) = n by omega] at h
  exact h

end Go.Proofs.YtoiboejefgejfaaDoor.UK
namespace Go.Proofs.YtoiboejefgejfaaDoor.UK
open Go.RowKit Go.Proofs.YtoiboejefgejfaaDoorW.PrintWords Go.Proofs.YtoiboejefgejfaaDoorW.PrintMore Go.Proofs.YtoiboejefgejfaaDoor.P Go.Proofs.YtoiboejefgejfaaDoor.U Go.Proofs.YtoiboejefgejfaaDoor.UT
set_option linter.unusedVariables false

theorem held2_l : ∀ (suf : List (List Int)) (pre : List (List Int)) (n : Int), 0 ≤ n → n + sumL suf ≤ 4398046511104 → pre.length + suf.length ≤ 1048576 → (∀ x, x ∈ suf → x.length ≤ 1048576) →
    Ev (fun k => laws_heldIntSS.l0 k (pre ++ mk2 suf n) n (pre.length : Int)) (n + sumL suf)
  | [], pre, n, h0, h1, hl, hx => by
    refine Ev.step (fun k => by simp only [laws_heldIntSS.l0]; rfl) (ev_neg (by simp [mk2]) (ev_const ?_))
    simp [sumL]
  | r :: suf, pre, n, h0, h1, hl, hx => by
    have hr := hx r List.mem_cons_self
    have hp := sumL_pos suf
    rw [sumL_cons] at h1
    rw [List.length_cons] at hl
    refine Ev.step (fun k => by simp only [laws_heldIntSS.l0]; rfl) ?_
    rw [mk2_cons]
    refine (ev_pos (by simp; omega) (ev_pos (by omega) ?_))
    have hg : rd_L2 (pre ++ mk1 r.length n :: mk2 suf (n + r.length)) (pre.length : Int) = mk1 r.length n := by
      rw [rd_l1 _ pre.length (by simp)]; simp
    rw [hg, wsucc (n := 1048576) (by omega) (by omega)]
    refine Ev.bind (held1 r.length n ⟨h0, by omega⟩ hr) (ev_neg (by omega) ?_)
    have ih := held2_l suf (pre ++ [mk1 r.length n]) (n + r.length) (by omega) (by omega) (by simp; omega) (fun x h => hx x (List.mem_cons_of_mem _ h))
    rw [List.length_append, List.length_singleton, List.append_assoc] at ih
    refine ev_eq ih ?_
    rw [sumL_cons]; omega
theorem held2 (l : List (List Int)) (n : Int) (h0 : 0 ≤ n) (h1 : n + sumL l ≤ 4398046511104) (hl : l.length ≤ 1048576) (hx : ∀ x, x ∈ l → x.length ≤ 1048576) : Ev (fun k => laws_heldIntSS.f k (mk2 l n) n) (n + sumL l) := by
  unfold laws_heldIntSS.f
  exact held2_l l [] n h0 h1 (by simp; omega) hx
end Go.Proofs.YtoiboejefgejfaaDoor.UK
namespace Go.Proofs.YtoiboejefgejfaaDoor.PB
open Go.RowKit Go.Proofs.YtoiboejefgejfaaDoorW.PrintWords Go.Proofs.YtoiboejefgejfaaDoorW.PrintMore Go.Proofs.YtoiboejefgejfaaDoor.P Go.Proofs.YtoiboejefgejfaaDoor.U Go.Proofs.YtoiboejefgejfaaDoor.UB
set_option linter.unusedVariables false
/-- A text cut at a byte; acc: what the piece has so far. -/
def spa (c : UInt8) : List UInt8 → List UInt8 → List (List UInt8)
  | acc, [] => [acc]
  | acc, x :: xs => if x = c then acc :: spa c [] xs else spa c (acc ++ [x]) xs
theorem spa_app (c : UInt8) : ∀ (a acc b : List UInt8), c ∉ a → spa c acc (a ++ b) = spa c (acc ++ a) b
  | [], acc, b, _ => by rw [List.nil_append, List.append_nil]
  | x :: a, acc, b, h => by
    rw [List.cons_append, spa, if_neg (fun e => h (by rw [e]; exact List.mem_cons_self)), spa_app c a (acc ++ [x]) b (fun e => h (List.mem_cons_of_mem _ e)), List.append_assoc]
    rfl
theorem spa_line (c : UInt8) (a acc b : List UInt8) (h : c ∉ a) : spa c acc (a ++ c :: b) = (acc ++ a) :: spa c [] b := by
  rw [spa_app c a acc _ h, spa, if_pos rfl]
theorem spa_end (c : UInt8) (a acc : List UInt8) (h : c ∉ a) : spa c acc a = [acc ++ a] := by
  have h1 := spa_app c a acc [] h
  rw [List.append_nil] at h1
  rw [h1]; rfl
theorem spa_size (c : UInt8) : ∀ (s acc : List UInt8), ∀ x, x ∈ spa c acc s → x.length ≤ acc.length + s.length
  | [], acc, x, h => by
    rw [spa, List.mem_singleton] at h
    rw [h]; simp
  | y :: s, acc, x, h => by
    rw [spa] at h
    split at h
    · rcases List.mem_cons.1 h with rfl | h
      · simp
      · have := spa_size c s [] x h; simp at this ⊢; omega
    · have := spa_size c s _ x h; simp at this ⊢; omega
theorem spa_len (c : UInt8) : ∀ (s acc : List UInt8), 1 ≤ (spa c acc s).length ∧ (spa c acc s).length ≤ s.length + 1
  | [], acc => by simp [spa]
  | y :: s, acc => by
    rw [spa]
    split
    · have := spa_len c s []; simp; omega
    · have := spa_len c s (acc ++ [y]); simp; omega
theorem index_mid (c : UInt8) : ∀ (a l : List UInt8), c ∉ a → Go.Lib.index (a ++ c :: l) [c] = (a.length : Int)
  | [], l, _ => by rw [List.nil_append, Go.Lib.index]; simp [List.isPrefixOf]
  | b :: a, l, h => by
    have hb : b ≠ c := fun e => h (by rw [e]; exact List.mem_cons_self)
    have ih := index_mid c a l (fun e => h (List.mem_cons_of_mem _ e))
    have hp : ([c] : List UInt8).isPrefixOf (b :: (a ++ c :: l)) = false := by simp [List.isPrefixOf, Ne.symm hb]
    have hix : Go.Lib.index (b :: (a ++ c :: l)) [c] = if Go.Lib.index (a ++ c :: l) [c] == -1 then -1 else Go.Lib.index (a ++ c :: l) [c] + 1 := by rw [Go.Lib.index, hp]; simp
    rw [List.cons_append, hix, ih, if_neg (by simp), List.length_cons]
    omega
theorem splitK_spa (c : UInt8) : ∀ (s acc : List UInt8), c ∉ acc → Go.Lib.splitK [c] 0 ((acc ++ s).count c) (acc ++ s) = spa c acc s
  | [], acc, h => by
    rw [List.append_nil, List.count_eq_zero.mpr h]; rfl
  | x :: xs, acc, h => by
    rw [spa]
    by_cases e : x = c
    · subst e
      have ih := splitK_spa x xs [] (by simp)
      rw [List.nil_append] at ih
      rw [if_pos rfl, ← ih, List.count_append, List.count_eq_zero.mpr h, List.count_cons_self, Nat.zero_add, Go.Lib.splitK, index_mid x acc xs h, if_neg (by simp), Int.toNat_natCast, Nat.add_zero, List.take_left]
      rw [show (acc ++ x :: xs).drop (acc.length + [x].length) = xs by rw [List.length_singleton, ← List.drop_drop, List.drop_left]; rfl]
    · have ih := splitK_spa c xs (acc ++ [x]) (by rw [List.mem_append]; rintro (h2 | h2); exact h h2; exact e (List.mem_singleton.1 h2).symm)
      rw [List.append_assoc] at ih
      rw [if_neg e, ← ih]; rfl
theorem bt_data (b : ByteArray) : Bt b.data.toList = b := by
  apply ByteArray.ext
  simp [Bt]
theorem wordsB_spa (s : ByteArray) (c : UInt8) : wordsB s c = (spa c [] s.data.toList).map Bt := by
  have h1 := Go.Lib.splitB_data ⟨#[c]⟩ 0 (Go.Lib.countB s ⟨#[c]⟩) s
  have h2 := splitK_spa c s.data.toList [] (by simp)
  rw [List.nil_append, ← Go.Lib.count_one] at h2
  have h3 : (wordsB s c).map (·.data.toList) = spa c [] s.data.toList := h1.trans h2
  rw [← h3, List.map_map]
  conv => lhs; rw [← List.map_id (wordsB s c)]
  exact List.map_congr_left (fun b _ => (bt_data b).symm)
theorem seg (s : ByteArray) (a b : Nat) : s.extract a b = Bt ((s.data.toList.take b).drop a) := by
  rw [← bt_data (s.extract a b), Go.Lib.extract_data]
  rw [List.drop_take]
theorem l1_spa (s : ByteArray) (c : UInt8) (hs : s.size ≤ 1048576) : ∀ (d i fr : Nat) (out : List ByteArray), i + d = s.size → fr ≤ i → out.length ≤ fr → Ev (fun k => spec_l1Split.l0 k s (c.toNat : Int) out (fr : Int) (i : Int)) (out ++ (spa c ((s.data.toList.take i).drop fr) (s.data.toList.drop i)).map Bt)
  | 0, i, fr, out, hd, hf, ho => by
    have hl : s.data.toList.length = s.size := by rw [Array.length_toList]; rfl
    refine Ev.step (fun k => by simp only [spec_l1Split.l0]; rfl) (ev_neg (by omega) (ev_pos (by omega) (ev_pos (by omega) (ev_pos (by omega) (ev_const ?_)))))
    rw [Int.toNat_natCast, seg, show i = s.size by omega, List.drop_of_length_le (i := s.size) (l := s.data.toList) (by omega), spa]
    rfl
  | d + 1, i, fr, out, hd, hf, ho => by
    have hl : s.data.toList.length = s.size := by rw [Array.length_toList]; rfl
    have hi : i < s.data.toList.length := by omega
    have hb : bt s (i : Int) = ((s.data.toList[i]).toNat : Int) := by
      rw [← bt_at s (i : Int) (by rw [Int.toNat_natCast]; omega)]
      simp only [Int.toNat_natCast]
      rfl
    refine Ev.step (fun k => by simp only [spec_l1Split.l0]; rfl) (ev_pos (by omega) (ev_pos (by omega) ?_))
    rw [List.drop_eq_getElem_cons hi, spa, hb]
    by_cases e : s.data.toList[i] = c
    · rw [if_pos e]
      refine ev_pos (by rw [e]) (ev_pos (by omega) (ev_pos (by omega) (ev_pos (by omega) (ev_pos (by omega) ?_))))
      have ih := l1_spa s c hs d (i + 1) (i + 1) (out ++ [Bt ((s.data.toList.take i).drop fr)]) (by omega) (Nat.le_refl _) (by rw [List.length_append, List.length_singleton]; omega)
      rw [List.drop_of_length_le (i := i + 1) (l := s.data.toList.take (i + 1)) (by rw [List.length_take]; omega), List.append_assoc] at ih
      rw [wsucc (n := s.size) (by omega) (by omega), Int.toNat_natCast, Int.toNat_natCast, seg]
      exact ih
    · rw [if_neg e]
      refine ev_neg (fun h => e (UInt8.toNat_inj.1 (by omega))) ?_
      have ih := l1_spa s c hs d (i + 1) fr out (by omega) (by omega) ho
      rw [List.take_succ_eq_append_getElem hi, List.drop_append_of_le_length (by rw [List.length_take]; omega)] at ih
      rw [wsucc (n := s.size) (by omega) (by omega)]
      exact ih
theorem split_ev (s : ByteArray) (c : UInt8) (hs : s.size ≤ 1048576) : Ev (fun k => spec_l1Split.f k s (c.toNat : Int)) ((spa c [] s.data.toList).map Bt) := l1_spa s c hs s.size 0 0 [] (by omega) (Nat.le_refl _) (Nat.le_refl _)
end Go.Proofs.YtoiboejefgejfaaDoor.PB
namespace Go.Proofs.YtoiboejefgejfaaDoor.PB
open Go.RowKit Go.Proofs.YtoiboejefgejfaaDoorW.PrintWords Go.Proofs.YtoiboejefgejfaaDoorW.PrintMore Go.Proofs.YtoiboejefgejfaaDoor.P Go.Proofs.YtoiboejefgejfaaDoor.U Go.Proofs.YtoiboejefgejfaaDoor.UT Go.Proofs.YtoiboejefgejfaaDoor.UB
set_option linter.unusedVariables false
theorem tl_bt (l : List UInt8) : (Bt l).data.toList = l := by simp [Bt]
theorem dig_no : ∀ d, d < 10 → (48 + d).toUInt8 ≠ 10 ∧ (48 + d).toUInt8 ≠ 32 ∧ (48 + d).toUInt8 ≠ 46 := by decide
def Rok (rows : List (List Int)) : Prop := ∀ x, x ∈ rows → x.length ≤ 4 ∧ ∀ n, n ∈ x → 1 ≤ n ∧ n ≤ 99
theorem row_at {r : List Int} (h : ∀ n, n ∈ r → 1 ≤ n ∧ n ≤ 99) {t : Nat} (ht : t < r.length) : ∃ m : Nat, r.getD t 0 = (m : Int) ∧ 1 ≤ m ∧ m ≤ 99 := by
  rw [getD_at _ _ _ ht]
  have h1 := h _ (List.getElem_mem ht)
  exact ⟨(r[t]).toNat, by omega, by omega, by omega⟩
theorem part_no {r : List Int} (h : ∀ n, n ∈ r → 1 ≤ n ∧ n ≤ 99) (t : Nat) : (10 : UInt8) ∉ (btPart t r).data.toList ∧ (32 : UInt8) ∉ (btPart t r).data.toList := by
  rw [part_data]
  split
  case isTrue ht =>
    obtain ⟨m, e, h1, h2⟩ := row_at h ht
    rw [e, btPd, Int.toNat_natCast]
    have a := dig_no (m / 10) (by omega)
    have b := dig_no (m % 10) (by omega)
    simp only [List.mem_cons, List.not_mem_nil, or_false, not_or]
    exact ⟨⟨a.1.symm, b.1.symm⟩, a.2.1.symm, b.2.1.symm⟩
  case isFalse ht => exact ⟨by decide, by decide⟩
theorem ln_no (t : Nat) : ∀ (rs : List (List Int)) (i : Nat), Rok rs → (10 : UInt8) ∉ ln t rs i
  | [], _, _ => by simp [ln]
  | r :: rs, i, h => by
    have h1 := ln_no t rs (i + 1) (fun x hx => h x (List.mem_cons_of_mem _ hx))
    have h2 := (part_no (h r List.mem_cons_self).2 t).1
    rw [ln]
    intro hc
    rcases List.mem_append.1 hc with hc | hc
    · rcases List.mem_append.1 hc with hc | hc
      · split at hc
        · exact absurd (List.mem_singleton.1 hc) (by decide)
        · cases hc
      · exact h2 hc
    · exact h1 hc
/-- The lines, the highest tier first. -/
def LT (rows : List (List Int)) : Nat → List (List UInt8)
  | 0 => []
  | n + 1 => ln n rows 0 :: LT rows n
theorem LT_length (rows : List (List Int)) : ∀ n, (LT rows n).length = n
  | 0 => rfl
  | n + 1 => by rw [LT, List.length_cons, LT_length rows n]
theorem spa_text {rows : List (List Int)} (h : Rok rows) : ∀ n, spa 10 [] (btT rows n) = LT rows n ++ [[]]
  | 0 => rfl
  | n + 1 => by
    rw [btT, btLine_eq, List.append_assoc, List.singleton_append, spa_line 10 _ [] _ (ln_no n rows 0 h), spa_text h n]
    rfl
theorem spa_words_tail (t : Nat) : ∀ (rs : List (List Int)) (i : Nat) (acc : List UInt8), Rok rs → 0 < i → spa 32 acc (ln t rs i) = acc :: rs.map (fun r => (btPart t r).data.toList)
  | [], _, acc, _, _ => rfl
  | r :: rs, i, acc, h, hi => by
    rw [ln, if_pos hi, List.append_assoc, List.singleton_append, spa, if_pos rfl, spa_app 32 _ [] _ (part_no (h r List.mem_cons_self).2 t).2, spa_words_tail t rs (i + 1) _ (fun x hx => h x (List.mem_cons_of_mem _ hx)) (by omega)]
    rfl
theorem spa_words (t : Nat) {rows : List (List Int)} (h : Rok rows) (hn : rows ≠ []) : (spa 32 [] (ln t rows 0)).map Bt = rows.map (btPart t) := by
  cases rows with
  | nil => exact absurd rfl hn
  | cons r rs =>
    rw [ln, if_neg (by omega), List.nil_append, spa_app 32 _ [] _ (part_no (h r List.mem_cons_self).2 t).2, spa_words_tail t rs 1 _ (fun x hx => h x (List.mem_cons_of_mem _ hx)) (by omega), List.nil_append, List.map_cons, List.map_map, bt_data, List.map_cons]
    exact congrArg _ (List.map_congr_left (fun b _ => bt_data _))
/-- The lines, the lowest tier first. -/
def RT (rows : List (List Int)) : Nat → Nat → List (List UInt8)
  | _, 0 => []
  | t, d + 1 => ln t rows 0 :: RT rows (t + 1) d
theorem RT_snoc (rows : List (List Int)) : ∀ d t, RT rows t (d + 1) = RT rows t d ++ [ln (t + d) rows 0]
  | 0, t => rfl
  | d + 1, t => by
    rw [RT, RT_snoc rows d (t + 1), RT, show t + 1 + d = t + (d + 1) by omega]
    rfl
theorem LT_rev (rows : List (List Int)) : ∀ n, (LT rows n).reverse = RT rows 0 n
  | 0 => rfl
  | n + 1 => by rw [LT, List.reverse_cons, LT_rev rows n, RT_snoc, Nat.zero_add]
theorem num_pd : ∀ n, n < 100 → sbNum ⟨(btPd ((n : Nat) : Int)).toArray⟩ = ((n : Nat) : Int) := by decide +kernel
theorem part_dots {r : List Int} (h : ∀ n, n ∈ r → 1 ≤ n ∧ n ≤ 99) (t : Nat) : (btPart t r).data.toList = [46, 46] ↔ ¬ t < r.length := by
  rw [part_data]
  split
  case isTrue ht =>
    obtain ⟨m, e, h1, h2⟩ := row_at h ht
    rw [e, btPd, Int.toNat_natCast]
    constructor
    · intro hc
      injection hc with hc
      exact absurd hc (dig_no (m / 10) (by omega)).2.2
    · intro hc; exact absurd ht hc
  case isFalse ht => exact ⟨fun _ => ht, fun _ => rfl⟩
theorem part_num {r : List Int} (h : ∀ n, n ∈ r → 1 ≤ n ∧ n ≤ 99) {t : Nat} (ht : t < r.length) : sbNum (btPart t r) = r[t] := by
  obtain ⟨m, e, h1, h2⟩ := row_at h ht
  have e2 := e
  rw [getD_at _ _ _ ht] at e2
  unfold btPart
  rw [if_pos ht, e, e2]
  exact num_pd m (by omega)
theorem part_size (t : Nat) (r : List Int) : (btPart t r).size = 2 := part_len t r
theorem grown {t : Nat} {r : List Int} {suf : List (List Int)} (pre base : List (List Int)) (hb : base = (r :: suf).map (List.take t) ∨ (t = 0 ∧ base = [])) :
    ∃ base2, sbGrow (pre ++ base) pre.length = pre ++ r.take t :: base2 ∧ (base2 = suf.map (List.take t) ∨ (t = 0 ∧ base2 = [])) := by
  rcases hb with rfl | ⟨rfl, rfl⟩
  · refine ⟨suf.map (List.take t), ?_, Or.inl rfl⟩
    unfold sbGrow
    rw [if_neg (by simp), List.map_cons]
  · refine ⟨[], ?_, Or.inr ⟨rfl, rfl⟩⟩
    unfold sbGrow
    rw [List.append_nil, if_pos (Nat.le_refl _), List.take_zero]
theorem put_at (pre : List (List Int)) (x y : List Int) (suf : List (List Int)) : (pre ++ x :: suf).set pre.length y = pre ++ y :: suf := by simp
theorem get_at (pre : List (List Int)) (x : List Int) (suf : List (List Int)) : (pre ++ x :: suf).getD pre.length [] = x := by simp
theorem sbAdd_ok (t : Nat) : ∀ (suf pre base : List (List Int)), Rok (pre ++ suf) → (pre ++ suf).length ≤ 5 → (base = suf.map (List.take t) ∨ (t = 0 ∧ base = [])) →
    sbAdd (suf.map (btPart t)) pre.length (pre.map (List.take (t + 1)) ++ base) = some (some ((pre ++ suf).map (List.take (t + 1))))
  | [], pre, base, h, h5, hb => by
    have : base = [] := by rcases hb with hb | hb; exact hb; exact hb.2
    rw [this, List.map_nil, sbAdd, List.append_nil, List.append_nil]
  | r :: suf, pre, base, h, h5, hb => by
    have hr := h r (by simp)
    have hlen : (pre.map (List.take (t + 1)) ++ base).length ≤ 1000 := by
      rw [List.length_append] at h5
      rw [List.length_append, List.length_map]
      rcases hb with rfl | ⟨_, rfl⟩
      · rw [List.length_map]; omega
      · simp; omega
    obtain ⟨base2, hg, hb2⟩ := grown (pre.map (List.take (t + 1))) base hb
    rw [List.length_map] at hg
    have ih := sbAdd_ok t suf (pre ++ [r]) base2 (by rw [List.append_assoc]; exact h) (by rw [List.append_assoc]; exact h5) hb2
    rw [List.length_append, List.length_singleton, List.map_append, List.append_assoc, List.append_assoc] at ih
    rw [List.map_cons, sbAdd, if_pos hlen, hg]
    by_cases ht : t < r.length
    · have h1 : (pre.map (List.take (t + 1)) ++ r.take t :: base2).getD pre.length [] = r.take t := by
        have := get_at (pre.map (List.take (t + 1))) (r.take t) base2
        rw [List.length_map] at this; exact this
      have h2 := put_at (pre.map (List.take (t + 1))) (r.take t) (r.take t ++ [sbNum (btPart t r)]) base2
      rw [List.length_map] at h2
      rw [if_neg (fun hc => (part_dots hr.2 t).1 hc ht), if_neg (by rw [part_size]; simp), h1, if_pos ⟨by simp, by rw [List.length_take]; have := hr.1; omega⟩, h2, part_num hr.2 ht, ← List.take_succ_eq_append_getElem ht]
      exact ih
    · rw [if_pos ((part_dots hr.2 t).2 ht)]
      rw [show r.take t = r.take (t + 1) by rw [List.take_of_length_le (by omega), List.take_of_length_le (by omega)]]
      exact ih
theorem ln_size {rows : List (List Int)} (h5 : rows.length ≤ 5) (t : Nat) : (Bt (ln t rows 0)).size ≤ 1048576 := by
  rw [bt_size]; have := ln_len t rows 0; omega
theorem sbRows_ok {rows : List (List Int)} (h : Rok rows) (hn : rows ≠ []) (h5 : rows.length ≤ 5) : ∀ d t tab, (tab = rows.map (List.take t) ∨ (t = 0 ∧ tab = [])) →
    Ev (fun k => sbRows k ((RT rows t (d + 1)).map Bt) tab) (some (rows.map (List.take (t + d + 1))))
  | d, t, tab, ht => by
    have hw : Ev (fun k => spec_l1Split.f k (Bt (ln t rows 0)) 32) (rows.map (btPart t)) := by
      have h1 := split_ev (Bt (ln t rows 0)) 32 (ln_size h5 t)
      rw [tl_bt, spa_words t h hn] at h1
      exact h1
    have ha := sbAdd_ok t rows [] tab h h5 ht
    rw [List.map_nil, List.nil_append, List.nil_append, List.length_nil] at ha
    rw [RT, List.map_cons]
    simp only [sbRows]
    refine Ev.bind hw (ev_pos (by rw [List.length_map]; omega) (Ev.bind (ev_const ha) ?_))
    simp only [Option.elim]
    cases d with
    | zero => exact ev_const rfl
    | succ d =>
      have ih := sbRows_ok h hn h5 d (t + 1) (rows.map (List.take (t + 1))) (Or.inl rfl)
      rw [show t + 1 + d + 1 = t + (d + 1) + 1 by omega] at ih
      exact ih
/-- What the last test makes of what was read. -/
def fin (s : ByteArray) (H : Int) (t : List (List Int)) : Int × List (List Int) × Bool := if okBay H t = true ∧ Bt (btT t H.toNat) = s then (H, t, true) else (0, [], false)
theorem text_ev (h : Int) (l : List (List Int)) (hb : okBay h l = true) : Ev (fun k => spec_l9Text.f k h l) (Bt (btT l h.toNat)) := by
  have hm := okBay_mem hb
  have hh : 1 ≤ h ∧ h ≤ 4 := by
    unfold okBay at hb
    simp only [Bool.and_eq_true] at hb
    exact inr_iff.mp hb.1
  obtain ⟨H, rfl⟩ := Int.eq_ofNat_of_zero_le (show 0 ≤ h by omega)
  have hl := btT_len l hm.1.2 H
  unfold spec_l9Text.f
  rw [wr (x := (H : Int) - 1) (by omega) (by omega)]
  exact text_all hm.1.2 hm.2 (H : Int) (btT l H) (by omega) H (by omega) [] (by simp)
theorem sbFin_ev (s : ByteArray) (H : Int) (t : List (List Int)) (hn : t.length ≤ 1048576) (hx : ∀ x, x ∈ t → x.length ≤ 1048576) : Ev (fun k => sbFin k s H (some t)) (fin s H t) := by
  have hg := good_spec H t hn hx
  unfold sbFin fin
  cases hb : okBay H t
  · rw [hb] at hg
    rw [if_neg (fun h => by cases h.1)]
    exact Ev.bind hg (ev_neg (by simp) (ev_const rfl))
  · rw [hb] at hg
    refine Ev.bind hg (ev_pos rfl (Ev.bind (text_ev H t hb) ?_))
    by_cases e : Bt (btT t H.toNat) = s
    · exact ev_eq (ev_pos e (ev_const rfl)) (if_pos ⟨rfl, e⟩).symm
    · exact ev_eq (ev_neg e (ev_const rfl)) (if_neg (fun h => e h.2)).symm
theorem high_of {h : Int} {l : List (List Int)} (hb : okBay h l = true) : ∃ H : Nat, h = (H : Int) ∧ 1 ≤ H ∧ H ≤ 4 ∧ ∀ x, x ∈ l → x.length ≤ H := by
  unfold okBay at hb
  simp only [Bool.and_eq_true] at hb
  have hh := inr_iff.mp hb.1
  obtain ⟨t, ht⟩ := Option.isSome_iff_exists.1 hb.2.2
  refine ⟨h.toNat, by omega, by omega, by omega, fun x hx => ?_⟩
  have := (chkRows_mem h l [] t ht x hx).1
  omega
theorem spec_back (h : Int) (l : List (List Int)) (hb : okBay h l = true) : Ev (fun k => spec_ParseBay.f k (Bt (btT l h.toNat))) (h, l, true) := by
  have hm := okBay_mem hb
  obtain ⟨H, rfl, h1, h4, hx⟩ := high_of hb
  have hl := btT_len l hm.1.2 H
  rw [Int.toNat_natCast]
  have hs : (Bt (btT l H)).size ≤ 64 := by rw [bt_size]; omega
  have hsp := split_ev (Bt (btT l H)) 10 (by omega)
  rw [tl_bt, spa_text hm.2 H] at hsp
  have hlen : ((LT l H ++ [[]]).map Bt).length = H + 1 := by rw [List.length_map, List.length_append, LT_length]; rfl
  have hr := sbRows_ok hm.2 (by intro e; rw [e] at hm; exact absurd hm.1.1 (by decide)) hm.1.2 (H - 1) 0 [] (Or.inr ⟨rfl, rfl⟩)
  rw [show H - 1 + 1 = H by omega, show 0 + (H - 1) + 1 = H by omega, show l.map (List.take H) = l by
    conv => rhs; rw [← List.map_id l]
    exact List.map_congr_left (fun x hm => List.take_of_length_le (hx x hm))] at hr
  have hf := sbFin_ev (Bt (btT l H)) (H : Int) l (by omega) (fun x hm2 => by have := (hm.2 x hm2).1; omega)
  rw [show fin (Bt (btT l H)) (H : Int) l = ((H : Int), l, true) by unfold fin; rw [if_pos ⟨hb, by rw [Int.toNat_natCast]⟩]] at hf
  unfold spec_ParseBay.f
  refine ev_pos (by omega) (Ev.bind hsp ?_)
  rw [hlen, show ((H + 1 : Nat) : Int) - 1 = (H : Int) by omega]
  refine ev_neg (by omega) ?_
  rw [show H + 1 - 1 = H by omega, ← List.map_take, List.take_left' (LT_length l H), ← List.map_reverse, LT_rev]
  exact Ev.bind hr hf
end Go.Proofs.YtoiboejefgejfaaDoor.PB
namespace Go.Proofs.YtoiboejefgejfaaDoor.PB
open Go.RowKit Go.Proofs.YtoiboejefgejfaaDoorW.PrintWords Go.Proofs.YtoiboejefgejfaaDoorW.PrintMore Go.Proofs.YtoiboejefgejfaaDoor.P Go.Proofs.YtoiboejefgejfaaDoor.U Go.Proofs.YtoiboejefgejfaaDoor.UT Go.Proofs.YtoiboejefgejfaaDoor.UB
set_option linter.unusedVariables false
set_option maxRecDepth 100000 in
theorem pi_pd : ∀ n, n < 100 → ((strings_TrimPrefix.f ⟨(btPd ((n : Nat) : Int)).toArray⟩ ⟨#[48]⟩).bind fun q => (impl_ParseInt.f q).bind fun x => some x.1) = some ((n : Nat) : Int) := by decide +kernel
theorem part_pi {r : List Int} (h : ∀ n, n ∈ r → 1 ≤ n ∧ n ≤ 99) {t : Nat} (ht : t < r.length) : ∃ q x, strings_TrimPrefix.f (btPart t r) ⟨#[48]⟩ = some q ∧ impl_ParseInt.f q = some x ∧ x.1 = r[t] := by
  obtain ⟨m, e, h1, h2⟩ := row_at h ht
  have e2 := e
  rw [getD_at _ _ _ ht] at e2
  have hp : btPart t r = ⟨(btPd (m : Int)).toArray⟩ := by unfold btPart; rw [if_pos ht, e]
  obtain ⟨q, hq, h3⟩ := Option.bind_eq_some_iff.1 (pi_pd m (by omega))
  obtain ⟨x, hx, h4⟩ := Option.bind_eq_some_iff.1 h3
  exact ⟨q, x, by rw [hp]; exact hq, hx, by rw [e2]; exact Option.some.inj h4⟩
theorem pbAdd_ok (t : Nat) : ∀ (suf pre : List (List Int)), Rok (pre ++ suf) → pbAdd (suf.map (btPart t)) pre.length (pre.map (List.take (t + 1)) ++ suf.map (List.take t)) = some ((pre ++ suf).map (List.take (t + 1)))
  | [], pre, h => by rw [List.map_nil, pbAdd, List.map_nil, List.append_nil, List.append_nil]
  | r :: suf, pre, h => by
    have hr := h r (by simp)
    have ih := pbAdd_ok t suf (pre ++ [r]) (by rw [List.append_assoc]; exact h)
    rw [List.length_append, List.length_singleton, List.map_append, List.append_assoc, List.append_assoc] at ih
    rw [List.map_cons, List.map_cons, pbAdd]
    by_cases ht : t < r.length
    · obtain ⟨q, x, hq, hx, he⟩ := part_pi hr.2 ht
      have h1 : (pre.map (List.take (t + 1)) ++ r.take t :: suf.map (List.take t)).getD pre.length [] = r.take t := by
        have := get_at (pre.map (List.take (t + 1))) (r.take t) (suf.map (List.take t))
        rw [List.length_map] at this; exact this
      have h2 := put_at (pre.map (List.take (t + 1))) (r.take t) (r.take t ++ [x.1]) (suf.map (List.take t))
      rw [List.length_map] at h2
      rw [if_neg (fun hc => (part_dots hr.2 t).1 hc ht), hq, Option.bind_some, hx, Option.bind_some, h1, if_pos (by rw [List.length_take]; have := hr.1; omega), h2, he, ← List.take_succ_eq_append_getElem ht]
      exact ih
    · rw [if_pos ((part_dots hr.2 t).2 ht)]
      rw [show r.take t = r.take (t + 1) by rw [List.take_of_length_le (by omega), List.take_of_length_le (by omega)]]
      exact ih
theorem words_ln {rows : List (List Int)} (h : Rok rows) (hn : rows ≠ []) (t : Nat) : wordsB (Bt (ln t rows 0)) 32 = rows.map (btPart t) := by
  rw [wordsB_spa, tl_bt, spa_words t h hn]
theorem pbRows_ok {rows : List (List Int)} (h : Rok rows) (hn : rows ≠ []) (h5 : rows.length ≤ 5) : ∀ d t, pbRows ((RT rows t d).map Bt) (rows.map (List.take t)) = some (some (rows.map (List.take (t + d))))
  | 0, t => rfl
  | d + 1, t => by
    have ha := pbAdd_ok t rows [] h
    rw [List.map_nil, List.nil_append, List.nil_append, List.length_nil] at ha
    rw [RT, List.map_cons, pbRows, if_pos (ln_size h5 t), words_ln h hn t, if_pos (by rw [List.length_map, List.length_map]), ha, Option.bind_some, pbRows_ok h hn h5 d (t + 1), show t + 1 + d = t + (d + 1) by omega]
theorem pbFin_ev (s : ByteArray) (H : Int) (t : List (List Int)) : Ev (fun k => pbFin k s H (some t)) (fin s H t) := by
  unfold pbFin fin impl_IsValidBay.f
  cases hb : okBay H t
  · rw [if_neg (fun h => by cases h.1)]
    exact Ev.bind (ev_const rfl) (ev_neg (by rw [hb]; decide) (ev_const rfl))
  · have hm := okBay_mem hb
    obtain ⟨h, rfl, h1, h4, hx⟩ := high_of hb
    have hl := btT_len t hm.1.2 h
    have ht : Ev (fun k => impl_bayText.f k (h : Int) t) (Bt (btT t (h : Int).toNat)) := by
      refine ⟨3, fun k hk => ?_⟩
      have hc : btOk k (h : Int) t := by
        refine ⟨hk, ⟨by omega, by omega⟩, ⟨by omega, by omega⟩, by rw [Int.toNat_natCast]; omega, ?_⟩
        rw [List.all_eq_true]
        intro x hx2
        rw [List.all_eq_true]
        intro n hn2
        have := (hm.2 x hx2).2 n hn2
        exact decide_eq_true ⟨by omega, by omega⟩
      unfold impl_bayText.f
      dsimp only
      rw [if_pos hc]
      rfl
    refine Ev.bind (ev_const rfl) (ev_pos hb (Ev.bind ht ?_))
    by_cases e : Bt (btT t (h : Int).toNat) = s
    · exact ev_eq (ev_pos e (ev_const rfl)) (if_pos ⟨rfl, e⟩).symm
    · exact ev_eq (ev_neg e (ev_const rfl)) (if_neg (fun h => e h.2)).symm
theorem lines_text {l : List (List Int)} (h : Rok l) (H : Nat) (h1 : 1 ≤ H) : linesF (Bt (btT l H)) = ((LT l H).map Bt, true) := by
  obtain ⟨m, rfl⟩ : ∃ m, H = m + 1 := ⟨H - 1, by omega⟩
  have hw : wordsB (Bt (btT l (m + 1))) 10 = (LT l (m + 1) ++ [[]]).map Bt := by rw [wordsB_spa, tl_bt, spa_text h]
  have hlen : ((LT l (m + 1) ++ [[]]).map Bt).length = m + 1 + 1 := by rw [List.length_map, List.length_append, LT_length]; rfl
  unfold linesF
  rw [if_neg (by rw [bt_size, btT, btLine_eq]; simp), hw, hlen, Nat.add_sub_cancel]
  refine Prod.ext ?_ ?_
  · show ((LT l (m + 1) ++ [[]]).map Bt).take (m + 1) = _
    rw [← List.map_take, List.take_left' (LT_length l (m + 1))]
  · refine decide_eq_true ?_
    unfold rdOf
    rw [Int.toNat_natCast, List.map_append, List.getD_eq_getElem?_getD, List.getElem?_append_right (by rw [List.length_map, LT_length]; exact Nat.le_refl _), List.length_map, LT_length, Nat.sub_self]
    rfl
theorem take0 : ∀ (l : List (List Int)), l.map (List.take 0) = List.replicate l.length []
  | [] => rfl
  | x :: l => by rw [List.map_cons, take0 l, List.length_cons, List.replicate_succ, List.take_zero]
theorem impl_back (h : Int) (l : List (List Int)) (hb : okBay h l = true) : Ev (fun k => impl_ParseBay.f k (Bt (btT l h.toNat))) (h, l, true) := by
  have hm := okBay_mem hb
  obtain ⟨H, rfl, h1, h4, hx⟩ := high_of hb
  have hl := btT_len l hm.1.2 H
  have hne : l ≠ [] := by intro e; rw [e] at hm; exact absurd hm.1.1 (by decide)
  rw [Int.toNat_natCast]
  have hs : (Bt (btT l H)).size ≤ 64 := by rw [bt_size]; omega
  have hf := pbFin_ev (Bt (btT l H)) (H : Int) l
  rw [show fin (Bt (btT l H)) (H : Int) l = ((H : Int), l, true) by unfold fin; rw [if_pos ⟨hb, by rw [Int.toNat_natCast]⟩]] at hf
  have hlen : ((LT l H).map Bt).length = H := by rw [List.length_map, LT_length]
  have h0 : ((LT l H).map Bt).getD 0 ⟨#[]⟩ = Bt (ln (H - 1) l 0) := by
    obtain ⟨m, rfl⟩ : ∃ m, H = m + 1 := ⟨H - 1, by omega⟩
    rfl
  have hr := pbRows_ok hm.2 hne hm.1.2 H 0
  rw [show l.map (List.take (0 + H)) = l by
    rw [Nat.zero_add]
    conv => rhs; rw [← List.map_id l]
    exact List.map_congr_left (fun x hm => List.take_of_length_le (hx x hm)), take0 l] at hr
  unfold impl_ParseBay.f
  rw [lines_text hm.2 H h1]
  dsimp only
  rw [hlen]
  refine ev_pos (by omega) (ev_neg (by simp; omega) ?_)
  unfold impl_ParseBay.g
  rw [h0, hlen, words_ln hm.2 hne, List.length_map, ← List.map_reverse, LT_rev, hr]
  exact ev_pos (ln_size hm.1.2 _) (Ev.bind (ev_const rfl) hf)
end Go.Proofs.YtoiboejefgejfaaDoor.PB
namespace Go.Proofs.YtoiboejefgejfaaDoor.PB
open Go.RowKit Go.Proofs.YtoiboejefgejfaaDoorW.PrintWords Go.Proofs.YtoiboejefgejfaaDoorW.PrintMore Go.Proofs.YtoiboejefgejfaaDoor.P Go.Proofs.YtoiboejefgejfaaDoor.U Go.Proofs.YtoiboejefgejfaaDoor.UT Go.Proofs.YtoiboejefgejfaaDoor.UB
set_option linter.unusedVariables false
def bnd (n : Nat) (t : List (List Int)) : Prop := t.length ≤ n ∧ ∀ r, r ∈ t → r.length ≤ n
theorem bnd_mono {n m : Nat} {t : List (List Int)} (h : bnd n t) (hm : n ≤ m) : bnd m t := ⟨Nat.le_trans h.1 hm, fun r hr => Nat.le_trans (h.2 r hr) hm⟩
theorem sbAdd_tot : ∀ (ws : List ByteArray) (i : Nat) (t : List (List Int)) (n : Nat), bnd n t → n + ws.length ≤ 1000 → i ≤ t.length → ∃ o, sbAdd ws i t = some o ∧ ∀ t2, o = some t2 → bnd (n + ws.length) t2
  | [], i, t, n, hb, hn, hi => ⟨some t, rfl, fun t2 e => by rw [← Option.some.inj e]; exact bnd_mono hb (Nat.le_add_right _ _)⟩
  | p :: ps, i, t, n, hb, hn, hi => by
    rw [List.length_cons] at hn
    have hg : (sbGrow t i).length ≤ n + 1 ∧ i < (sbGrow t i).length ∧ ∀ r, r ∈ sbGrow t i → r.length ≤ n := by
      unfold sbGrow
      split
      · refine ⟨by rw [List.length_append, List.length_singleton]; exact Nat.succ_le_succ hb.1, by rw [List.length_append, List.length_singleton]; omega, fun r hr => ?_⟩
        rcases List.mem_append.1 hr with hr | hr
        · exact hb.2 r hr
        · rw [List.mem_singleton.1 hr]; exact Nat.zero_le _
      · exact ⟨Nat.le_succ_of_le hb.1, by omega, hb.2⟩
    obtain ⟨g, hge⟩ : ∃ g, g = sbGrow t i := ⟨_, rfl⟩
    rw [sbAdd, ← hge]
    rw [← hge] at hg
    obtain ⟨h1, h2, h3⟩ := hg
    have ht := hb.1
    rw [if_pos (by omega)]
    by_cases hd : p.data.toList = [46, 46]
    · rw [if_pos hd]
      obtain ⟨o, ho, hp⟩ := sbAdd_tot ps (i + 1) g (n + 1) ⟨h1, fun r hr => Nat.le_succ_of_le (h3 r hr)⟩ (by omega) h2
      exact ⟨o, ho, fun t2 e => bnd_mono (hp t2 e) (by rw [List.length_cons]; omega)⟩
    rw [if_neg hd]
    by_cases hz : p.size = 2
    · have hr : (g.getD i []).length ≤ n := by rw [getD_at _ _ _ h2]; exact h3 _ (List.getElem_mem h2)
      rw [if_neg (fun h => h hz), if_pos ⟨h2, by omega⟩]
      obtain ⟨o, ho, hp⟩ := sbAdd_tot ps (i + 1) (g.set i (g.getD i [] ++ [sbNum p])) (n + 1) ⟨by rw [List.length_set]; exact h1, fun r hm => by
        rcases List.mem_or_eq_of_mem_set hm with hm | rfl
        · exact Nat.le_succ_of_le (h3 r hm)
        · rw [List.length_append, List.length_singleton]; omega⟩ (by omega) (by rw [List.length_set]; exact h2)
      exact ⟨o, ho, fun t2 e => bnd_mono (hp t2 e) (by rw [List.length_cons]; omega)⟩
    · rw [if_pos hz]
      exact ⟨none, rfl, fun t2 e => by cases e⟩
theorem sbRows_tot : ∀ (ls : List ByteArray) (t : List (List Int)) (n : Nat), bnd n t → (∀ l, l ∈ ls → l.size ≤ 80) → n + 81 * ls.length ≤ 1000 → ∃ o, Ev (fun k => sbRows k ls t) o ∧ ∀ t2, o = some t2 → bnd 1000 t2
  | [], t, n, hb, hl, hn => ⟨some t, ev_const rfl, fun t2 e => by rw [← Option.some.inj e]; exact bnd_mono hb (by simp at hn; omega)⟩
  | l :: ls, t, n, hb, hl, hn => by
    rw [List.length_cons] at hn
    have hz := hl l List.mem_cons_self
    have hw := split_ev l 32 (by omega)
    have hlen : ((spa 32 [] l.data.toList).map Bt).length ≤ 81 := by
      have := (spa_len 32 l.data.toList []).2
      rw [List.length_map]
      have e : l.data.toList.length = l.size := by rw [Array.length_toList]; rfl
      omega
    obtain ⟨o, ho, hp⟩ := sbAdd_tot ((spa 32 [] l.data.toList).map Bt) 0 t n hb (by omega) (Nat.zero_le _)
    simp only [sbRows]
    cases o with
    | none => exact ⟨none, Ev.bind hw (ev_pos (by omega) (Ev.bind (ev_const ho) (ev_const rfl))), fun t2 e => by cases e⟩
    | some t1 =>
      obtain ⟨o2, h2, hp2⟩ := sbRows_tot ls t1 _ (hp t1 rfl) (fun x hx => hl x (List.mem_cons_of_mem _ hx)) (by omega)
      exact ⟨o2, Ev.bind hw (ev_pos (by omega) (Ev.bind (ev_const ho) h2)), hp2⟩
theorem pieces (s : ByteArray) (c : UInt8) : ∀ x, x ∈ (spa c [] s.data.toList).map Bt → x.size ≤ s.size := by
  intro x hx
  obtain ⟨y, hy, rfl⟩ := List.mem_map.1 hx
  have := spa_size c _ _ y hy
  have e : s.data.toList.length = s.size := by rw [Array.length_toList]; rfl
  rw [bt_size]
  simp at this
  omega
theorem spec_tot (s : ByteArray) (hs : s.size ≤ 1048576) : ∃ r, Ev (fun k => spec_ParseBay.f k s) r ∧ (r = (0, [], false) ∨ ∃ H t, r = fin s H t) := by
  have hw := split_ev s 10 hs
  obtain ⟨ls, hls⟩ : ∃ l, l = (spa 10 [] s.data.toList).map Bt := ⟨_, rfl⟩
  have hz := pieces s 10
  rw [← hls] at hw hz
  unfold spec_ParseBay.f
  by_cases hc : 80 < s.size ∨ ¬ (1 ≤ (ls.length : Int) - 1 ∧ (ls.length : Int) - 1 ≤ 4)
  · exact ⟨_, ev_pos hs (Ev.bind hw (ev_pos hc (ev_const rfl))), Or.inl rfl⟩
  · have h80 : ¬ 80 < s.size := fun h => hc (Or.inl h)
    have h4 : (ls.length : Int) - 1 ≤ 4 := by
      by_cases h : 1 ≤ (ls.length : Int) - 1 ∧ (ls.length : Int) - 1 ≤ 4
      · exact h.2
      · exact absurd (Or.inr h) hc
    obtain ⟨o, ho, hp⟩ := sbRows_tot (ls.take (ls.length - 1)).reverse [] 0 ⟨Nat.le_refl _, fun r hr => by cases hr⟩ (fun l hl => by have := hz l (List.mem_of_mem_take (List.mem_reverse.1 hl)); omega) (by rw [List.length_reverse, List.length_take]; omega)
    cases o with
    | none => exact ⟨_, ev_pos hs (Ev.bind hw (ev_neg hc (Ev.bind ho (ev_const rfl)))), Or.inl rfl⟩
    | some t =>
      have hb := hp t rfl
      exact ⟨_, ev_pos hs (Ev.bind hw (ev_neg hc (Ev.bind ho (sbFin_ev s _ t (by have := hb.1; omega) (fun x hx => by have := hb.2 x hx; omega))))), Or.inr ⟨_, _, rfl⟩⟩
theorem tp_tot (x y : ByteArray) (hx : x.size ≤ 1048576) : ∃ b, strings_TrimPrefix.f x y = some b ∧ b.size ≤ x.size := by
  unfold strings_TrimPrefix.f stringslite_TrimPrefix.f stringslite_HasPrefix.f
  by_cases h : y.size ≤ x.size
  · rw [if_pos (by omega), if_pos (by omega), if_pos (by omega)]
    dsimp only [Option.bind_some]
    split
    · rw [if_pos (by omega), if_pos (by omega)]
      refine ⟨_, rfl, ?_⟩
      rw [ByteArray.size_extract]; omega
    · exact ⟨_, rfl, Nat.le_refl _⟩
  · rw [if_neg (by omega)]
    exact ⟨_, rfl, Nat.le_refl _⟩
theorem get_set (t : List (List Int)) (i j : Nat) (y : List Int) : (t.set i y).getD j [] = y ∧ i = j ∨ (t.set i y).getD j [] = t.getD j [] ∧ (i ≠ j ∨ t.getD j [] = []) := by
  simp only [List.getD_eq_getElem?_getD, List.getElem?_set]
  by_cases e : i = j
  · subst e
    rw [if_pos rfl]
    by_cases hl : i < t.length
    · rw [if_pos hl]; exact Or.inl ⟨rfl, rfl⟩
    · rw [if_neg hl, List.getElem?_eq_none (by omega)]; exact Or.inr ⟨rfl, Or.inr rfl⟩
  · rw [if_neg e]; exact Or.inr ⟨rfl, Or.inl e⟩
theorem pbAdd_tot (B : Nat) (hB : B ≤ 999) : ∀ (ws : List ByteArray) (i : Nat) (t : List (List Int)), (∀ w, w ∈ ws → w.size ≤ 1048576) → (∀ j, (t.getD j []).length ≤ B + 1) → (∀ j, i ≤ j → (t.getD j []).length ≤ B) →
    ∃ t2, pbAdd ws i t = some t2 ∧ ∀ j, (t2.getD j []).length ≤ B + 1
  | [], i, t, hw, h1, h2 => ⟨t, rfl, h1⟩
  | p :: ps, i, t, hw, h1, h2 => by
    have hw2 := fun w hm => hw w (List.mem_cons_of_mem p hm)
    have hp := hw p List.mem_cons_self
    rw [pbAdd]
    by_cases hd : p.data.toList = [46, 46]
    · rw [if_pos hd]
      exact pbAdd_tot B hB ps (i + 1) t hw2 h1 (fun j hj => h2 j (by omega))
    · obtain ⟨q, hq, hqs⟩ := tp_tot p ⟨#[48]⟩ hp
      have hpi : impl_ParseInt.f q = some (piF q.data.toList) := by unfold impl_ParseInt.f; rw [if_pos (by omega)]
      have hi := h2 i (Nat.le_refl _)
      rw [if_neg hd, hq, Option.bind_some, hpi, Option.bind_some, if_pos (by omega)]
      refine pbAdd_tot B hB ps (i + 1) _ hw2 (fun j => ?_) (fun j hj => ?_)
      · rcases get_set t i j (t.getD i [] ++ [(piF q.data.toList).1]) with ⟨e, _⟩ | ⟨e, _⟩
        · rw [e, List.length_append, List.length_singleton]; omega
        · rw [e]; exact h1 j
      · rcases get_set t i j (t.getD i [] ++ [(piF q.data.toList).1]) with ⟨e, e2⟩ | ⟨e, _⟩
        · omega
        · rw [e]; exact h2 j (by omega)
theorem pbRows_tot : ∀ (ls : List ByteArray) (t : List (List Int)) (B : Nat), (∀ l, l ∈ ls → l.size ≤ 1048576) → (∀ j, (t.getD j []).length ≤ B) → B + ls.length ≤ 1000 → ∃ o, pbRows ls t = some o
  | [], t, B, hl, ht, hn => ⟨_, rfl⟩
  | l :: ls, t, B, hl, ht, hn => by
    rw [List.length_cons] at hn
    have hz := hl l List.mem_cons_self
    rw [pbRows, if_pos hz]
    by_cases e : (wordsB l 32).length = t.length
    · obtain ⟨t2, h2, h3⟩ := pbAdd_tot B (by omega) (wordsB l 32) 0 t (fun w hw => by rw [wordsB_spa] at hw; have := pieces l 32 w hw; omega) (fun j => Nat.le_succ_of_le (ht j)) (fun j _ => ht j)
      rw [if_pos e, h2, Option.bind_some]
      exact pbRows_tot ls t2 (B + 1) (fun x hx => hl x (List.mem_cons_of_mem _ hx)) h3 (by omega)
    · rw [if_neg e]
      exact ⟨_, rfl⟩
theorem impl_tot (s : ByteArray) (hs : s.size ≤ 1048576) : ∃ r, Ev (fun k => impl_ParseBay.f k s) r ∧ (r = (0, [], false) ∨ ∃ H t, r = fin s H t) := by
  have hz : ∀ x, x ∈ (linesF s).1 → x.size ≤ 1048576 := by
    unfold linesF
    split
    · intro x hx; cases hx
    · intro x hx
      have hx2 := List.mem_of_mem_take hx
      rw [wordsB_spa] at hx2
      have := pieces s 10 x hx2; omega
  obtain ⟨ls, hls⟩ : ∃ l, l = (linesF s).1 := ⟨_, rfl⟩
  unfold impl_ParseBay.f
  rw [← hls] at hz ⊢
  by_cases hc : (linesF s).2 = false ∨ ls.length = 0 ∨ 4 < ls.length
  · exact ⟨_, ev_pos hs (ev_pos hc (ev_const rfl)), Or.inl rfl⟩
  · have h4 : ¬ 4 < ls.length := fun h => hc (Or.inr (Or.inr h))
    have h0 : ¬ ls.length = 0 := fun h => hc (Or.inr (Or.inl h))
    have hg : (ls.getD 0 ⟨#[]⟩).size ≤ 1048576 := by
      rw [getD_at _ _ _ (by omega : 0 < ls.length)]
      exact hz _ (List.getElem_mem _)
    obtain ⟨o, ho⟩ := pbRows_tot ls.reverse (List.replicate (wordsB (ls.getD 0 ⟨#[]⟩) 32).length []) 0 (fun l hl => hz l (List.mem_reverse.1 hl)) (fun j => by
      rw [List.getD_eq_getElem?_getD, List.getElem?_replicate]
      split <;> exact Nat.le_refl _) (by rw [List.length_reverse]; omega)
    unfold impl_ParseBay.g
    cases o with
    | none => exact ⟨_, ev_pos hs (ev_neg hc (ev_pos hg (Ev.bind (ev_const ho) (ev_const rfl)))), Or.inl rfl⟩
    | some t => exact ⟨_, ev_pos hs (ev_neg hc (ev_pos hg (Ev.bind (ev_const ho) (pbFin_ev s _ t)))), Or.inr ⟨_, _, rfl⟩⟩
theorem fin_none {s : ByteArray} (h : ¬ ∃ H t, okBay H t = true ∧ Bt (btT t H.toNat) = s) (H : Int) (t : List (List Int)) : fin s H t = (0, [], false) := by
  unfold fin
  rw [if_neg (fun h2 => h ⟨H, t, h2⟩)]
theorem parse_same (s : ByteArray) (hs : s.size ≤ 1048576) : ∃ h l b, Ev (fun k => spec_ParseBay.f k s) (h, l, b) ∧ Ev (fun k => impl_ParseBay.f k s) (h, l, b) ∧ l.length ≤ 1048576 ∧ ∀ x, x ∈ l → x.length ≤ 1048576 := by
  by_cases h : ∃ H t, okBay H t = true ∧ Bt (btT t H.toNat) = s
  · obtain ⟨H, t, hb, rfl⟩ := h
    have hm := okBay_mem hb
    exact ⟨H, t, true, spec_back H t hb, impl_back H t hb, by have := hm.1.2; omega, fun x hx => by have := (hm.2 x hx).1; omega⟩
  · obtain ⟨r1, h1, e1⟩ := spec_tot s hs
    obtain ⟨r2, h2, e2⟩ := impl_tot s hs
    have q1 : r1 = (0, [], false) := by
      rcases e1 with e1 | ⟨H, t, e1⟩
      · exact e1
      · rw [e1, fin_none h]
    have q2 : r2 = (0, [], false) := by
      rcases e2 with e2 | ⟨H, t, e2⟩
      · exact e2
      · rw [e2, fin_none h]
    rw [q1] at h1
    rw [q2] at h2
    exact ⟨0, [], false, h1, h2, Nat.zero_le _, fun x hx => by cases hx⟩
end Go.Proofs.YtoiboejefgejfaaDoor.PB
