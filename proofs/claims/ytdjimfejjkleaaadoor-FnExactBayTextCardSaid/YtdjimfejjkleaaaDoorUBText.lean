/- The text of a bay: the reference's and the program's. -/
import Derived.Test.YtdjimfejjkleaaaDoorPx0
import Derived.Test.YtdjimfejjkleaaaDoorPx2
import Derived.Test.YtdjimfejjkleaaaDoorPx3
import Derived.Test.YtdjimfejjkleaaaDoorPx7
import Derived.Test.YtdjimfejjkleaaaDoorPx8
import Derived.Test.YtdjimfejjkleaaaDoorUBayB
import Derived.Test.YtdjimfejjkleaaaDoorUBayM
namespace Go.Proofs.YtdjimfejjkleaaaDoor.UB
open Go.RowKit Go.Proofs.YtdjimfejjkleaaaDoorW.PrintWords Go.Proofs.YtdjimfejjkleaaaDoorW.PrintMore Go.Proofs.YtdjimfejjkleaaaDoor.P Go.Proofs.YtdjimfejjkleaaaDoor.U Go.Proofs.YtdjimfejjkleaaaDoor.UT
set_option linter.unusedVariables false

def Bt (l : List UInt8) : ByteArray := ⟨l.toArray⟩
theorem bt_app (a b : List UInt8) : Bt a ++ Bt b = Bt (a ++ b) := by
  apply ByteArray.ext
  simp [Bt]
theorem bt_size (a : List UInt8) : (Bt a).size = a.length := by simp [Bt, ByteArray.size]
theorem bt_dig : ∀ d, d < 10 → (⟨#[48, 49, 50, 51, 52, 53, 54, 55, 56, 57]⟩ : ByteArray).extract d (d + 1) = Bt [(48 + d).toUInt8] := by decide +kernel
theorem b32 : (⟨#[32]⟩ : ByteArray) = Bt [32] := rfl
theorem b46 : (⟨#[46, 46]⟩ : ByteArray) = Bt [46, 46] := rfl
theorem b10 : (⟨#[10]⟩ : ByteArray) = Bt [10] := rfl
theorem quo10 (m : Nat) (hm : m < 100) : wrap64 (Int.tdiv (m : Int) 10) = ((m / 10 : Nat) : Int) := by
  rw [show Int.tdiv (m : Int) 10 = (m : Int) / 10 from Int.tdiv_eq_ediv_of_nonneg (by omega), wr (by omega) (by omega)]
  omega
theorem rem10 (m : Nat) : Int.tmod (m : Int) 10 = ((m % 10 : Nat) : Int) := by
  rw [show Int.tmod (m : Int) 10 = (m : Int) % 10 from Int.tmod_eq_emod_of_nonneg (by omega)]
  omega
theorem part_data (t : Nat) (row : List Int) : (btPart t row).data.toList = if t < row.length then btPd (row.getD t 0) else [46, 46] := by
  unfold btPart
  split <;> rfl
theorem part_len (t : Nat) (row : List Int) : (btPart t row).data.toList.length = 2 := by
  rw [part_data]
  split <;> rfl
/-- A line, row by row. -/
def ln (t : Nat) : List (List Int) → Nat → List UInt8
  | [], _ => []
  | r :: rs, i => ((if 0 < i then [32] else []) ++ (btPart t r).data.toList) ++ ln t rs (i + 1)
theorem ln_tail (t : Nat) : ∀ (rs : List (List Int)) (i : Nat), ln t rs (i + 1) = Go.Lib.joinTail [32] ((rs.map (btPart t)).map (·.data.toList))
  | [], _ => rfl
  | r :: rs, i => by
    rw [ln, if_pos (by omega), ln_tail t rs (i + 1)]
    simp [Go.Lib.joinTail]
theorem ln_join (t : Nat) (rows : List (List Int)) : ln t rows 0 = Go.Lib.join ((rows.map (btPart t)).map (·.data.toList)) [32] := by
  cases rows with
  | nil => rfl
  | cons r rs => rw [ln, if_neg (by omega), ln_tail, List.map_cons, List.map_cons, Go.Lib.join_cons, List.nil_append]
theorem ln_len (t : Nat) : ∀ (rs : List (List Int)) (i : Nat), (ln t rs i).length ≤ 3 * rs.length
  | [], _ => by simp [ln]
  | r :: rs, i => by
    have h1 := ln_len t rs (i + 1)
    have h2 := part_len t r
    rw [ln, List.length_append, List.length_append, h2, List.length_cons]
    split <;> simp <;> omega
theorem btLine_eq (rows : List (List Int)) (t : Nat) : btLine rows t = ln t rows 0 ++ [10] := by rw [ln_join]; rfl
theorem btT_len (rows : List (List Int)) (h5 : rows.length ≤ 5) : ∀ n, (btT rows n).length ≤ 16 * n
  | 0 => by simp [btT]
  | n + 1 => by
    have h1 := btT_len rows h5 n
    have h2 := ln_len n rows 0
    rw [btT, btLine_eq, List.length_append, List.length_append, List.length_singleton]
    omega
theorem text_row {rows : List (List Int)} (hn : rows.length ≤ 5) (hm : ∀ x, x ∈ rows → x.length ≤ 4 ∧ ∀ n, n ∈ x → 1 ≤ n ∧ n ≤ 99) (h : Int) (t : Nat) (ht : t ≤ 10) (T : List UInt8) (hT : T.length ≤ 1000000)
    (ih : ∀ acc, acc ++ btT rows t = T → Ev (fun k => spec_l9Text.l0 k (Bt acc) ((t : Int) - 1) h rows) (Bt T)) : ∀ d i (acc : List UInt8), i + d = rows.length → acc ++ ((ln t (rows.drop i) i ++ [10]) ++ btT rows t) = T →
      Ev (fun k => spec_l9Text.l1 k (Bt acc) (t : Int) (i : Int) h rows) (Bt T) := by
  intro d
  induction d with
  | zero =>
    intro i acc hi he
    have hal : acc.length ≤ 1000000 := by rw [← he, List.length_append] at hT; omega
    refine Ev.step (fun k => by simp only [spec_l9Text.l1]; rfl) (ev_neg (by omega) ?_)
    simp only [b10, bt_size, bt_app]
    rw [wr (x := (t : Int) - 1) (by omega) (by omega)]
    refine ev_pos (by omega) (ih _ ?_)
    rw [← he, List.drop_of_length_le (by omega), ln, List.nil_append, List.append_assoc]
  | succ d ihd =>
    intro i acc hi he
    have hlt : i < rows.length := by omega
    have hal : acc.length ≤ 1000000 := by rw [← he, List.length_append] at hT; omega
    have hrow := hm _ (List.getElem_mem hlt)
    rw [List.drop_eq_getElem_cons hlt, ln] at he
    refine Ev.step (fun k => by simp only [spec_l9Text.l1]; rfl) (ev_pos (by omega) ?_)
    rw [rd_l1 rows i hlt, wsucc hlt (by omega)]
    have go : ∀ acc2, acc2 = acc ++ ((if 0 < i then [32] else []) ++ (btPart t rows[i]).data.toList) → Ev (fun k => spec_l9Text.l1 k (Bt acc2) (t : Int) ((i + 1 : Nat) : Int) h rows) (Bt T) := by
      intro acc2 h2
      refine ihd (i + 1) acc2 (by omega) ?_
      rw [h2, ← he]
      simp only [List.append_assoc]
    rw [part_data] at go
    by_cases hs : t < rows[i].length
    · have hmem := hrow.2 rows[i][t] (List.getElem_mem hs)
      rw [if_pos hs, getD_at _ _ _ hs] at go
      obtain ⟨m, hmv⟩ := Int.eq_ofNat_of_zero_le (show 0 ≤ rows[i][t] by omega)
      rw [rd_at _ t hs]
      rw [hmv] at hmem go ⊢
      have hm100 : m < 100 := by omega
      rw [quo10 m hm100, rem10 m, wsucc (n := 10) (show m / 10 < 10 by omega) (by omega), wsucc (n := 10) (show m % 10 < 10 by omega) (by omega)]
      simp only [Int.toNat_natCast, bt_dig (m / 10) (by omega), bt_dig (m % 10) (by omega), b32, b46, bt_app, bt_size]
      unfold btPd at go
      rw [Int.toNat_natCast] at go
      by_cases hz : 0 < i
      · rw [if_pos hz] at go
        refine ev_pos (by omega) (ev_pos (by simp; omega) (ev_pos (by omega) (ev_neg (by omega) (ev_pos (by omega) (ev_pos (by omega) (ev_pos (by omega) (ev_pos (by omega) (ev_pos (by omega) (ev_pos (by simp; omega) (ev_pos (by omega) (ev_pos (by omega) (ev_pos (by omega) (ev_pos (by simp; omega) (go _ ?_))))))))))))))
        simp
      · rw [if_neg hz] at go
        refine ev_neg (by omega) (ev_pos (by omega) (ev_neg (by omega) (ev_pos (by omega) (ev_pos (by omega) (ev_pos (by omega) (ev_pos (by omega) (ev_pos (by omega) (ev_pos (by simp; omega) (ev_pos (by omega) (ev_pos (by omega) (ev_pos (by omega) (ev_pos (by simp; omega) (go _ ?_)))))))))))))
        simp
    · rw [if_neg hs] at go
      simp only [b32, b46, bt_app, bt_size]
      by_cases hz : 0 < i
      · rw [if_pos hz] at go
        refine ev_pos (by omega) (ev_pos (by simp; omega) (ev_pos (by omega) (ev_pos (by omega) (ev_pos (by simp; omega) (go _ ?_)))))
        simp
      · rw [if_neg hz] at go
        refine ev_neg (by omega) (ev_pos (by omega) (ev_pos (by omega) (ev_pos (by simp; omega) (go _ ?_))))
        simp
theorem text_all {rows : List (List Int)} (hn : rows.length ≤ 5) (hm : ∀ x, x ∈ rows → x.length ≤ 4 ∧ ∀ n, n ∈ x → 1 ≤ n ∧ n ≤ 99) (h : Int) (T : List UInt8) (hT : T.length ≤ 1000000) : ∀ t, t ≤ 10 → ∀ acc, acc ++ btT rows t = T →
      Ev (fun k => spec_l9Text.l0 k (Bt acc) ((t : Int) - 1) h rows) (Bt T) := by
  intro t
  induction t with
  | zero =>
    intro ht acc he
    rw [btT, List.append_nil] at he
    subst he
    exact Ev.step (fun k => by simp only [spec_l9Text.l0]; rfl) (ev_neg (by omega) (ev_const rfl))
  | succ t ih =>
    intro ht acc he
    rw [show ((t + 1 : Nat) : Int) - 1 = (t : Int) by omega]
    refine Ev.step (fun k => by simp only [spec_l9Text.l0]; rfl) (ev_pos (by omega) ?_)
    refine text_row hn hm h t (by omega) T hT (ih (by omega)) rows.length 0 acc (by omega) ?_
    rw [List.drop_zero, ← btLine_eq, ← he, btT]
theorem text_same (h : Int) (l : List (List Int)) (hn : l.length ≤ 1048576) (hx : ∀ x, x ∈ l → x.length ≤ 1048576) : ∃ r b, Ev (fun k => spec_BayText.f k h l) (r, b) ∧ Ev (fun k => impl_BayText.f k h l) (r, b) := by
  have hg := good_spec h l hn hx
  cases hb : okBay h l
  · rw [hb] at hg
    refine ⟨⟨#[]⟩, false, ?_, ?_⟩
    · unfold spec_BayText.f
      exact Ev.bind hg (ev_neg (by simp) (ev_const rfl))
    · unfold impl_BayText.f impl_IsValidBay.f
      rw [hb]
      exact Ev.bind (ev_const rfl) (ev_neg (by simp) (ev_const rfl))
  · rw [hb] at hg
    have hm := okBay_mem hb
    have hh : 1 ≤ h ∧ h ≤ 4 := by
      unfold okBay at hb
      simp only [Bool.and_eq_true] at hb
      exact inr_iff.mp hb.1
    obtain ⟨H, rfl⟩ := Int.eq_ofNat_of_zero_le (show 0 ≤ h by omega)
    have hl := btT_len l hm.1.2 H
    refine ⟨Bt (btT l H), true, ?_, ?_⟩
    · unfold spec_BayText.f spec_l9Text.f
      refine Ev.bind hg (ev_pos rfl (Ev.bind ?_ (ev_const rfl)))
      rw [wr (x := (H : Int) - 1) (by omega) (by omega)]
      exact text_all hm.1.2 hm.2 (H : Int) (btT l H) (by omega) H (by omega) [] (by simp)
    · unfold impl_BayText.f impl_IsValidBay.f
      rw [hb]
      refine Ev.bind (ev_const rfl) (ev_pos rfl (Ev.bind ⟨3, fun k hk => ?_⟩ (ev_const rfl)))
      have hc : btOk k (H : Int) l := by
        refine ⟨hk, ⟨by omega, by omega⟩, ⟨by omega, by omega⟩, by rw [Int.toNat_natCast]; omega, ?_⟩
        rw [List.all_eq_true]
        intro x hx2
        rw [List.all_eq_true]
        intro n hn2
        have := (hm.2 x hx2).2 n hn2
        exact decide_eq_true ⟨by omega, by omega⟩
      unfold impl_bayText.f
      dsimp only
      rw [if_pos hc, Int.toNat_natCast]
      rfl
end Go.Proofs.YtdjimfejjkleaaaDoor.UB
