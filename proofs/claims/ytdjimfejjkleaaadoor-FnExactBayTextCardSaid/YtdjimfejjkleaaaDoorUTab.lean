/- The laws' own helpers over numbers in rows: sz, to, eq; and the reference's 'has' and 'in'. -/
import Derived.Test.YtdjimfejjkleaaaDoorPx0
import Derived.Test.YtdjimfejjkleaaaDoorPx1
import Derived.Test.YtdjimfejjkleaaaDoorPx2
import Derived.Test.YtdjimfejjkleaaaDoorPx8
import Derived.Test.YtdjimfejjkleaaaDoorU
namespace Go.Proofs.YtdjimfejjkleaaaDoor.UT
open Go.RowKit Go.Proofs.YtdjimfejjkleaaaDoorW.PrintWords Go.Proofs.YtdjimfejjkleaaaDoorW.PrintMore Go.Proofs.YtdjimfejjkleaaaDoor.P Go.Proofs.YtdjimfejjkleaaaDoor.U
set_option linter.unusedVariables false

theorem rd_l1 (l : List (List Int)) (i : Nat) (h : i < l.length) : rd_L1 l (i : Int) = l[i] := by
  unfold rd_L1
  rw [Int.toNat_natCast]
  exact getD_at l i _ h

/-- What 'sz' leaves of n; -1 if it is too much. -/
def szT (l : List (List Int)) (n : Int) : Int := l.foldl (fun m x => if m < 0 then m else if m - (x.length : Int) < 0 then -1 else m - (x.length : Int)) n
theorem szT_neg (l : List (List Int)) : szT l (-1) = -1 := by
  unfold szT
  induction l with
  | nil => rfl
  | cons x l ih => rw [List.foldl_cons, if_pos (by omega)]; exact ih
theorem szT_le : ∀ (l : List (List Int)) (n : Int), 0 ≤ szT l n → ∀ x, x ∈ l → (x.length : Int) ≤ n
  | [], _, _, x, hx => by cases hx
  | y :: l, n, h, x, hx => by
    unfold szT at h
    rw [List.foldl_cons] at h
    change 0 ≤ szT l _ at h
    by_cases h0 : n < 0
    · rw [if_pos h0] at h
      exact absurd h (by
        have hk : ∀ (l : List (List Int)) (n : Int), n < 0 → szT l n < 0 := by
          intro l
          induction l with
          | nil => intro n hn; exact hn
          | cons z l ih => intro n hn; unfold szT; rw [List.foldl_cons, if_pos hn]; exact ih n hn
        have := hk l n h0
        omega)
    · rw [if_neg h0] at h
      by_cases h1 : n - (y.length : Int) < 0
      · rw [if_pos h1, szT_neg] at h
        omega
      · rw [if_neg h1] at h
        rcases List.mem_cons.1 hx with rfl | hx
        · omega
        · have := szT_le l _ h x hx
          omega
theorem sz1 (l : List Int) (n : Int) (hn : 0 ≤ n ∧ n ≤ 1048576) (hl : l.length ≤ 9223372036854775807) : laws_szIntS.f l n = some (if n - (l.length : Int) < 0 then -1 else n - (l.length : Int)) := by
  unfold laws_szIntS.f
  rw [wr (by omega) (by omega)]
  split <;> rfl
theorem sz_l (l : List (List Int)) (hl : l.length ≤ 9223372036854775807) (hx : ∀ x, x ∈ l → x.length ≤ 9223372036854775807) : ∀ d i (n : Int), i + d = l.length → 0 ≤ n ∧ n ≤ 1048576 → Ev (fun k => laws_szIntSS.l0 k l n (i : Int)) (szT (l.drop i) n) := by
  intro d
  induction d with
  | zero =>
    intro i n hi hn
    refine Ev.step (fun k => by simp only [laws_szIntSS.l0]; rfl) ?_
    refine ev_neg (by omega) (ev_const ?_)
    rw [List.drop_of_length_le (by omega)]; rfl
  | succ d ih =>
    intro i n hi hn
    have hlt : i < l.length := by omega
    refine Ev.step (fun k => by simp only [laws_szIntSS.l0]; rfl) ?_
    refine ev_pos (by omega) (ev_pos (by omega) ?_)
    rw [rd_l1 l i hlt, wsucc hlt hl, List.drop_eq_getElem_cons hlt]
    refine ev_call (sz1 _ n hn (hx _ (List.getElem_mem hlt))) ?_
    by_cases h1 : n - (l[i].length : Int) < 0
    · refine ev_eq (ev_pos (by rw [if_pos h1]; omega) (ev_const rfl)) ?_
      unfold szT
      rw [List.foldl_cons, if_neg (by omega), if_pos h1]
      exact (szT_neg _).symm
    · have e2 : szT (l[i] :: l.drop (i + 1)) n = szT (l.drop (i + 1)) (n - (l[i].length : Int)) := by
        unfold szT
        rw [List.foldl_cons, if_neg (by omega), if_neg h1]
      rw [e2, if_neg h1]
      exact ev_neg h1 (ih (i + 1) _ (by omega) (by omega))
/-- 'sz' of rows: it is small, or it is told as too much. -/
theorem sz_ev (l : List (List Int)) (hl : l.length ≤ 9223372036854775807) (hx : ∀ x, x ∈ l → x.length ≤ 9223372036854775807) :
    ∃ n, Ev (fun k => laws_szIntSS.f k l 1048576) n ∧ n ≤ 1048576 ∧ (0 ≤ n → l.length ≤ 1048576 ∧ ∀ x, x ∈ l → x.length ≤ 1048576) := by
  unfold laws_szIntSS.f
  have e : wrap64 (1048576 - (l.length : Int)) = 1048576 - (l.length : Int) := wr (by omega) (by omega)
  rw [e]
  by_cases h : 1048576 - (l.length : Int) < 0
  · exact ⟨-1, ev_pos h (ev_const rfl), by omega, fun h => by omega⟩
  · refine ⟨_, ev_neg h (sz_l l hl hx l.length 0 _ (by omega) (by omega)), ?_, fun h0 => ⟨by omega, fun x hx => ?_⟩⟩
    · have hk : ∀ (l : List (List Int)) (n : Int), n ≤ 1048576 → szT l n ≤ 1048576 := by
        intro l
        induction l with
        | nil => intro n hn; exact hn
        | cons z l ih =>
          intro n hn
          unfold szT
          rw [List.foldl_cons]
          refine ih _ ?_
          split
          · exact hn
          · split <;> omega
      exact hk _ _ (by omega)
    · have := szT_le _ _ h0 x hx
      omega

theorem to1_l (l : List Int) (hn : l.length ≤ 1048576) : ∀ d i (acc : List Int), i + d = l.length → acc.length = l.length → acc.take i = l.take i → Ev (fun k => laws_toIntS.l0 k l acc (i : Int)) l := by
  intro d
  induction d with
  | zero =>
    intro i acc hi ha ht
    refine Ev.step (fun k => by simp only [laws_toIntS.l0]; rfl) (ev_neg (by omega) (ev_const ?_))
    rw [List.take_of_length_le (by omega), List.take_of_length_le (by omega)] at ht
    rw [ht]
  | succ d ih =>
    intro i acc hi ha ht
    have hlt : i < l.length := by omega
    refine Ev.step (fun k => by simp only [laws_toIntS.l0]; rfl) ?_
    refine ev_pos (by omega) (ev_pos (by omega) (ev_pos (by omega) ?_))
    rw [wsucc hlt (by omega), Int.toNat_natCast, rd_at l i hlt]
    refine ih (i + 1) _ (by omega) (by rw [List.length_set]; exact ha) ?_
    rw [fill_step ht (by omega), List.take_succ_eq_append_getElem hlt]
theorem to1 (l : List Int) (hn : l.length ≤ 1048576) : Ev (fun k => laws_toIntS.f k l) l := by
  unfold laws_toIntS.f
  refine ev_pos (by omega) (ev_pos (by omega) ?_)
  exact to1_l l hn l.length 0 _ (by omega) (by simp) (by simp)
theorem to_l (l : List (List Int)) (hn : l.length ≤ 1048576) (hx : ∀ x, x ∈ l → x.length ≤ 1048576) : ∀ d i (acc : List (List Int)), i + d = l.length → acc.length = l.length → acc.take i = l.take i → Ev (fun k => laws_toIntSS.l0 k l acc (i : Int)) l := by
  intro d
  induction d with
  | zero =>
    intro i acc hi ha ht
    refine Ev.step (fun k => by simp only [laws_toIntSS.l0]; rfl) (ev_neg (by omega) (ev_const ?_))
    rw [List.take_of_length_le (by omega), List.take_of_length_le (by omega)] at ht
    rw [ht]
  | succ d ih =>
    intro i acc hi ha ht
    have hlt : i < l.length := by omega
    refine Ev.step (fun k => by simp only [laws_toIntSS.l0]; rfl) ?_
    refine ev_pos (by omega) (ev_pos (by omega) ?_)
    rw [wsucc hlt (by omega), Int.toNat_natCast, rd_l1 l i hlt]
    refine Ev.bind (to1 _ (hx _ (List.getElem_mem hlt))) (ev_pos (by omega) ?_)
    refine ih (i + 1) _ (by omega) (by rw [List.length_set]; exact ha) ?_
    rw [fill_step ht (by omega), List.take_succ_eq_append_getElem hlt]
theorem to_ev (l : List (List Int)) (hn : l.length ≤ 1048576) (hx : ∀ x, x ∈ l → x.length ≤ 1048576) : Ev (fun k => laws_toIntSS.f k l) l := by
  unfold laws_toIntSS.f
  refine ev_pos (by omega) (ev_pos (by omega) ?_)
  exact to_l l hn hx l.length 0 _ (by omega) (by simp) (by simp)

theorem eq1_l (l : List Int) (hn : l.length ≤ 9223372036854775807) : ∀ d i, i + d = l.length → Ev (fun k => laws_eqIntS.l0 k l l (i : Int)) true := by
  intro d
  induction d with
  | zero => intro i hi; exact Ev.step (fun k => by simp only [laws_eqIntS.l0]; rfl) (ev_neg (by omega) (ev_const rfl))
  | succ d ih =>
    intro i hi
    refine Ev.step (fun k => by simp only [laws_eqIntS.l0]; rfl) ?_
    refine ev_pos (by omega) (ev_pos (by omega) (ev_pos (by omega) (ev_pos (by simp) ?_)))
    rw [wsucc (show i < l.length by omega) (by omega)]
    exact ih (i + 1) (by omega)
theorem eq1 (l : List Int) (hn : l.length ≤ 9223372036854775807) : Ev (fun k => laws_eqIntS.f k l l) true := by
  unfold laws_eqIntS.f
  exact ev_pos rfl (eq1_l l hn l.length 0 (by omega))
theorem eq_l (l : List (List Int)) (hn : l.length ≤ 9223372036854775807) (hx : ∀ x, x ∈ l → x.length ≤ 9223372036854775807) : ∀ d i, i + d = l.length → Ev (fun k => laws_eqIntSS.l0 k l l (i : Int)) true := by
  intro d
  induction d with
  | zero => intro i hi; exact Ev.step (fun k => by simp only [laws_eqIntSS.l0]; rfl) (ev_neg (by omega) (ev_const rfl))
  | succ d ih =>
    intro i hi
    have hlt : i < l.length := by omega
    refine Ev.step (fun k => by simp only [laws_eqIntSS.l0]; rfl) ?_
    refine ev_pos (by omega) (ev_pos (by omega) (ev_pos (by omega) ?_))
    rw [rd_l1 l i hlt]
    refine Ev.bind (eq1 _ (hx _ (List.getElem_mem hlt))) (ev_pos rfl ?_)
    rw [wsucc hlt hn]
    exact ih (i + 1) (by omega)
theorem eq_ev (l : List (List Int)) (hn : l.length ≤ 9223372036854775807) (hx : ∀ x, x ∈ l → x.length ≤ 9223372036854775807) : Ev (fun k => laws_eqIntSS.f k l l) true := by
  unfold laws_eqIntSS.f
  exact ev_pos rfl (eq_l l hn hx l.length 0 (by omega))

theorem in_spec (a b c : Int) : spec_l1In.f a b c = some (inr a b c) := by
  unfold spec_l1In.f inr
  by_cases h : b ≤ a <;> simp [h]
theorem has_l (l : List Int) (v : Int) (hn : l.length ≤ 9223372036854775807) : ∀ d i, i + d = l.length → Ev (fun k => spec_l1Has.l0 k l v (i : Int)) ((l.drop i).contains v) := by
  intro d
  induction d with
  | zero =>
    intro i hi
    refine Ev.step (fun k => by simp only [spec_l1Has.l0]; rfl) (ev_neg (by omega) (ev_const ?_))
    rw [List.drop_of_length_le (by omega)]; rfl
  | succ d ih =>
    intro i hi
    have hlt : i < l.length := by omega
    refine Ev.step (fun k => by simp only [spec_l1Has.l0]; rfl) ?_
    refine ev_pos (by omega) (ev_pos (by omega) ?_)
    rw [rd_at l i hlt, wsucc hlt hn, List.drop_eq_getElem_cons hlt, List.contains_cons]
    by_cases e : l[i] = v
    · exact ev_eq (ev_pos e (ev_const rfl)) (by simp [e])
    · exact ev_eq (ev_neg e (ih (i + 1) (by omega))) (by simp [Ne.symm e])
theorem has_ev (l : List Int) (v : Int) (hn : l.length ≤ 9223372036854775807) : Ev (fun k => spec_l1Has.f k l v) (l.contains v) := by
  unfold spec_l1Has.f
  exact has_l l v hn l.length 0 (by omega)
end Go.Proofs.YtdjimfejjkleaaaDoor.UT
