/- UTabL, USt, UMark0, UMarkH, UOrd, as one text. -/
import Derived.Test.YtgeefafkjokmeaaPx0
import Derived.Test.YtgeefafkjokmeaaPx1
import Derived.Test.YtgeefafkjokmeaaPx2
import Derived.Test.YtgeefafkjokmeaaPx5
import Derived.Test.YtgeefafkjokmeaaPx7
import Derived.Test.YtgeefafkjokmeaaU
import Derived.Sort.LotA
namespace Go.Proofs.Ytgeefafkjokmeaa.UT
open Go.RowKit Go.Proofs.YtgeefafkjokmeaaW.PrintWords Go.Proofs.YtgeefafkjokmeaaW.PrintMore Go.Proofs.Ytgeefafkjokmeaa.P Go.Proofs.Ytgeefafkjokmeaa.U
set_option linter.unusedVariables false

theorem rd_l1 (l : List (List Int)) (i : Nat) (h : i < l.length) : rd_L1 l (i : Int) = l[i] := by
  unfold rd_L1
  rw [Int.toNat_natCast]
  exact getD_at l i _ h

theorem sz1 (l : List Int) (n : Int) (hn : 0 ≤ n ∧ n ≤ 1048576) (hl : l.length ≤ 9223372036854775807) : laws_szIntS.f l n = some (if n - (l.length : Int) < 0 then -1 else n - (l.length : Int)) := by
  unfold laws_szIntS.f
  rw [wr (by omega) (by omega)]
  split <;> rfl
theorem to1_l (l : List Int) (hn : l.length ≤ 1048576) : ∀ d i (acc : List Int), i + d = l.length → acc.length = l.length → acc.take i = l.take i → Ev (fun k => laws_toIntS.l0 k l acc (i : Int)) l := by
  intro d
  induction d with
  | zero =>
    intro i acc hi ha ht
    refine Ev.step (fun k => by simp only [laws_toIntS.l0]; rfl) (ev_neg (by omega) (ev_const ?_))
    rw [List.take_of_length_le (by omega), List.take_of_length_le (by omega)] at ht
    rw [ht]
  | succ d ih =>
    intro i acc hi ha ht
    have hlt : i < l.length := by omega
    refine Ev.step (fun k => by simp only [laws_toIntS.l0]; rfl) ?_
    refine ev_pos (by omega) (ev_pos (by omega) (ev_pos (by omega) ?_))
    rw [wsucc hlt (by omega), Int.toNat_natCast, rd_at l i hlt]
    refine ih (i + 1) _ (by omega) (by rw [List.length_set]; exact ha) ?_
    rw [fill_step ht (by omega), List.take_succ_eq_append_getElem hlt]
theorem to1 (l : List Int) (hn : l.length ≤ 1048576) : Ev (fun k => laws_toIntS.f k l) l := by
  unfold laws_toIntS.f
  refine ev_pos (by omega) (ev_pos (by omega) ?_)
  exact to1_l l hn l.length 0 _ (by omega) (by simp) (by simp)
theorem eq1_l (l : List Int) (hn : l.length ≤ 9223372036854775807) : ∀ d i, i + d = l.length → Ev (fun k => laws_eqIntS.l0 k l l (i : Int)) true := by
  intro d
  induction d with
  | zero => intro i hi; exact Ev.step (fun k => by simp only [laws_eqIntS.l0]; rfl) (ev_neg (by omega) (ev_const rfl))
  | succ d ih =>
    intro i hi
    refine Ev.step (fun k => by simp only [laws_eqIntS.l0]; rfl) ?_
    refine ev_pos (by omega) (ev_pos (by omega) (ev_pos (by omega) (ev_pos (by simp) ?_)))
    rw [wsucc (show i < l.length by omega) (by omega)]
    exact ih (i + 1) (by omega)
theorem eq1 (l : List Int) (hn : l.length ≤ 9223372036854775807) : Ev (fun k => laws_eqIntS.f k l l) true := by
  unfold laws_eqIntS.f
  exact ev_pos rfl (eq1_l l hn l.length 0 (by omega))
theorem in_spec (a b c : Int) : spec_l1In.f a b c = some (inr a b c) := by
  unfold spec_l1In.f inr
  by_cases h : b ≤ a <;> simp [h]
end Go.Proofs.Ytgeefafkjokmeaa.UT
namespace Go.Proofs.Ytgeefafkjokmeaa.UB
open Go.RowKit Go.Proofs.YtgeefafkjokmeaaW.PrintWords Go.Proofs.YtgeefafkjokmeaaW.PrintMore Go.Proofs.Ytgeefafkjokmeaa.P Go.Proofs.Ytgeefafkjokmeaa.U Go.Proofs.Ytgeefafkjokmeaa.UT
set_option linter.unusedVariables false

theorem in_impl (a b c : Int) : impl_within.f a b c = some (inr a b c) := by
  unfold impl_within.f inr
  by_cases h : b ≤ a <;> simp [h]
theorem all_not_any (p : Int → Bool) : ∀ l : List Int, l.all p = !(l.any fun x => !p x)
  | [] => rfl
  | x :: l => by rw [List.all_cons, List.any_cons, all_not_any p l]; cases p x <;> simp
/-! Stowages. -/
theorem ports_l (a b : Int) (l : List Int) (hn : l.length ≤ 9223372036854775807) : ∀ d i, i + d = l.length → Ev (fun k => spec_l10Good.l0 k (i : Int) a b l) ((l.drop i).all (fun x => inr x 1 9)) := by
  intro d
  induction d with
  | zero =>
    intro i hi
    refine Ev.step (fun k => by simp only [spec_l10Good.l0]; rfl) ?_
    refine ev_neg (by omega) (ev_const ?_)
    rw [List.drop_of_length_le (by omega)]; simp
  | succ d ih =>
    intro i hi
    have hlt : i < l.length := by omega
    refine Ev.step (fun k => by simp only [spec_l10Good.l0]; rfl) ?_
    rw [rd_at l i hlt, wsucc hlt hn, List.drop_eq_getElem_cons hlt, List.all_cons]
    refine ev_pos (by omega) (ev_pos (by omega) (ev_call (in_spec _ _ _) ?_))
    cases h : inr l[i] 1 9
    · exact ev_neg (by simp) (ev_const (by simp))
    · exact ev_eq (ev_pos rfl (ih (i + 1) (by omega))) (by simp)
theorem st_spec (a b : Int) (l : List Int) (hn : l.length ≤ 9223372036854775807) : Ev (fun k => spec_l10Good.f k a b l) (okSt a b l) := by
  unfold spec_l10Good.f okSt
  have fs : Ev (fun k => spec_l10Good.j0 k true a b l) false := by
    refine Ev.step (fun k => by simp only [spec_l10Good.j0]; rfl) ?_
    exact ev_pos (by simp) (ev_const rfl)
  refine ev_call (in_spec _ _ _) ?_
  cases h1 : inr a 1 5
  · exact ev_neg (by simp) fs
  refine ev_pos rfl (ev_call (in_spec _ _ _) ?_)
  cases h2 : inr b 1 4
  · exact ev_neg (by simp) fs
  refine ev_pos rfl ?_
  have hp := impl_IsValidStowage.prod h1 h2
  rw [hp]
  by_cases h3 : (l.length : Int) ≤ 7
  · refine ev_neg (by omega) ?_
    rw [decide_eq_true h3]
    by_cases h4 : (l.length : Int) ≤ a * b
    · rw [decide_eq_true h4]
      refine Ev.step (fun k => by simp only [spec_l10Good.j0]; rfl) ?_
      refine ev_neg (by simp; omega) ?_
      exact ev_eq (ports_l a b l hn l.length 0 (by omega)) (by rw [List.drop_zero, all_not_any]; simp)
    · rw [decide_eq_false h4]
      refine Ev.step (fun k => by simp only [spec_l10Good.j0]; rfl) ?_
      exact ev_pos (by simp; omega) (ev_const (by simp))
  · rw [decide_eq_false h3]
    exact ev_eq (ev_pos (by omega) fs) (by simp)
end Go.Proofs.Ytgeefafkjokmeaa.UB
namespace Go.Proofs.Ytgeefafkjokmeaa.UK
open Go.RowKit Go.Proofs.YtgeefafkjokmeaaW.PrintWords Go.Proofs.YtgeefafkjokmeaaW.PrintMore Go.Proofs.Ytgeefafkjokmeaa.P Go.Proofs.Ytgeefafkjokmeaa.U Go.Proofs.Ytgeefafkjokmeaa.UT
set_option linter.unusedVariables false

/-! What holds from some number of rounds on. -/
def EvP (P : Nat → Prop) : Prop := ∃ K, ∀ k, K ≤ k → P k
theorem EvP.rounds {P : Nat → Prop} (h : EvP P) : ∃ k, P k := by
  obtain ⟨K, h⟩ := h
  exact ⟨K, h K (Nat.le_refl _)⟩
theorem EvP.tr : EvP fun _ => True := ⟨0, fun _ _ => trivial⟩
theorem EvP.bind {α : Type} {g : Nat → Option α} {r : α} {Q : Nat → α → Prop} (h : Ev g r) (hq : EvP fun k => Q k r) : EvP fun k => ∃ t, g k = some t ∧ Q k t := by
  obtain ⟨K, h⟩ := h
  obtain ⟨K', h'⟩ := hq
  exact ⟨max K K', fun k hk => ⟨r, h k (by omega), h' k (by omega)⟩⟩
theorem EvP.bind2 {α β : Type} {g : Nat → Option (α × β)} {r : α} {s : β} {Q : Nat → α → β → Prop} (h : Ev g (r, s)) (hq : EvP fun k => Q k r s) : EvP fun k => ∃ t u, g k = some (t, u) ∧ Q k t u := by
  obtain ⟨K, h⟩ := h
  obtain ⟨K', h'⟩ := hq
  exact ⟨max K K', fun k hk => ⟨r, s, h k (by omega), h' k (by omega)⟩⟩
theorem EvP.bind3 {α β γ : Type} {g : Nat → Option (α × β × γ)} {r : α} {s : β} {v : γ} {Q : Nat → α → β → γ → Prop} (h : Ev g (r, s, v)) (hq : EvP fun k => Q k r s v) : EvP fun k => ∃ t u x, g k = some (t, u, x) ∧ Q k t u x := by
  obtain ⟨K, h⟩ := h
  obtain ⟨K', h'⟩ := hq
  exact ⟨max K K', fun k hk => ⟨r, s, v, h k (by omega), h' k (by omega)⟩⟩
theorem EvP.bind4 {α β γ δ : Type} {g : Nat → Option (α × β × γ × δ)} {r : α} {s : β} {v : γ} {z : δ} {Q : Nat → α → β → γ → δ → Prop} (h : Ev g (r, s, v, z)) (hq : EvP fun k => Q k r s v z) : EvP fun k => ∃ t u x y, g k = some (t, u, x, y) ∧ Q k t u x y := by
  obtain ⟨K, h⟩ := h
  obtain ⟨K', h'⟩ := hq
  exact ⟨max K K', fun k hk => ⟨r, s, v, z, h k (by omega), h' k (by omega)⟩⟩
theorem EvP.out {c : Prop} {Q : Nat → Prop} (h : c) : EvP fun k => c ∨ Q k := ⟨0, fun _ _ => Or.inl h⟩
theorem EvP.on {c : Prop} {Q : Nat → Prop} (h : ¬ c) (hq : EvP Q) : EvP fun k => c ∨ ¬ c ∧ Q k := by
  obtain ⟨K, hq⟩ := hq
  exact ⟨K, fun k hk => Or.inr ⟨h, hq k hk⟩⟩
theorem EvP.no {c : Prop} {Q : Nat → Prop} (h : ¬ c) (hq : EvP Q) : EvP fun k => ¬ c ∧ Q k := by
  obtain ⟨K, hq⟩ := hq
  exact ⟨K, fun k hk => ⟨h, hq k hk⟩⟩
theorem EvP.yes {c : Prop} {Q : Nat → Prop} (h : c) (hq : EvP Q) : EvP fun k => c ∧ Q k := by
  obtain ⟨K, hq⟩ := hq
  exact ⟨K, fun k hk => ⟨h, hq k hk⟩⟩

/-! Lists of numbers. -/
def mk1 (m : Nat) (n : Int) : List Int := (List.range m).map fun j : Nat => n + (j : Int)
theorem mk1_length (m : Nat) (n : Int) : (mk1 m n).length = m := by simp [mk1]
theorem mk1_get (m : Nat) (n : Int) (i : Nat) (h : i < (mk1 m n).length) : (mk1 m n)[i] = n + i := by simp [mk1]
theorem mark1_l (n : Int) (hn : 0 ≤ n ∧ n ≤ 4398046511104) (m : Nat) (hm : m ≤ 1048576) : ∀ d i (acc : List Int), i + d = m → acc.length = m → acc.take i = (mk1 m n).take i → Ev (fun k => laws_markIntS.l0 k acc (n + i) (i : Int)) (n + m, mk1 m n) := by
  intro d
  induction d with
  | zero =>
    intro i acc hi ha ht
    refine Ev.step (fun k => by simp only [laws_markIntS.l0]; rfl) (ev_neg (by omega) (ev_const ?_))
    rw [List.take_of_length_le (by omega), List.take_of_length_le (by rw [mk1_length]; omega)] at ht
    rw [ht, show i = m by omega]
  | succ d ih =>
    intro i acc hi ha ht
    have hlt : i < acc.length := by omega
    refine Ev.step (fun k => by simp only [laws_markIntS.l0]; rfl) ?_
    refine ev_pos (by omega) (ev_pos (by omega) ?_)
    rw [wsucc (n := m) (by omega) (by omega), Int.toNat_natCast, wr (x := n + (i : Int) + 1) (by omega) (by omega)]
    rw [show n + (i : Int) + 1 = n + ((i + 1 : Nat) : Int) by omega]
    refine ih (i + 1) _ (by omega) (by rw [List.length_set]; exact ha) ?_
    rw [fill_step ht hlt, List.take_succ_eq_append_getElem (show i < (mk1 m n).length by rw [mk1_length]; omega), mk1_get]
theorem mark1 (l : List Int) (n : Int) (hn : 0 ≤ n ∧ n ≤ 4398046511104) (hm : l.length ≤ 1048576) : Ev (fun k => laws_markIntS.f k l n) (n + (l.length : Int), mk1 l.length n) := by
  unfold laws_markIntS.f
  have h := mark1_l n hn l.length hm l.length 0 l (by omega) rfl (by simp)
  rw [show n + ((0 : Nat) : Int) = n by omega] at h
  exact h
end Go.Proofs.Ytgeefafkjokmeaa.UK
namespace Go.Proofs.Ytgeefafkjokmeaa.UK
open Go.RowKit Go.Proofs.YtgeefafkjokmeaaW.PrintWords Go.Proofs.YtgeefafkjokmeaaW.PrintMore Go.Proofs.Ytgeefafkjokmeaa.P Go.Proofs.Ytgeefafkjokmeaa.U Go.Proofs.Ytgeefafkjokmeaa.UT
set_option linter.unusedVariables false

theorem held1_l (n : Int) (hn : 0 ≤ n ∧ n ≤ 4398046511104) (m : Nat) (hm : m ≤ 1048576) : ∀ d i, i + d = m → Ev (fun k => laws_heldIntS.l0 k (mk1 m n) (n + i) (i : Int)) (n + m) := by
  intro d
  induction d with
  | zero =>
    intro i hi
    refine Ev.step (fun k => by simp only [laws_heldIntS.l0]; rfl) (ev_neg (by rw [mk1_length]; omega) (ev_const ?_))
    rw [show i = m by omega]
  | succ d ih =>
    intro i hi
    have hlt : i < (mk1 m n).length := by rw [mk1_length]; omega
    refine Ev.step (fun k => by simp only [laws_heldIntS.l0]; rfl) (ev_pos (by omega) (ev_pos (by omega) ?_))
    rw [wsucc (n := m) (by omega) (by omega), wr (x := n + (i : Int) + 1) (by omega) (by omega), rd_at _ i hlt, mk1_get]
    refine ev_pos rfl ?_
    rw [show n + (i : Int) + 1 = n + ((i + 1 : Nat) : Int) by omega]
    exact ih (i + 1) (by omega)
theorem held1 (m : Nat) (n : Int) (hn : 0 ≤ n ∧ n ≤ 4398046511104) (hm : m ≤ 1048576) : Ev (fun k => laws_heldIntS.f k (mk1 m n) n) (n + (m : Int)) := by
  unfold laws_heldIntS.f
  have h := held1_l n hn m hm m 0 (by omega)
  rw [show n + ((0 : Nat) : Int) = n by omega] at h
  exact h

end Go.Proofs.Ytgeefafkjokmeaa.UK
namespace Go.Proofs.Ytgeefafkjokmeaa.UB
open Go.RowKit Go.Proofs.YtgeefafkjokmeaaW.PrintWords Go.Proofs.YtgeefafkjokmeaaW.PrintMore Go.Proofs.Ytgeefafkjokmeaa.P Go.Proofs.Ytgeefafkjokmeaa.U Go.Proofs.Ytgeefafkjokmeaa.UT
open Go.Sort (insInner insOuter insertionSort swp swp_get size_swp SWO insertionSort_holds)
set_option linter.unusedVariables false

theorem insOuter_go (lt : Int → Int → Bool) (a b i : Nat) (d : Array Int) (h : i < b) : insOuter lt a b i d = insOuter lt a b (i + 1) (insInner lt a i d) := by rw [insOuter, if_pos h]
theorem insOuter_stop (lt : Int → Int → Bool) (a b i : Nat) (d : Array Int) (h : ¬ i < b) : insOuter lt a b i d = d := by rw [insOuter, if_neg h]
def po (P : List Int) (x : Int) : Int := P.getD (x - 1).toNat 0
def key (P : List Int) (x : Int) : Int := (10 - po P x) * 100 + x
def lt2 (P : List Int) (x y : Int) : Bool := decide (key P x < key P y)
def inn (n : Nat) (x : Int) : Prop := 1 ≤ x ∧ x ≤ (n : Int)
theorem cl_in {n : Nat} {x : Int} (h : inn n x) : ldCl n x = x := by unfold ldCl; exact if_pos h
theorem lt1_eq (P : List Int) {x y : Int} (hx : inn P.length x) (hy : inn P.length y) : Go.Proofs.ltOf (ldCf P) x y = decide (po P y < po P x) := by
  unfold Go.Proofs.ltOf ldCf ldCmp po
  rw [cl_in hx, cl_in hy]
  apply decide_eq_decide.mpr
  constructor
  · intro h
    split at h
    · assumption
    · split at h <;> omega
  · intro h; rw [if_pos h]; omega
theorem po_in {P : List Int} (hP : ∀ x, x ∈ P → 1 ≤ x ∧ x ≤ 9) {x : Int} (hx : inn P.length x) : 1 ≤ po P x ∧ po P x ≤ 9 := by
  unfold po
  obtain ⟨h1, h2⟩ := hx
  have h : (x - 1).toNat < P.length := by omega
  rw [getD_at _ _ _ h]
  exact hP _ (List.getElem_mem h)
theorem agree {P : List Int} (h7 : P.length ≤ 7) (hP : ∀ x, x ∈ P → 1 ≤ x ∧ x ≤ 9) {x y : Int} (hx : inn P.length x) (hy : inn P.length y) (hxy : y < x) : Go.Proofs.ltOf (ldCf P) x y = lt2 P x y := by
  rw [lt1_eq P hx hy]
  unfold lt2 key
  have h1 := po_in hP hx
  have h2 := po_in hP hy
  obtain ⟨a1, a2⟩ := hx
  obtain ⟨b1, b2⟩ := hy
  apply decide_eq_decide.mpr
  omega
theorem inner_same {P : List Int} (h7 : P.length ≤ 7) (hP : ∀ x, x ∈ P → 1 ≤ x ∧ x ≤ 9) : ∀ (j : Nat) (d : Array Int), j < d.size → (∀ q, q ≤ j → inn P.length d[q]!) → (∀ q, q < j → d[q]! < d[j]!) →
    insInner (Go.Proofs.ltOf (ldCf P)) 0 j d = insInner (lt2 P) 0 j d
  | 0, d, _, _, _ => by rw [insInner, insInner]
  | j + 1, d, hj, h1, h2 => by
    have e := agree h7 hP (h1 (j + 1) (Nat.le_refl _)) (h1 j (by omega)) (h2 j (by omega))
    rw [insInner, insInner, e]
    have g := swp_get d (i := j + 1) (j := j) hj (by omega)
    rw [inner_same h7 hP j (swp d (j + 1) j) (by rw [size_swp]; omega) (fun q hq => by
      rw [g]
      split
      · exact h1 _ (Nat.le_refl _)
      · rw [if_neg (by omega)]; exact h1 q (by omega)) (fun q hq => by
      rw [g, g, if_neg (by omega), if_neg (by omega), if_pos rfl]
      exact h2 q (by omega))]
theorem inner_keep (lt : Int → Int → Bool) (lo hi : Int) : ∀ (j : Nat) (d : Array Int), j < d.size → (∀ q, q ≤ j → lo ≤ d[q]! ∧ d[q]! ≤ hi) →
    (insInner lt 0 j d).size = d.size ∧ (∀ q, j < q → (insInner lt 0 j d)[q]! = d[q]!) ∧ (∀ q, q ≤ j → lo ≤ (insInner lt 0 j d)[q]! ∧ (insInner lt 0 j d)[q]! ≤ hi)
  | 0, d, _, h => by rw [insInner]; exact ⟨rfl, fun _ _ => rfl, h⟩
  | j + 1, d, hj, h => by
    rw [insInner]
    split
    · have g := swp_get d (i := j + 1) (j := j) hj (by omega)
      obtain ⟨k1, k2, k3⟩ := inner_keep lt lo hi j (swp d (j + 1) j) (by rw [size_swp]; omega) (fun q hq => by
        rw [g]
        split
        · exact h _ (Nat.le_refl _)
        · rw [if_neg (by omega)]; exact h q (by omega))
      refine ⟨by rw [k1, size_swp], fun q hq => ?_, fun q hq => ?_⟩
      · rw [k2 q (by omega), g, if_neg (by omega), if_neg (by omega)]
      · by_cases hq2 : q ≤ j
        · exact k3 q hq2
        · rw [k2 q (by omega), g, if_neg (by omega), if_pos (by omega)]
          exact h j (by omega)
    · exact ⟨rfl, fun _ _ => rfl, h⟩
theorem outer_same {P : List Int} (h7 : P.length ≤ 7) (hP : ∀ x, x ∈ P → 1 ≤ x ∧ x ≤ 9) : ∀ (m i : Nat) (d : Array Int), P.length - i = m → d.size = P.length → (∀ q, q < i → q < P.length → 1 ≤ d[q]! ∧ d[q]! ≤ (i : Int)) → (∀ q, i ≤ q → q < P.length → d[q]! = (q : Int) + 1) →
    insOuter (Go.Proofs.ltOf (ldCf P)) 0 P.length i d = insOuter (lt2 P) 0 P.length i d
  | 0, i, d, hm, _, _, _ => by rw [insOuter_stop _ _ _ _ _ (by omega), insOuter_stop _ _ _ _ _ (by omega)]
  | m + 1, i, d, hm, hs, h1, h2 => by
    have hi : i < P.length := by omega
    rw [insOuter_go _ _ _ _ _ hi, insOuter_go _ _ _ _ _ hi]
    have hd := h2 i (Nat.le_refl _) hi
    rw [inner_same h7 hP i d (by omega) (fun q hq => by
      by_cases hq2 : q < i
      · have := h1 q hq2 (by omega); exact ⟨this.1, by omega⟩
      · rw [show q = i by omega, hd]; exact ⟨by omega, by omega⟩) (fun q hq => by
      have := h1 q hq (by omega); omega)]
    obtain ⟨k1, k2, k3⟩ := inner_keep (lt2 P) 1 ((i : Int) + 1) i d (by omega) (fun q hq => by
      by_cases hq2 : q < i
      · have := h1 q hq2 (by omega); omega
      · rw [show q = i by omega, hd]; omega)
    exact outer_same h7 hP m (i + 1) _ (by omega) (by rw [k1]; exact hs) (fun q hq hq2 => by have := k3 q (by omega); omega) (fun q hq hq2 => by rw [k2 q (by omega)]; exact h2 q (by omega) hq2)
theorem lt2_swo (P : List Int) : SWO (lt2 P) := by
  unfold lt2
  refine ⟨fun x => by simp, fun x y z h1 h2 => ?_, fun x y z h1 h2 => ?_⟩
  · rw [decide_eq_true_eq] at *; omega
  · rw [decide_eq_false_iff_not] at *; omega
theorem nums_mem (n : Nat) (x : Int) : x ∈ ldNums n ↔ inn n x := by
  unfold ldNums inn
  rw [List.mem_map]
  constructor
  · rintro ⟨i, hi, rfl⟩
    have := List.mem_range.mp hi
    omega
  · rintro ⟨h1, h2⟩
    exact ⟨(x - 1).toNat, List.mem_range.mpr (by omega), by omega⟩
theorem nums_nodup (n : Nat) : (ldNums n).Nodup := by
  unfold ldNums
  rw [List.nodup_iff_pairwise_ne, List.pairwise_map]
  exact List.pairwise_lt_range.imp (fun {a b} h => by have : a < b := h; omega)
theorem eq_key (f : Int → Int) : ∀ (a b : List Int), a.Pairwise (fun x y => f x < f y) → b.Pairwise (fun x y => f x < f y) → (∀ x, x ∈ a ↔ x ∈ b) → a = b
  | [], [], _, _, _ => rfl
  | [], y :: b, _, _, h => by have := (h y).mpr List.mem_cons_self; cases this
  | x :: a, [], _, _, h => by have := (h x).mp List.mem_cons_self; cases this
  | x :: a, y :: b, ha, hb, h => by
    obtain ⟨a1, a2⟩ := List.pairwise_cons.mp ha
    obtain ⟨b1, b2⟩ := List.pairwise_cons.mp hb
    have hxy : x = y := by
      rcases List.mem_cons.mp ((h x).mp List.mem_cons_self) with e | hx
      · exact e
      · rcases List.mem_cons.mp ((h y).mpr List.mem_cons_self) with e | hy
        · exact e.symm
        · have := b1 x hx; have := a1 y hy; omega
    subst hxy
    rw [eq_key f a b a2 b2 (fun z => ?_)]
    constructor
    · intro hz
      rcases List.mem_cons.mp ((h z).mp (List.mem_cons_of_mem _ hz)) with rfl | hz2
      · have := a1 z hz; omega
      · exact hz2
    · intro hz
      rcases List.mem_cons.mp ((h z).mpr (List.mem_cons_of_mem _ hz)) with rfl | hz2
      · have := b1 z hz; omega
      · exact hz2
theorem ord_sorted {P : List Int} (h7 : P.length ≤ 7) (hP : ∀ x, x ∈ P → 1 ≤ x ∧ x ≤ 9) : (ldOrd P).Pairwise (fun x y => key P x < key P y) ∧ ∀ x, x ∈ ldOrd P ↔ inn P.length x := by
  have hs : (ldNums P.length).toArray.size = P.length := by simp [ldNums]
  have e : insertionSort (Go.Proofs.ltOf (ldCf P)) (ldNums P.length).toArray 0 P.length = insertionSort (lt2 P) (ldNums P.length).toArray 0 P.length := by
    have hat : ∀ q, q < P.length → (ldNums P.length).toArray[q]! = (q : Int) + 1 := fun q hq => by
      rw [getElem!_pos _ q (by rw [hs]; exact hq)]
      simp [ldNums]
    unfold insertionSort
    exact outer_same h7 hP _ _ _ rfl hs (fun q hq hq2 => by rw [hat q hq2]; omega) (fun q _ hq2 => hat q hq2)
  obtain ⟨⟨p1, _, p3⟩, s1⟩ := insertionSort_holds (lt2_swo P) (ldNums P.length).toArray 0 P.length (Nat.zero_le _) (by rw [hs]; exact Nat.le_refl _)
  rw [← e] at p1 p3 s1
  generalize hres : insertionSort (Go.Proofs.ltOf (ldCf P)) (ldNums P.length).toArray 0 P.length = res at p1 p3 s1
  have hsz : res.size = P.length := by rw [p1, hs]
  have hp : res.toList.Perm (ldNums P.length) := by
    have e1 : (res.extract 0 P.length) = res := by rw [← hsz]; simp
    have e2 : ((ldNums P.length).toArray.extract 0 P.length) = (ldNums P.length).toArray := by
      have := hs
      apply Array.ext
      · simp [ldNums]
      · intro i h1 h2; simp
    rw [e1, e2] at p3
    simpa using p3
  have hm : ∀ x, x ∈ res.toList ↔ inn P.length x := fun x => by rw [hp.mem_iff, nums_mem]
  have hnd : res.toList.Nodup := (hp.nodup_iff).mpr (nums_nodup _)
  have ho : ldOrd P = res.toList := by
    unfold ldOrd
    rw [hres]
    have : ∀ x, x ∈ res.toList → ldCl P.length x = x := fun x hx => cl_in ((hm x).mp hx)
    rw [List.map_congr_left this]
    simp
  rw [ho]
  refine ⟨?_, hm⟩
  rw [List.pairwise_iff_getElem]
  intro i j hi hj hij
  have hi2 : i < res.size := by simpa using hi
  have hj2 : j < res.size := by simpa using hj
  have h1 := s1 i j (Nat.zero_le _) hij (by omega)
  rw [getElem!_pos res i hi2, getElem!_pos res j hj2] at h1
  unfold lt2 at h1
  rw [decide_eq_false_iff_not] at h1
  rw [Array.getElem_toList, Array.getElem_toList]
  have hne : res[i] ≠ res[j] := fun h => by
    have h2 := List.pairwise_iff_getElem.mp (List.nodup_iff_pairwise_ne.mp hnd) i j hi hj hij
    rw [Array.getElem_toList, Array.getElem_toList] at h2
    exact h2 h
  have a1 := (hm res[i]).mp (by simp)
  have a2 := (hm res[j]).mp (by simp)
  have q1 := po_in hP a1
  have q2 := po_in hP a2
  unfold key at h1 ⊢
  unfold inn at a1 a2
  omega
/-! The reference's groups. -/
def pick (P : List Int) (p : Int) : Nat → Nat → List Int
  | 0, _ => []
  | d + 1, i => (if P.getD i 0 = p then [(i : Int) + 1] else []) ++ pick P p d (i + 1)
def refF (P : List Int) : Nat → List Int
  | 0 => []
  | p + 1 => pick P ((p + 1 : Nat) : Int) P.length 0 ++ refF P p
theorem pick_len (P : List Int) (p : Int) : ∀ d i, (pick P p d i).length ≤ d
  | 0, _ => Nat.le_refl _
  | d + 1, i => by
    unfold pick
    have := pick_len P p d (i + 1)
    rw [List.length_append]
    split
    · rw [List.length_singleton]; omega
    · rw [List.length_nil]; omega
theorem pick_mem (P : List Int) (p x : Int) : ∀ d i, x ∈ pick P p d i ↔ (i : Int) + 1 ≤ x ∧ x ≤ ((i + d : Nat) : Int) ∧ po P x = p
  | 0, i => by unfold pick; constructor
               · intro h; cases h
               · intro h; omega
  | d + 1, i => by
    unfold pick
    rw [List.mem_append, pick_mem P p x d (i + 1)]
    have hi : po P ((i : Int) + 1) = P.getD i 0 := by unfold po; rw [show ((i : Int) + 1 - 1).toNat = i by omega]
    constructor
    · rintro (h | ⟨h1, h2, h3⟩)
      · split at h
        · rename_i hp
          rw [List.mem_singleton] at h
          subst h
          exact ⟨by omega, by omega, by rw [hi]; exact hp⟩
        · cases h
      · exact ⟨by omega, by omega, h3⟩
    · rintro ⟨h1, h2, h3⟩
      by_cases hx : x = (i : Int) + 1
      · left
        subst hx
        rw [hi] at h3
        rw [if_pos h3]; exact List.mem_singleton.mpr rfl
      · right
        exact ⟨by omega, by omega, h3⟩
theorem pick_sorted (P : List Int) (p : Int) : ∀ d i, (pick P p d i).Pairwise (fun x y => key P x < key P y)
  | 0, _ => List.Pairwise.nil
  | d + 1, i => by
    unfold pick
    split
    · rename_i hp
      rw [List.singleton_append]
      refine List.pairwise_cons.mpr ⟨fun y hy => ?_, pick_sorted P p d (i + 1)⟩
      obtain ⟨h1, h2, h3⟩ := (pick_mem P p y d (i + 1)).mp hy
      have hi : po P ((i : Int) + 1) = P.getD i 0 := by unfold po; rw [show ((i : Int) + 1 - 1).toNat = i by omega]
      unfold key
      rw [hi, h3, hp]
      omega
    · rw [List.nil_append]; exact pick_sorted P p d (i + 1)
theorem ref_mem (P : List Int) (x : Int) : ∀ p : Nat, x ∈ refF P p ↔ inn P.length x ∧ 1 ≤ po P x ∧ po P x ≤ (p : Int)
  | 0 => by unfold refF; constructor
            · intro h; cases h
            · intro h; omega
  | p + 1 => by
    unfold refF
    rw [List.mem_append, pick_mem, ref_mem P x p]
    unfold inn
    constructor
    · rintro (h | h) <;> omega
    · intro h; omega
theorem ref_sorted {P : List Int} (h7 : P.length ≤ 7) : ∀ p : Nat, (refF P p).Pairwise (fun x y => key P x < key P y)
  | 0 => List.Pairwise.nil
  | p + 1 => by
    unfold refF
    refine List.pairwise_append.mpr ⟨pick_sorted P _ _ _, ref_sorted h7 p, fun x hx y hy => ?_⟩
    obtain ⟨a1, a2, a3⟩ := (pick_mem P _ x _ _).mp hx
    obtain ⟨b1, b2, b3⟩ := (ref_mem P y p).mp hy
    unfold inn at b1
    unfold key
    omega
theorem ord_ref {P : List Int} (h7 : P.length ≤ 7) (hP : ∀ x, x ∈ P → 1 ≤ x ∧ x ≤ 9) : ldOrd P = refF P 9 := by
  obtain ⟨h1, h2⟩ := ord_sorted h7 hP
  refine eq_key (key P) _ _ h1 (ref_sorted h7 9) (fun x => ?_)
  rw [h2, ref_mem]
  constructor
  · intro h; have := po_in hP h; exact ⟨h, this.1, by omega⟩
  · intro h; exact h.1
theorem ref_len (P : List Int) : ∀ p : Nat, (refF P p).length ≤ p * P.length
  | 0 => by simp [refF]
  | p + 1 => by
    unfold refF
    have h1 := pick_len P ((p + 1 : Nat) : Int) P.length 0
    have h2 := ref_len P p
    rw [List.length_append, Nat.succ_mul]; omega
theorem spec_pick {P : List Int} (h7 : P.length ≤ 7) (R h : Int) (p : Nat) (hp : 1 ≤ p ∧ p ≤ 9) (r : List Int × Bool) : ∀ d i (acc : List Int), i + d = P.length → acc.length + d ≤ 1000 →
    Ev (fun k => spec_LoadOrder.l0 k (acc ++ pick P (p : Int) d i) ((p - 1 : Nat) : Int) R h P) r → Ev (fun k => spec_LoadOrder.l1 k acc (p : Int) (i : Int) R h P) r := by
  intro d
  induction d with
  | zero =>
    intro i acc hi ha he
    refine Ev.step (fun k => by simp only [spec_LoadOrder.l1]; rfl) (ev_neg (by omega) ?_)
    rw [show pick P (p : Int) 0 i = [] from rfl, List.append_nil] at he
    rw [wr (x := (p : Int) - 1) (by omega) (by omega), show (p : Int) - 1 = ((p - 1 : Nat) : Int) by omega]
    exact he
  | succ d ih =>
    intro i acc hi ha he
    have hlt : i < P.length := by omega
    refine Ev.step (fun k => by simp only [spec_LoadOrder.l1]; rfl) (ev_pos (by omega) (ev_pos (by omega) ?_))
    rw [rd_at P i hlt, wsucc hlt (by omega)]
    rw [pick, getD_at _ _ _ hlt] at he
    by_cases hc : P[i] = (p : Int)
    · rw [if_pos hc, ← List.append_assoc] at he
      refine ev_pos hc (ev_pos (by omega) (ih (i + 1) _ (by omega) (by rw [List.length_append, List.length_singleton]; omega) ?_))
      rw [show ((i + 1 : Nat) : Int) = (i : Int) + 1 by omega]
      exact he
    · rw [if_neg hc, List.nil_append] at he
      exact ev_neg hc (ih (i + 1) acc (by omega) (by omega) he)
theorem spec_ref {P : List Int} (h7 : P.length ≤ 7) (R h : Int) : ∀ (p : Nat) (acc : List Int), p ≤ 9 → acc.length + 7 * p ≤ 900 → Ev (fun k => spec_LoadOrder.l0 k acc (p : Int) R h P) (acc ++ refF P p, true) := by
  intro p
  induction p with
  | zero =>
    intro acc _ _
    refine Ev.step (fun k => by simp only [spec_LoadOrder.l0]; rfl) (ev_neg (by omega) (ev_const ?_))
    rw [show refF P 0 = [] from rfl, List.append_nil]
  | succ p ih =>
    intro acc hp ha
    refine Ev.step (fun k => by simp only [spec_LoadOrder.l0]; rfl) (ev_pos (by omega) ?_)
    refine spec_pick h7 R h (p + 1) (by omega) _ P.length 0 acc (by omega) (by omega) ?_
    have hl := pick_len P ((p + 1 : Nat) : Int) P.length 0
    have := ih (acc ++ pick P ((p + 1 : Nat) : Int) P.length 0) (by omega) (by rw [List.length_append]; omega)
    rw [refF, ← List.append_assoc]
    exact this
theorem order_same (R h : Int) (l : List Int) (hn : l.length ≤ 1048576) :
    ∃ (r : List Int) (b : Bool), Ev (fun k => spec_LoadOrder.f k R h l) (r, b) ∧ Ev (fun k => impl_LoadOrder.f R h l) (r, b) ∧ r.length ≤ 1048576 := by
  unfold spec_LoadOrder.f impl_LoadOrder.f
  have hg := st_spec R h l (by omega)
  cases hk : okSt R h l
  · rw [hk] at hg
    exact ⟨[], false, Ev.bind (ev_const rfl) (Ev.bind hg (ev_neg (by simp) (ev_const rfl))), ev_const (by rw [if_neg (by simp)]), by simp⟩
  · rw [hk] at hg
    have hk2 := hk
    unfold okSt at hk2
    simp only [Bool.and_eq_true, decide_eq_true_eq] at hk2
    obtain ⟨_, _, h7, _, hp⟩ := hk2
    have h7 : l.length ≤ 7 := by omega
    have hP : ∀ x, x ∈ l → 1 ≤ x ∧ x ≤ 9 := fun x hx => by
      rw [← all_not_any] at hp
      exact inr_iff.mp (List.all_eq_true.mp hp x hx)
    have e := spec_ref h7 R h 9 [] (by omega) (by simp)
    rw [List.nil_append] at e
    have hl := ref_len l 9
    refine ⟨refF l 9, true, Ev.bind (ev_const rfl) (Ev.bind hg (ev_pos rfl e)), ev_const (by rw [if_pos rfl, ord_ref h7 hP]), by omega⟩
end Go.Proofs.Ytgeefafkjokmeaa.UB
