/- The stack with most findings: the reference's and the program's. -/
import Derived.Test.YtmpmcckjpkijnaaPx0
import Derived.Test.YtmpmcckjpkijnaaPx11
import Derived.Test.YtmpmcckjpkijnaaPx23
import Derived.Test.YtmpmcckjpkijnaaPx24
import Derived.Test.YtmpmcckjpkijnaaUFindAll
namespace Go.Proofs.Ytmpmcckjpkijnaa.UF
open Go.RowKit Go.Proofs.YtmpmcckjpkijnaaW.PrintWords Go.Proofs.YtmpmcckjpkijnaaW.PrintMore Go.Proofs.Ytmpmcckjpkijnaa.P Go.Proofs.Ytmpmcckjpkijnaa.U Go.Proofs.Ytmpmcckjpkijnaa.UT Go.Proofs.Ytmpmcckjpkijnaa.UY Go.Proofs.Ytmpmcckjpkijnaa.UC
set_option linter.unusedVariables false

/-! What is among the findings. -/
theorem rl_in (cs : List C) (a i : Int) (row : List Int) (j : Nat) : ∀ r, r ∈ rl cs a i row j → 1 ≤ r ∧ r ≤ 4 := by
  intro r hr
  unfold rl at hr
  simp only [List.mem_append] at hr
  have h : ∀ (p : Prop) [Decidable p] (x : Int), r ∈ (if p then [x] else []) → r = x := by
    intro p _ x h
    split at h
    · simpa using h
    · cases h
  rcases hr with ((hr | hr) | hr) | hr
  all_goals (have := h _ _ hr; omega)
theorem fRow_in (cs : List C) (a : Int) (i : Nat) (row : List Int) : ∀ (e j : Nat) (acc : List F) (f : F), f ∈ fRow cs a i row e j acc → f ∈ acc ∨ (f.f1 = (i : Int) ∧ 1 ≤ f.f0 ∧ f.f0 ≤ 4)
  | 0, _, acc, f, h => Or.inl h
  | e + 1, j, acc, f, h => by
    rcases fRow_in cs a i row e (j + 1) _ f h with h | h
    · rcases List.mem_append.mp h with h | h
      · exact Or.inl h
      · obtain ⟨r, hr, rfl⟩ := List.mem_map.mp h
        have := rl_in cs a i row j r hr
        exact Or.inr ⟨rfl, this⟩
    · exact Or.inr h
theorem fAll_in (cs : List C) (a : Int) : ∀ (l : List (List Int)) (i : Nat) (acc : List F) (f : F), f ∈ fAll cs a l i acc → f ∈ acc ∨ ((i : Int) ≤ f.f1 ∧ f.f1 < ((i + l.length : Nat) : Int) ∧ 1 ≤ f.f0 ∧ f.f0 ≤ 4)
  | [], _, acc, f, h => Or.inl h
  | row :: l, i, acc, f, h => by
    rcases fAll_in cs a l (i + 1) _ f h with h | h
    · rcases fRow_in cs a i row row.length 0 acc f h with h | h
      · exact Or.inl h
      · right; simp only [List.length_cons]; omega
    · right; simp only [List.length_cons]; omega
theorem fRow_len (cs : List C) (a : Int) (i : Nat) (row : List Int) : ∀ (e j : Nat) (acc : List F), (fRow cs a i row e j acc).length ≤ acc.length + 4 * e
  | 0, _, acc => Nat.le_add_right _ _
  | e + 1, j, acc => by
    have h1 := fRow_len cs a i row e (j + 1) (acc ++ (rl cs a i row j).map (mk i j))
    have h2 := rl_len cs a i row j
    rw [List.length_append, List.length_map] at h1
    unfold fRow
    omega
theorem fAll_len (cs : List C) (a : Int) : ∀ (l : List (List Int)) (i : Nat) (acc : List F), (∀ x, x ∈ l → x.length ≤ 4) → (fAll cs a l i acc).length ≤ acc.length + 16 * l.length
  | [], _, acc, _ => Nat.le_add_right _ _
  | row :: l, i, acc, h => by
    have h1 := fAll_len cs a l (i + 1) (fRow cs a i row row.length 0 acc) (fun x hx => h x (List.mem_cons_of_mem _ hx))
    have h2 := fRow_len cs a i row row.length 0 acc
    have h3 := h row (List.mem_cons_self ..)
    unfold fAll
    rw [List.length_cons]
    omega
theorem found_in {l : List (List Int)} {cs : List C} {a : Int} (hy : okYard l = true) : (found l cs a).length ≤ 96 ∧ ∀ f, f ∈ found l cs a → (0 ≤ f.f1 ∧ f.f1 < (l.length : Int)) ∧ 1 ≤ f.f0 ∧ f.f0 ≤ 4 := by
  obtain ⟨h1, h2⟩ := okYard_mem hy
  unfold found
  refine ⟨?_, fun f hf => ?_⟩
  · have := fAll_len cs a l 0 [] (fun x hx => (h2 x hx).1)
    simp only [List.length_nil] at this
    omega
  · rcases fAll_in cs a l 0 [] f hf with h | h
    · cases h
    · rw [Nat.zero_add] at h
      exact ⟨⟨h.1, h.2.1⟩, h.2.2⟩

/-! Counting. -/
def cnt (g : F → Int) (s : Int) : List F → Int
  | [] => 0
  | f :: l => (if g f = s then 1 else 0) + cnt g s l
theorem cnt_cons (g : F → Int) (s : Int) (f : F) (l : List F) : cnt g s (f :: l) = (if g f = s then 1 else 0) + cnt g s l := rfl
theorem cnt_range (g : F → Int) (s : Int) : ∀ l, 0 ≤ cnt g s l ∧ cnt g s l ≤ (l.length : Int)
  | [] => ⟨Int.le_refl _, Int.le_refl _⟩
  | f :: l => by
    have := cnt_range g s l
    unfold cnt
    rw [List.length_cons]
    split <;> omega
theorem cnt_app (g : F → Int) (s : Int) : ∀ l m, cnt g s (l ++ m) = cnt g s l + cnt g s m
  | [], m => by simp [cnt]
  | f :: l, m => by
    rw [List.cons_append, cnt_cons, cnt_cons, cnt_app g s l m]
    omega
theorem rd_f (l : List F) (i : Nat) (h : i < l.length) : rd_T73 l (i : Int) = l[i] := by
  unfold rd_T73
  rw [Int.toNat_natCast]
  exact getD_at l i _ h
theorem rd_set (l : List Int) (i j : Nat) (v : Int) (hi : i < l.length) (hj : j < l.length) : rd (l.set i v) (j : Int) = if i = j then v else rd l (j : Int) := by
  rw [rd_at _ j (by rw [List.length_set]; exact hj), rd_at _ j hj, List.getElem_set]

def best (c : Int → Int) : Nat → Nat → Int → Int
  | 0, _, b => b
  | d + 1, i, b => best c d (i + 1) (if c (i : Int) > c b then i else b)
theorem most_spec (l : List (List Int)) (hn : l.length ≤ 6) (fs : List F) (hf : fs.length ≤ 96) : ∀ (d i : Nat) (b : Int), i + d = l.length →
    Ev (fun k => spec_WorstStack.l0 k b (cnt (·.f1) b fs) fs (i : Int) l) (best (fun s => cnt (·.f1) s fs) d i b, cnt (·.f1) (best (fun s => cnt (·.f1) s fs) d i b) fs, true) := by
  have inner : ∀ (b m : Int) (i : Nat), i < l.length → ∀ (e t : Nat) (c : Int), t + e = fs.length → c + cnt (·.f1) (i : Int) (fs.drop t) = cnt (·.f1) (i : Int) fs → 0 ≤ c → ∀ r, Ev (fun k => if cnt (·.f1) (i : Int) fs > m then spec_WorstStack.l0 k (i : Int) (cnt (·.f1) (i : Int) fs) fs ((i + 1 : Nat) : Int) l else spec_WorstStack.l0 k b m fs ((i + 1 : Nat) : Int) l) r →
      Ev (fun k => spec_WorstStack.l1 k b m fs (i : Int) c (t : Int) l) r := by
    intro b m i hi e
    induction e with
    | zero =>
      intro t c ht hc h0 r hr
      refine Ev.step (fun k => by simp only [spec_WorstStack.l1]; rfl) ?_
      rw [List.drop_of_length_le (by omega), show cnt (·.f1) (i : Int) ([] : List F) = 0 from rfl, Int.add_zero] at hc
      rw [hc, wsucc hi (by omega)]
      exact ev_neg (by omega) hr
    | succ e ih =>
      intro t c ht hc h0 r hr
      have htt : t < fs.length := by omega
      have hrange := cnt_range (·.f1) (i : Int) fs
      refine Ev.step (fun k => by simp only [spec_WorstStack.l1]; rfl) ?_
      refine ev_pos (by omega) (ev_pos (by omega) ?_)
      rw [rd_f fs t htt, wsucc htt (by omega)]
      rw [List.drop_eq_getElem_cons htt, cnt_cons] at hc
      have hr2 := cnt_range (·.f1) (i : Int) (fs.drop (t + 1))
      by_cases h1 : fs[t].f1 = (i : Int)
      · rw [if_pos h1] at hc
        refine ev_pos h1 ?_
        rw [wr (x := c + 1) (by omega) (by omega)]
        exact ih (t + 1) (c + 1) (by omega) (by omega) (by omega) r hr
      · rw [if_neg h1] at hc
        refine ev_neg h1 ?_
        exact ih (t + 1) c (by omega) (by omega) h0 r hr
  intro d
  induction d with
  | zero =>
    intro i b hi
    refine Ev.step (fun k => by simp only [spec_WorstStack.l0]; rfl) ?_
    exact ev_neg (by omega) (ev_const rfl)
  | succ d ih =>
    intro i b hi
    have hlt : i < l.length := by omega
    refine Ev.step (fun k => by simp only [spec_WorstStack.l0]; rfl) ?_
    refine ev_pos (by omega) (inner b _ i hlt fs.length 0 0 (by omega) (by rw [List.drop_zero]; omega) (by omega) _ ?_)
    unfold best
    by_cases h1 : cnt (·.f1) (i : Int) fs > cnt (·.f1) b fs
    · rw [if_pos h1]
      exact ev_pos h1 (ih (i + 1) i (by omega))
    · rw [if_neg h1]
      exact ev_neg h1 (ih (i + 1) b (by omega))
/-- From the start: the first stack is the best so far. -/
theorem most_spec0 (l : List (List Int)) (h1 : 1 ≤ l.length) (hn : l.length ≤ 6) (fs : List F) (hf : fs.length ≤ 96) :
    Ev (fun k => spec_WorstStack.l0 k 0 (-1) fs 0 l) (best (fun s => cnt (·.f1) s fs) l.length 0 0, cnt (·.f1) (best (fun s => cnt (·.f1) s fs) l.length 0 0) fs, true) := by
  have hr := cnt_range (·.f1) ((0 : Nat) : Int) fs
  have inner : ∀ (e t : Nat) (c : Int), t + e = fs.length → c + cnt (·.f1) ((0 : Nat) : Int) (fs.drop t) = cnt (·.f1) ((0 : Nat) : Int) fs → 0 ≤ c → ∀ r, Ev (fun k => spec_WorstStack.l0 k 0 (cnt (·.f1) 0 fs) fs ((0 + 1 : Nat) : Int) l) r →
      Ev (fun k => spec_WorstStack.l1 k 0 (-1) fs 0 c (t : Int) l) r := by
    intro e
    induction e with
    | zero =>
      intro t c ht hc h0 r hr2
      refine Ev.step (fun k => by simp only [spec_WorstStack.l1]; rfl) ?_
      rw [List.drop_of_length_le (by omega), show cnt (·.f1) ((0 : Nat) : Int) ([] : List F) = 0 from rfl, Int.add_zero] at hc
      rw [hc, show wrap64 (0 + 1) = ((0 + 1 : Nat) : Int) from wsucc (i := 0) (n := l.length) (by omega) (by omega)]
      exact ev_neg (by omega) (ev_pos (by omega) hr2)
    | succ e ih =>
      intro t c ht hc h0 r hr2
      have htt : t < fs.length := by omega
      refine Ev.step (fun k => by simp only [spec_WorstStack.l1]; rfl) ?_
      refine ev_pos (by omega) (ev_pos (by omega) ?_)
      rw [rd_f fs t htt, wsucc htt (by omega)]
      rw [List.drop_eq_getElem_cons htt, cnt_cons] at hc
      have hr3 := cnt_range (·.f1) ((0 : Nat) : Int) (fs.drop (t + 1))
      by_cases h1 : fs[t].f1 = ((0 : Nat) : Int)
      · rw [if_pos h1] at hc
        refine ev_pos h1 ?_
        rw [wr (x := c + 1) (by omega) (by omega)]
        exact ih (t + 1) (c + 1) (by omega) (by omega) (by omega) r hr2
      · rw [if_neg h1] at hc
        refine ev_neg h1 ?_
        exact ih (t + 1) c (by omega) (by omega) h0 r hr2
  obtain ⟨d, hd⟩ : ∃ d, l.length = d + 1 := ⟨l.length - 1, by omega⟩
  refine Ev.step (fun k => by simp only [spec_WorstStack.l0]; rfl) ?_
  refine ev_pos (by omega) (inner fs.length 0 0 (by omega) (by rw [List.drop_zero]; omega) (by omega) _ ?_)
  have h := most_spec l hn fs hf d (0 + 1) 0 (by omega)
  rw [hd]
  unfold best
  rw [if_neg (by exact Int.lt_irrefl _)]
  exact h
theorem most_impl1 (arr : List Int) (c : Int → Int) (hl : arr.length ≤ 6) (h1 : 1 ≤ arr.length) (ha : ∀ s : Nat, s < arr.length → rd arr (s : Int) = c (s : Int)) : ∀ (d i b : Nat), i + d = arr.length → b < arr.length →
    Ev (fun k => impl_WorstStack.l1 k arr (b : Int) arr (arr.length : Int) (i : Int)) (best c d i b, c (best c d i b), true) := by
  intro d
  induction d with
  | zero =>
    intro i b hi hb
    refine Ev.step (fun k => by simp only [impl_WorstStack.l1]; rfl) ?_
    refine ev_neg (by omega) (ev_pos (by omega) (ev_pos (by omega) (ev_const ?_)))
    unfold best
    rw [ha b hb]
  | succ d ih =>
    intro i b hi hb
    have hlt : i < arr.length := by omega
    refine Ev.step (fun k => by simp only [impl_WorstStack.l1]; rfl) ?_
    refine ev_pos (by omega) (ev_pos (by omega) (ev_pos (by omega) (ev_pos (by omega) (ev_pos (by omega) ?_))))
    rw [ha i hlt, ha b hb, wsucc hlt (by omega)]
    unfold best
    by_cases hc : c (i : Int) > c (b : Int)
    · rw [if_pos hc]
      exact ev_pos hc (ih (i + 1) i (by omega) hlt)
    · rw [if_neg hc]
      exact ev_neg hc (ih (i + 1) b (by omega) hb)
theorem most_impl0 (n : Nat) (h1 : 1 ≤ n) (hn : n ≤ 6) (fs : List F) (hf : fs.length ≤ 96) (hr : ∀ f, f ∈ fs → 0 ≤ f.f1 ∧ f.f1 < (n : Int)) : ∀ (d i : Nat) (arr : List Int), i + d = fs.length → arr.length = n → (∀ s : Nat, s < n → rd arr (s : Int) = cnt (·.f1) (s : Int) (fs.take i)) →
    Ev (fun k => impl_WorstStack.l0 k arr fs (fs.length : Int) (i : Int)) (best (fun s => cnt (·.f1) s fs) n 0 0, cnt (·.f1) (best (fun s => cnt (·.f1) s fs) n 0 0) fs, true) := by
  intro d
  induction d with
  | zero =>
    intro i arr hi hl ha
    refine Ev.step (fun k => by simp only [impl_WorstStack.l0]; rfl) ?_
    rw [List.take_of_length_le (by omega)] at ha
    have h := most_impl1 arr (fun s => cnt (·.f1) s fs) (by omega) (by omega) (fun s hs => ha s (by omega)) n 0 0 (by omega) (by omega)
    exact ev_neg (by omega) h
  | succ d ih =>
    intro i arr hi hl ha
    have hlt : i < fs.length := by omega
    have hfi := hr _ (List.getElem_mem hlt)
    refine Ev.step (fun k => by simp only [impl_WorstStack.l0]; rfl) ?_
    rw [rd_f fs i hlt, wsucc hlt (by omega)]
    refine ev_pos (by omega) (ev_pos (by omega) (ev_pos (by omega) (ev_pos (by omega) (ev_pos (by omega) ?_))))
    obtain ⟨q, hq⟩ := Int.eq_ofNat_of_zero_le hfi.1
    rw [hq] at hfi ⊢
    have hqn : q < n := by omega
    rw [Int.toNat_natCast]
    have hc := cnt_range (·.f1) (q : Int) (fs.take i)
    rw [List.length_take] at hc
    refine ih (i + 1) _ (by omega) (by rw [List.length_set]; exact hl) (fun s hs => ?_)
    rw [rd_set arr q s _ (by omega) (by omega), List.take_succ_eq_append_getElem hlt, cnt_app, cnt_cons]
    simp only [hq]
    rw [show cnt (·.f1) (s : Int) ([] : List F) = 0 from rfl]
    by_cases he : q = s
    · subst he
      rw [if_pos rfl, if_pos rfl, ha q hqn, wr (by omega) (by omega)]
      omega
    · rw [if_neg he, if_neg (by omega), ha s hs]
      omega
theorem worstStack_same (l : List (List Int)) (cs : List C) (a : Int) (hn : l.length ≤ 1048576) (hx : ∀ x, x ∈ l → x.length ≤ 1048576) (hc : cs.length ≤ 1048576) :
    ∃ r, Ev (fun k => spec_WorstStack.f k l cs a) r ∧ Ev (fun k => impl_WorstStack.f k l cs a) r := by
  unfold spec_WorstStack.f impl_WorstStack.f
  have h1 := ask_spec l cs a hn hx hc
  have h2 := ask_impl l cs a hn hx hc
  cases h : okAsk l cs a
  · rw [h] at h1 h2
    exact ⟨_, Ev.bind h1 (ev_neg (by simp) (ev_const rfl)), Ev.bind h2 (ev_neg (by simp) (ev_const rfl))⟩
  · rw [h] at h1 h2
    obtain ⟨hy, hb⟩ := okAsk_in h
    obtain ⟨h3, h4⟩ := found_in (cs := cs) (a := a) hy
    obtain ⟨h5, h6⟩ := (okYard_mem hy).1
    refine ⟨_, Ev.bind h1 (ev_pos rfl (Ev.bind (found_spec hy hb a) (most_spec0 l h5 h6 _ h3))), Ev.bind h2 (ev_pos rfl (ev_pos (by omega) (ev_pos (by omega) (Ev.bind (found_impl hy hb a) ?_))))⟩
    refine most_impl0 l.length h5 h6 _ h3 (fun f hf => (h4 f hf).1) (found l cs a).length 0 _ (by omega) (by simp) (fun s hs => ?_)
    rw [List.take_zero, rd_at _ s (by simpa using hs)]
    simp [cnt]
end Go.Proofs.Ytmpmcckjpkijnaa.UF
