/- Marked containers. -/
import Derived.Test.YtgeakpogmjbjkaaPx0
import Derived.Test.YtgeakpogmjbjkaaPx5
import Derived.Test.YtgeakpogmjbjkaaUMark
import Derived.Test.YtgeakpogmjbjkaaUCont
namespace Go.Proofs.Ytgeakpogmjbjkaa.UF
open Go.RowKit Go.Proofs.YtgeakpogmjbjkaaW.PrintWords Go.Proofs.YtgeakpogmjbjkaaW.PrintMore Go.Proofs.Ytgeakpogmjbjkaa.P Go.Proofs.Ytgeakpogmjbjkaa.U Go.Proofs.Ytgeakpogmjbjkaa.UT Go.Proofs.Ytgeakpogmjbjkaa.UC Go.Proofs.Ytgeakpogmjbjkaa.UK
set_option linter.unusedVariables false

theorem dig_size (x : Int) : (strOfNums [x]).size = 1 := by
  unfold strOfNums
  rfl
theorem text_l : ∀ (f : Nat) (x : Int) (s : ByteArray), 0 ≤ x → x ≤ 4611686018427387904 → x < 10 ^ f → s.size + f ≤ 1000 → ∃ r, Ev (fun k => laws_markText.l0 k x s) r
  | 0, x, s, h0, h1, h2, h3 => by
    have hx : x = 0 := by rw [Int.pow_zero] at h2; omega
    refine ⟨_, Ev.step (fun k => by simp only [laws_markText.l0]; rfl) (ev_neg (by omega) (ev_pos (by omega) (ev_const rfl)))⟩
  | f + 1, x, s, h0, h1, h2, h3 => by
    by_cases hx : x > 0
    · rw [Int.pow_succ] at h2
      have e : Int.tdiv x 10 = x / 10 := Int.tdiv_eq_ediv_of_nonneg h0
      have hs : ((strOfNums [(wrap64 (48 + (Int.tmod x 10))) % 256]) ++ s).size = 1 + s.size := by rw [ByteArray.size_append, dig_size]
      obtain ⟨r, hr⟩ := text_l f (x / 10) ((strOfNums [(wrap64 (48 + (Int.tmod x 10))) % 256]) ++ s) (by omega) (by omega) (by omega) (by rw [hs]; omega)
      refine ⟨r, Ev.step (fun k => by simp only [laws_markText.l0]; rfl) (ev_pos hx (ev_call rfl (ev_pos (by rw [dig_size]; omega) ?_)))⟩
      rw [e, wr (x := x / 10) (by omega) (by omega)]
      exact hr
    · exact ⟨_, Ev.step (fun k => by simp only [laws_markText.l0]; rfl) (ev_neg hx (ev_pos (by omega) (ev_const rfl)))⟩
theorem text_ev (x : Int) (h0 : 0 < x) (h1 : x ≤ 4611686018427387904) : ∃ r, Ev (fun k => laws_markText.f k x) r := by
  have hp : (10 : Int) ^ 19 = 10000000000000000000 := by decide
  obtain ⟨r, hr⟩ := text_l 19 x (⟨#[]⟩ : ByteArray) (by omega) h1 (by rw [hp]; omega) (by show 0 + 19 ≤ 1000; omega)
  refine ⟨r, ?_⟩
  unfold laws_markText.f
  exact ev_neg (by omega) hr
theorem markC_l : ∀ d i (n : Int) (l : List C), i + d = l.length → l.length ≤ 1048576 → 0 < n → n + 5 * d ≤ 4611686018427387904 → ∃ l', Ev (fun k => laws_markContainerS.l0 k l n (i : Int)) (n + 5 * d, l') := by
  intro d
  induction d with
  | zero =>
    intro i n l hi hl h0 h1
    refine ⟨l, Ev.step (fun k => by simp only [laws_markContainerS.l0]; rfl) (ev_neg (by omega) (ev_const ?_))⟩
    simp
  | succ d ih =>
    intro i n l hi hl h0 h1
    obtain ⟨t, ht⟩ := text_ev n h0 (by omega)
    have key : ∃ X : List C, X.length = l.length ∧ ∀ r, Ev (fun k => laws_markContainerS.l0 k X (n + 1 + 1 + 1 + 1 + 1) ((i + 1 : Nat) : Int)) r → Ev (fun k => laws_markContainerS.l0 k l n (i : Int)) r := by
      refine ⟨?X, ?len, fun r hr => ?main⟩
      case main =>
        refine Ev.step (fun k => by simp only [laws_markContainerS.l0]; rfl) (ev_pos (by omega) (Ev.bind ht ?_))
        refine ev_pos (by omega) ?_
        refine ev_call rfl ?_
        refine ev_call rfl ?_
        refine ev_call rfl ?_
        refine ev_call rfl ?_
        rw [wsucc (n := 1048576) (by omega) (by omega), wr (x := n + 1) (by omega) (by omega), wr (x := n + 1 + 1) (by omega) (by omega), wr (x := n + 1 + 1 + 1) (by omega) (by omega), wr (x := n + 1 + 1 + 1 + 1) (by omega) (by omega), wr (x := n + 1 + 1 + 1 + 1 + 1) (by omega) (by omega), Int.toNat_natCast]
        exact hr
      case len => simp
    obtain ⟨X, hX, hk⟩ := key
    obtain ⟨l', hl'⟩ := ih (i + 1) (n + 1 + 1 + 1 + 1 + 1) X (by omega) (by omega) (by omega) (by omega)
    refine ⟨l', hk _ (ev_eq hl' ?_)⟩
    rw [Prod.mk.injEq]
    exact ⟨by omega, rfl⟩
theorem markC (l : List C) (n : Int) (hl : l.length ≤ 1048576) (h0 : 0 < n) (h1 : n + 5 * (l.length : Int) ≤ 4611686018427387904) : ∃ l', Ev (fun k => laws_markContainerS.f k l n) (n + 5 * (l.length : Int), l') := by
  unfold laws_markContainerS.f
  exact markC_l l.length 0 n l (by omega) hl h0 h1
end Go.Proofs.Ytgeakpogmjbjkaa.UF
