-- Written by a program of this session over the translation (a variant of the printer, see wip/gen); Lean checks it.
import Derived.Test.YtnknojpijmfefaaGreatDoorPx0
import Derived.Test.YtnknojpijmfefaaGreatDoorPx5
import Derived.Test.YtnknojpijmfefaaGreatDoorPx20
import Derived.Test.YtnknojpijmfefaaGreatDoorU
import Derived.Lib.SmallJoins
import Derived.Lib.AppendIntMem
namespace Go.Proofs.YtnknojpijmfefaaGreatDoor.P
open Go.RowKit Go.Proofs.YtnknojpijmfefaaGreatDoorW.PrintWords Go.Proofs.YtnknojpijmfefaaGreatDoorW.PrintLast Go.Proofs.YtnknojpijmfefaaGreatDoorW.PrintMore
attribute [local go_sem] Go.Proofs.YtnknojpijmfefaaGreatDoor.V.isSome_setCell max2_int min2_int max_two min_two max_three min_three max_four min_four   -- for this text's walks alone
set_option linter.unusedVariables false
set_option linter.unusedSimpArgs false

/-! ### impl_ParseInt: function 31 -/
/-- The decimal digits of a number, by so many steps. -/
def ddig : Nat → Nat → List UInt8
  | 0, _ => []
  | f + 1, u => if u < 10 then [UInt8.ofNat (48 + u)] else ddig f (u / 10) ++ [UInt8.ofNat (48 + u % 10)]
theorem ddig_eq : ∀ (f u : Nat), u < 10 ^ (f + 1) → ddig (f + 1) u = Go.Lib.decDigits u
  | 0, u, h => by
    rw [ddig, Go.Lib.decDigits]
    rw [if_pos (by simpa using h), dif_pos (by simpa using h)]
  | f + 1, u, h => by
    rw [ddig, Go.Lib.decDigits]
    by_cases h9 : u < 10
    · rw [if_pos h9, dif_pos h9]
    · rw [if_neg h9, dif_neg h9, ddig_eq f (u / 10) (by rw [Nat.pow_succ] at h; omega)]
def itoa6 (n : Int) : List UInt8 := if n < 0 then 45 :: ddig 6 n.natAbs else ddig 6 n.toNat
theorem itoa6_eq (n : Int) (h : -999999 ≤ n ∧ n ≤ 999999) : itoa6 n = Go.Lib.itoa n := by
  unfold itoa6 Go.Lib.itoa
  split
  · rw [ddig_eq 5 _ (by omega)]
  · rw [ddig_eq 5 _ (by omega)]
def piF (l : List UInt8) : Int × Bool := match Go.Lib.atoiAll l with
  | .ok n => if (-999999 ≤ n ∧ n ≤ 999999) ∧ itoa6 n = l then (n, true) else (0, false)
  | _ => (0, false)
def impl_ParseInt.f (a0 : ByteArray) : Option (Int × Bool) := if a0.size ≤ 1048576 then some (piF a0.data.toList) else none
theorem impl_ParseInt.tl (s : ByteArray) : s.toList = s.data.toList := by
  obtain ⟨⟨l⟩⟩ := s
  simp
theorem impl_ParseInt.within (v : Int) : impl_within.f v (-999999) 999999 = some (decide (-999999 ≤ v ∧ v ≤ 999999)) := by
  unfold impl_within.f
  by_cases h : -999999 ≤ v <;> simp [h]
theorem impl_ParseInt.decimal (n : Int) (h0 : -9223372036854775808 ≤ n) (h1 : n ≤ 9223372036854775807) (w : World) (hG : GGlob w) : Calls Tryz.prog 50 #[.int .i64 n] w fun e w' => e = .returned (.string ⟨(Go.Lib.itoa n).toArray⟩) ∧ Below w.heap.size w w' := by
  obtain ⟨_, _, _, _, _, _, _, _, htab⟩ := hG
  go_enter Tryz.func50, Tryz.ntmps50
  go_wp2_with (first | (go_at_call 54; refine (Go.Proofs.Tryz.strconv_Itoa n h0 h1 _ htab).mono ?_; rintro e w' ⟨rfl, k, os, rfl⟩))
  go_ret
  exact ⟨rfl, Go.Lib.below_grow _ _ (Nat.le_refl _) _ _⟩
theorem impl_ParseInt.atoi (s : ByteArray) (hs : s.size ≤ 1048576) (w : World) (hG : GGlob w) : Calls Tryz.prog 49 #[.string s] w fun e w' => ∃ (v : Int) (er : Value), e = .returned (.tuple #[.int .i64 v, er]) ∧ Below w.heap.size w w' ∧ ((Go.Lib.atoiAll s.data.toList = .ok v ∧ er = .nilIface) ∨ (∃ N : Nat, er = .iface 101 (.pointer (some ⟨N, 0, none⟩))) ∧ piF s.data.toList = (0, false)) := by
  obtain ⟨_, es, er, _, h1, k1, h2, k2, _⟩ := hG
  rcases ha : Go.Lib.atoiAll s.data.toList with v | _ | _
  · refine (Go.Proofs.Tryz.strconv_Atoi_ok s (by omega) v ha w).mono ?_
    rintro e w' ⟨rfl, h⟩
    refine ⟨v, .nilIface, rfl, ?_, Or.inl ⟨rfl, rfl⟩⟩
    rcases h with rfl | ⟨t, rfl⟩
    · exact Below.refl _ _
    · exact bytes_below (Below.refl w.heap.size w) (Nat.le_refl _) _ _
  · refine (Go.Proofs.Any.strconv_Atoi_syntax Go.Proofs.Tryz.laysC172 s (by omega) ha es w h1 k1).mono ?_
    rintro e w' ⟨N, rfl, _, _, hb⟩
    exact ⟨_, _, rfl, hb, Or.inr ⟨⟨N, rfl⟩, by unfold piF; rw [ha]⟩⟩
  · refine (Go.Proofs.Any.strconv_Atoi_range Go.Proofs.Tryz.laysC172 s (by omega) ha er w h2 k2).mono ?_
    rintro e w' ⟨N, rfl, _, _, hb⟩
    exact ⟨_, _, rfl, hb, Or.inr ⟨⟨N, rfl⟩, by unfold piF; rw [ha]⟩⟩
set_option maxHeartbeats 8000000 in
set_option maxRecDepth 100000 in
/-- THE CALL -/
theorem impl_ParseInt.calls (a0 : ByteArray) (r1 : Int) (r2 : Bool) (w : World) (h : impl_ParseInt.f a0 = some (r1, r2)) (hG : GGlob w) :
    Calls Tryz.prog 31 #[.string a0] w fun e w' => e = .returned (.tuple #[.int .i64 r1, .bool r2]) ∧ Below w.heap.size w w' := by
  unfold impl_ParseInt.f at h
  split at h
  case isFalse => cases h
  case isTrue hc =>
  have hr := Option.some.inj h
  clear h
  have HA := Aside0.mk (impl_ParseInt.atoi a0 hc w hG)
  have HG := Aside0.mk hG
  have HR := Aside0.mk hr
  clear hG hr
  go_enter Tryz.func31, Tryz.ntmps31
  go_upto_region 2 with (first | (go_at_call 49; refine HA.out.mono ?_; rintro e w1 ⟨v, er, rfl, hb, hcase⟩; have HB1 := Aside0.mk hb; have HC := Aside0.mk hcase; clear hb hcase))
  have HG1 := Aside0.mk (HG.out.below (Nat.le_refl _) HB1.out)
  rcases HC.out with ⟨ha, rfl⟩ | ⟨⟨N, rfl⟩, hp⟩
  case inr =>
    have hR := HR.out
    rw [hp] at hR
    injection hR with h1 h2
    subst h1 h2
    clear HC HA
    go_wp2
    go_ret2
    exact ⟨rfl, HB1.out⟩
  have hR := HR.out
  unfold piF at hR
  rw [ha] at hR
  dsimp only at hR
  clear HC HA
  have HW := Aside0.mk (impl_ParseInt.within v)
  by_cases hv : -999999 ≤ v ∧ v ≤ 999999
  case neg =>
    rw [if_neg (fun h => hv h.1)] at hR
    injection hR with h1 h2
    subst h1 h2
    rw [decide_eq_false hv] at HW
    go_wp2_with (first | (go_at_call 25; refine (impl_within.calls _ _ _ _ _ HW.out).mono ?_; rintro e w2 ⟨rfl, ⟨nd, rfl⟩⟩))
    go_ret2
    exact ⟨rfl, pw_below_drewN HB1.out nd⟩
  rw [decide_eq_true hv] at HW
  rw [itoa6_eq v hv] at hR
  have HV := Aside0.mk hv
  have HGd := fun nd => Aside0.mk (HG1.out.below (Nat.le_refl _) (pw_below_drewN (Below.refl w1.heap.size w1) nd))
  by_cases hs : Go.Lib.itoa v = a0.data.toList
  · rw [if_pos ⟨hv, hs⟩] at hR
    injection hR with h1 h2
    subst h1 h2
    have e1 : (⟨(Go.Lib.itoa v).toArray⟩ : ByteArray) = a0 := by rw [hs]
    clear hs hv
    go_wp2_with (first | (go_at_call 25; refine (impl_within.calls _ _ _ _ _ HW.out).mono ?_; rintro e w2 ⟨rfl, ⟨nd, rfl⟩⟩) | (go_at_call 50; refine (impl_ParseInt.decimal v (by have := HV.out; omega) (by have := HV.out; omega) _ (HGd nd).out).mono ?_; rw [e1]; rintro e w3 ⟨rfl, hb⟩; have HB3 := Aside0.mk ((pw_below_drewN HB1.out nd).trans (hb.mono (Nat.le_trans (below_size HB1.out) (by simp)))); clear hb))
    go_ret2
    exact ⟨rfl, HB3.out⟩
  · rw [if_neg (fun h => hs h.2)] at hR
    injection hR with h1 h2
    subst h1 h2
    have e6 : (Go.Lib.itoa v == a0.toList) = false := beq_eq_false_iff_ne.mpr (by rw [impl_ParseInt.tl]; exact hs)
    clear hs hv
    go_wp2_with (first | (go_at_call 25; refine (impl_within.calls _ _ _ _ _ HW.out).mono ?_; rintro e w2 ⟨rfl, ⟨nd, rfl⟩⟩) | (go_at_call 50; refine (impl_ParseInt.decimal v (by have := HV.out; omega) (by have := HV.out; omega) _ (HGd nd).out).mono ?_; rintro e w3 ⟨rfl, hb⟩; have HB3 := Aside0.mk ((pw_below_drewN HB1.out nd).trans (hb.mono (Nat.le_trans (below_size HB1.out) (by simp)))); clear hb))
    go_ret2
    exact ⟨rfl, HB3.out⟩


end Go.Proofs.YtnknojpijmfefaaGreatDoor.P
