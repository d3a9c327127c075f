/- The key under which a search's failure is remembered: it tells the yard, the number done and the number left. No function of the program is named here. -/
import Derived.KernelRfl
namespace Go.Proofs.YtfcbdfedolnkfaaDoor.UK
set_option linter.unusedVariables false
def dig (n : Nat) : UInt8 := UInt8.ofNat (48 + n)
/-- The letters of a number below 100. -/
def decL (n : Nat) : List UInt8 := if n < 10 then [dig n] else [dig (n / 10), dig (n % 10)]
def isD (c : UInt8) : Bool := decide (48 ≤ c.toNat) && decide (c.toNat ≤ 57)
def numL (l : List UInt8) : Nat := l.foldl (fun a c => a * 10 + (c.toNat - 48)) 0
theorem decL_all : ∀ n : Fin 100, numL (decL n) = n ∧ (decL n).all isD = true ∧ (decL n).length ≤ 2 ∧ decL n ≠ [] := by decide +kernel
theorem decL_num {n : Nat} (h : n < 100) : numL (decL n) = n := (decL_all ⟨n, h⟩).1
theorem decL_isD {n : Nat} (h : n < 100) : (decL n).all isD = true := (decL_all ⟨n, h⟩).2.1
theorem decL_len (n : Nat) : (decL n).length ≤ 2 := by unfold decL; split <;> simp
theorem decL_ne (n : Nat) : decL n ≠ [] := by unfold decL; split <;> simp
theorem decL_inj {a b : Nat} (ha : a < 100) (hb : b < 100) (h : decL a = decL b) : a = b := by rw [← decL_num ha, ← decL_num hb, h]
theorem split_digits : ∀ (p q u v : List UInt8), p.all isD = true → q.all isD = true → (∀ c, u.head? = some c → isD c = false) → (∀ c, v.head? = some c → isD c = false) → p ++ u = q ++ v → p = q ∧ u = v
  | [], [], u, v, _, _, _, _, h => ⟨rfl, h⟩
  | [], c :: q, u, v, _, hq, hu, _, h => by
    have e : u = c :: (q ++ v) := h
    have h1 := hu c (by rw [e]; rfl)
    rw [List.all_cons, h1] at hq
    cases hq
  | c :: p, [], u, v, hp, _, _, hv, h => by
    have e : v = c :: (p ++ u) := h.symm
    have h1 := hv c (by rw [e]; rfl)
    rw [List.all_cons, h1] at hp
    cases hp
  | c :: p, d :: q, u, v, hp, hq, hu, hv, h => by
    rw [List.all_cons, Bool.and_eq_true] at hp hq
    have h' : c :: (p ++ u) = d :: (q ++ v) := h
    injection h' with h1 h2
    obtain ⟨h3, h4⟩ := split_digits p q u v hp.2 hq.2 hu hv h2
    exact ⟨by rw [h1, h3], h4⟩
def rowL : List Int → List UInt8
  | [] => []
  | b :: l => decL b.toNat ++ 32 :: rowL l
def tabL : List (List Int) → List UInt8
  | [] => []
  | s :: l => 59 :: (rowL s ++ tabL l)
def keyL (t : List (List Int)) (e d : Nat) : List UInt8 := decL e ++ 32 :: (decL d ++ tabL t)
def okN (l : List Int) : Prop := ∀ x, x ∈ l → 0 ≤ x ∧ x < 100
def endL (u : List UInt8) : Prop := u = [] ∨ ∃ r, u = 59 :: r
theorem endL_head {u : List UInt8} (h : endL u) : ∀ c, u.head? = some c → isD c = false := by
  intro c hc
  rcases h with rfl | ⟨r, rfl⟩
  · cases hc
  · injection hc with hc; subst hc; decide
theorem tabL_end : ∀ t, endL (tabL t)
  | [] => Or.inl rfl
  | s :: l => Or.inr ⟨_, rfl⟩
theorem sp_head (r : List UInt8) : ∀ c, (32 :: r : List UInt8).head? = some c → isD c = false := by
  intro c hc; injection hc with hc; subst hc; decide
theorem rowL_inj : ∀ (a b : List Int) (u v : List UInt8), okN a → okN b → endL u → endL v → rowL a ++ u = rowL b ++ v → a = b ∧ u = v
  | [], [], u, v, _, _, _, _, h => ⟨rfl, h⟩
  | [], x :: b, u, v, _, hb, hu, _, h => by
    have hx := hb x (by simp)
    have h1 := split_digits [] (decL x.toNat) u (32 :: (rowL b ++ v)) rfl (decL_isD (by omega)) (endL_head hu) (sp_head _) (by have h' : u = rowL (x :: b) ++ v := h; rw [List.nil_append, h', rowL]; simp)
    exact absurd h1.1.symm (decL_ne _)
  | x :: a, [], u, v, ha, _, _, hv, h => by
    have hx := ha x (by simp)
    have h1 := split_digits [] (decL x.toNat) v (32 :: (rowL a ++ u)) rfl (decL_isD (by omega)) (endL_head hv) (sp_head _) (by have h' : rowL (x :: a) ++ u = v := h; rw [List.nil_append, ← h', rowL]; simp)
    exact absurd h1.1.symm (decL_ne _)
  | x :: a, y :: b, u, v, ha, hb, hu, hv, h => by
    have hx := ha x (by simp)
    have hy := hb y (by simp)
    have h1 := split_digits (decL x.toNat) (decL y.toNat) (32 :: (rowL a ++ u)) (32 :: (rowL b ++ v)) (decL_isD (by omega)) (decL_isD (by omega)) (sp_head _) (sp_head _) (by
      rw [rowL, rowL] at h; simpa using h)
    have h2 := decL_inj (by omega) (by omega) h1.1
    have h3 := h1.2
    injection h3 with _ h3
    obtain ⟨h4, h5⟩ := rowL_inj a b u v (fun z hz => ha z (by simp [hz])) (fun z hz => hb z (by simp [hz])) hu hv h3
    exact ⟨by rw [h4, show x = y by omega], h5⟩
theorem tabL_inj : ∀ (a b : List (List Int)), (∀ r, r ∈ a → okN r) → (∀ r, r ∈ b → okN r) → tabL a = tabL b → a = b
  | [], [], _, _, _ => rfl
  | [], x :: b, _, _, h => by rw [tabL, tabL] at h; cases h
  | x :: a, [], _, _, h => by rw [tabL, tabL] at h; cases h
  | x :: a, y :: b, ha, hb, h => by
    rw [tabL, tabL] at h
    injection h with _ h
    obtain ⟨h1, h2⟩ := rowL_inj x y _ _ (ha x (by simp)) (hb y (by simp)) (tabL_end a) (tabL_end b) h
    rw [h1, tabL_inj a b (fun r hr => ha r (by simp [hr])) (fun r hr => hb r (by simp [hr])) h2]
theorem keyL_inj {a b : List (List Int)} {e f d g : Nat} (ha : ∀ r, r ∈ a → okN r) (hb : ∀ r, r ∈ b → okN r) (he : e < 100) (hf : f < 100) (hd : d < 100) (hg : g < 100) (h : keyL a e d = keyL b f g) : a = b ∧ e = f ∧ d = g := by
  unfold keyL at h
  obtain ⟨h1, h2⟩ := split_digits _ _ _ _ (decL_isD he) (decL_isD hf) (sp_head _) (sp_head _) h
  injection h2 with _ h2
  obtain ⟨h3, h4⟩ := split_digits _ _ _ _ (decL_isD hd) (decL_isD hg) (endL_head (tabL_end a)) (endL_head (tabL_end b)) h2
  exact ⟨tabL_inj a b ha hb h4, decL_inj he hf h1, decL_inj hd hg h3⟩
theorem rowL_len : ∀ l, (rowL l).length ≤ 3 * l.length
  | [] => Nat.le_refl _
  | b :: l => by have h1 := rowL_len l; have h2 := decL_len b.toNat; simp only [rowL, List.length_append, List.length_cons]; omega
theorem tabL_len : ∀ t : List (List Int), (∀ r, r ∈ t → r.length ≤ 4) → (tabL t).length ≤ 13 * t.length
  | [], _ => Nat.le_refl _
  | s :: l, h => by
    have h1 := tabL_len l (fun r hr => h r (by simp [hr]))
    have h2 := rowL_len s
    have h3 := h s (by simp)
    simp only [tabL, List.length_append, List.length_cons]; omega
theorem keyL_len (t : List (List Int)) (e d : Nat) (h : ∀ r, r ∈ t → r.length ≤ 4) : (keyL t e d).length ≤ 13 * t.length + 5 := by
  have h1 := tabL_len t h
  have h2 := decL_len e
  have h3 := decL_len d
  simp only [keyL, List.length_append, List.length_cons]; omega
end Go.Proofs.YtfcbdfedolnkfaaDoor.UK
