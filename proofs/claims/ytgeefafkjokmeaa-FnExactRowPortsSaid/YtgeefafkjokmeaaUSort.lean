/- Numbers put into a rising list, and sorted ones. No function of the program is named here. -/
import Derived.Test.YtgeefafkjokmeaaU
namespace Go.Proofs.Ytgeefafkjokmeaa.US
set_option linter.unusedVariables false
/-- A number put into a rising list, once. -/
def put : List Int → Int → List Int
  | [], n => [n]
  | x :: l, n => if x < n then x :: put l n else if x = n then x :: l else n :: x :: l
theorem put_mem (n y : Int) : ∀ (l : List Int), y ∈ put l n ↔ y = n ∨ y ∈ l
  | [] => by simp [put]
  | x :: l => by
    unfold put
    split
    · rw [List.mem_cons, put_mem n y l, List.mem_cons]; grind
    · split
      · rename_i h; subst h; simp
      · simp
theorem put_rising (n : Int) : ∀ (l : List Int), l.Pairwise (· < ·) → (put l n).Pairwise (· < ·)
  | [], _ => by simp [put]
  | x :: l, h => by
    obtain ⟨h1, h2⟩ := List.pairwise_cons.mp h
    unfold put
    split
    · rename_i hx
      refine List.pairwise_cons.mpr ⟨fun y hy => ?_, put_rising n l h2⟩
      rcases (put_mem n y l).mp hy with rfl | hy
      · exact hx
      · exact h1 y hy
    · split
      · exact h
      · rename_i hx hn
        refine List.pairwise_cons.mpr ⟨fun y hy => ?_, h⟩
        rcases List.mem_cons.mp hy with rfl | hy
        · omega
        · have := h1 y hy; omega
theorem put_len (n : Int) : ∀ (l : List Int), (put l n).length ≤ l.length + 1
  | [] => by simp [put]
  | x :: l => by
    unfold put
    split
    · rw [List.length_cons, List.length_cons]; have := put_len n l; omega
    · split <;> simp
theorem eq_of_mem : ∀ (a b : List Int), a.Pairwise (· < ·) → b.Pairwise (· < ·) → (∀ x, x ∈ a ↔ x ∈ b) → a = b
  | [], [], _, _, _ => rfl
  | [], y :: b, _, _, h => by have := (h y).mpr List.mem_cons_self; cases this
  | x :: a, [], _, _, h => by have := (h x).mp List.mem_cons_self; cases this
  | x :: a, y :: b, ha, hb, h => by
    obtain ⟨a1, a2⟩ := List.pairwise_cons.mp ha
    obtain ⟨b1, b2⟩ := List.pairwise_cons.mp hb
    have hxy : x = y := by
      rcases List.mem_cons.mp ((h x).mp List.mem_cons_self) with e | hx
      · exact e
      · rcases List.mem_cons.mp ((h y).mpr List.mem_cons_self) with e | hy
        · exact e.symm
        · have := b1 x hx; have := a1 y hy; omega
    subst hxy
    rw [eq_of_mem a b a2 b2 (fun z => ?_)]
    constructor
    · intro hz
      rcases List.mem_cons.mp ((h z).mp (List.mem_cons_of_mem _ hz)) with rfl | hz2
      · have := a1 z hz; omega
      · exact hz2
    · intro hz
      rcases List.mem_cons.mp ((h z).mpr (List.mem_cons_of_mem _ hz)) with rfl | hz2
      · have := b1 z hz; omega
      · exact hz2
theorem sort_rising (l : List Int) (h : l.Nodup) : (l.mergeSort fun x y => decide (x ≤ y)).Pairwise (· < ·) := by
  have h1 := List.pairwise_mergeSort (le := fun (x y : Int) => decide (x ≤ y)) (fun a b c h1 h2 => by simp at *; omega) (fun a b => by simp; omega) l
  have h2 : (l.mergeSort fun x y => decide (x ≤ y)).Nodup := ((List.mergeSort_perm l _).nodup_iff).mpr h
  exact (h1.and h2).imp (fun {a b} hab => by
    have h3 : a ≤ b := of_decide_eq_true hab.1
    have h4 : a ≠ b := hab.2
    omega)
/-- Numbers put one behind the other. -/
def puts : List Int → List Int → List Int
  | acc, [] => acc
  | acc, n :: l => puts (put acc n) l
theorem puts_mem (y : Int) : ∀ (l acc : List Int), y ∈ puts acc l ↔ y ∈ acc ∨ y ∈ l
  | [], acc => by simp [puts]
  | n :: l, acc => by rw [puts, puts_mem y l, put_mem, List.mem_cons]; grind
theorem puts_rising : ∀ (l acc : List Int), acc.Pairwise (· < ·) → (puts acc l).Pairwise (· < ·)
  | [], acc, h => h
  | n :: l, acc, h => puts_rising l _ (put_rising n acc h)
theorem puts_app : ∀ (a b acc : List Int), puts acc (a ++ b) = puts (puts acc a) b
  | [], b, acc => rfl
  | n :: a, b, acc => by rw [List.cons_append, puts, puts_app a b]; rfl
theorem puts_len : ∀ (l acc : List Int), (puts acc l).length ≤ acc.length + l.length
  | [], acc => by simp [puts]
  | n :: l, acc => by
    rw [puts, List.length_cons]
    have h1 := puts_len l (put acc n)
    have h2 := put_len n acc
    omega
theorem sort_puts (l : List Int) (h : l.Nodup) : (l.mergeSort fun x y => decide (x ≤ y)) = puts [] l :=
  eq_of_mem _ _ (sort_rising l h) (puts_rising l [] List.Pairwise.nil) (fun x => by rw [List.mem_mergeSort, puts_mem]; simp)
/-- Where a number is put: behind the smaller ones. -/
def lead (n : Int) : List Int → Nat
  | [] => 0
  | x :: l => if x < n then lead n l + 1 else 0
theorem lead_le (n : Int) : ∀ (l : List Int), lead n l ≤ l.length
  | [] => Nat.le_refl _
  | x :: l => by
    unfold lead
    split
    · rw [List.length_cons]; have := lead_le n l; omega
    · simp
theorem put_eq (n : Int) : ∀ (l : List Int), put l n = if l[lead n l]? = some n then l else l.take (lead n l) ++ [n] ++ l.drop (lead n l)
  | [] => by simp [put, lead]
  | x :: l => by
    unfold put lead
    by_cases h : x < n
    · rw [if_pos h, if_pos h, put_eq n l, List.getElem?_cons_succ]
      split
      · rfl
      · simp
    · rw [if_neg h, if_neg h]
      by_cases h2 : x = n
      · subst h2; simp
      · rw [if_neg h2, if_neg (by simp [h2])]; simp

/-! A valid table's numbers are each there once. -/
open Go.Proofs.Ytgeefafkjokmeaa.U
theorem chkRow_once : ∀ (l s t : List Int), chkRow l s = some t → (∀ x, x ∈ t ↔ x ∈ s ∨ x ∈ l) ∧ l.Nodup ∧ ∀ x, x ∈ l → ¬ x ∈ s
  | [], s, t, h => by injection h with h; subst h; simp
  | n :: l, s, t, h => by
    unfold chkRow at h
    split at h
    · rename_i hc
      rw [Bool.and_eq_true] at hc
      have hn : ¬ n ∈ s := by simpa using hc.2
      obtain ⟨h1, h2, h3⟩ := chkRow_once l (n :: s) t h
      refine ⟨fun x => by rw [h1, List.mem_cons, List.mem_cons]; grind, List.nodup_cons.mpr ⟨fun hm => h3 n hm List.mem_cons_self, h2⟩, fun x hx hs => ?_⟩
      rcases List.mem_cons.mp hx with rfl | hx
      · exact hn hs
      · exact h3 x hx (List.mem_cons_of_mem _ hs)
    · cases h
theorem chkRows_once (cap : Int) : ∀ (l : List (List Int)) (s t : List Int), chkRows cap l s = some t → (∀ x, x ∈ t ↔ x ∈ s ∨ x ∈ l.flatten) ∧ l.flatten.Nodup ∧ ∀ x, x ∈ l.flatten → ¬ x ∈ s
  | [], s, t, h => by injection h with h; subst h; simp
  | r :: l, s, t, h => by
    unfold chkRows at h
    split at h
    · cases h1 : chkRow r s with
      | none => rw [h1] at h; cases h
      | some u =>
        rw [h1] at h
        obtain ⟨a1, a2, a3⟩ := chkRow_once r s u h1
        obtain ⟨b1, b2, b3⟩ := chkRows_once cap l u t h
        rw [List.flatten_cons]
        refine ⟨fun x => by rw [b1, a1, List.mem_append]; grind, List.nodup_append.mpr ⟨a2, b2, fun x hx y hy e => ?_⟩, fun x hx hs => ?_⟩
        · subst e; exact b3 x hy ((a1 x).mpr (Or.inr hx))
        · rcases List.mem_append.mp hx with hx | hx
          · exact a3 x hx hs
          · exact b3 x hx ((a1 x).mpr (Or.inl hs))
    · cases h
end Go.Proofs.Ytgeefafkjokmeaa.US
