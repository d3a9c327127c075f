/- A set of numbers kept in a map from int to bool that the call makes: what a look-up answers. No function of the program is named here. -/
import Derived.Maps.Own
import Derived.Maps.OwnOps
import Derived.Maps.Views
namespace Go.Proofs.Ytemildnlfjijmaa.GM
open Go.Maps
set_option linter.unusedVariables false

def Mp : List Int → DataW Unit
  | [] => .map []
  | n :: s => (Mp s).put (.int .i64 n) (.lit (.bool true))
theorem Mp_isMap : ∀ s, IsMap (Mp s)
  | [] => isMap_empty
  | n :: s => by
    obtain ⟨es, h⟩ := Mp_isMap s
    rw [Mp, h]
    exact ⟨_, rfl⟩
theorem Mp_at (n : Int) : ∀ s : List Int, (Mp s).atKey (.int .i64 n) (.lit (.bool false)) = .lit (.bool (s.contains n))
  | [] => rfl
  | m :: s => by
    by_cases e : n = m
    · subst e
      rw [Mp, atKey_put_same (Mp_isMap s) (by simp [WideAt.IsKeyLit])]
      simp
    · rw [Mp, atKey_put_other (fun h => e (by injection h)), Mp_at n s]
      simp [e]
theorem wpList_lookup_own_bool {H : Type} {P : Program} (w : World) {ops : Array Oper} {rest : List Oper} {o : Oper} {a : Act} {Q : Exit → Act → World → Prop}
    (hg : o.guard = none) (m x : Operand) (t : TypeId) (hop : o.op = Op.lookup t m x false)
    (k e : TypeId) (K : Keyed P k) (ht : P.underlying t = some (.map k e)) (he : P.underlying e = some .bool) (hz : (zeroValue e).run P w = .ok (.bool false) w) (b n : Nat) (D : DataW H)
    (hm : a.eval m = .map (some b)) (hown : w.ownsMap P k (plainElem P e) b n D) (key : Value) (kl : Lit) (hx : a.eval x = key) (hkey : keyOf P k key = some kl)
    (c : Bool) (hat : D.atKey kl (.lit (.bool false)) = .lit (.bool c))
    (hK : wpList P ops Q rest (a.put o.dst (.bool c)) w) :
    wpList P ops Q (o :: rest) a w := by
  refine wpList_plain hg fun K' hK' => ?_
  obtain ⟨v, ps, hrun, hv⟩ := hown.lookup K ht hz (plainElem_bool he false) hkey
  have e2 : v = .bool c := by
    rw [hat] at hv
    unfold plainElem at hv
    rw [he] at hv
    split at hv <;> simp_all
  subst e2
  unfold Oper.wp
  simp [execOp, hop, hm, hx, hrun, Result.andThen]
  exact hK' _ _ hK
end Go.Proofs.Ytemildnlfjijmaa.GM
