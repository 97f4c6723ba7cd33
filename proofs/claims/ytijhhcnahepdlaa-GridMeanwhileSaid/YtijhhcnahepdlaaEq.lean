/-
  Equality of structs of integers: of one with itself.
-/
import Derived.Test.YtijhhcnahepdlaaIt
import Derived.Laws.StructEq
namespace Go.Al
open Go Go.RowKit
section
variable {P : Program} {e : Env} {w : World}
theorem part_cell {t : TypeId} {cs : Array Value} {off n : Nat} {v : Value} (ht : tk P t = some (false, n)) (hv : cs[off]? = some v) : (part t cs off).run P w = .ok v w := by
  unfold part
  simp [Sem.run_bind, (tk_agg ht w).1, Result.andThen, hv]
/-- Fields that are integers, within so many cells. -/
def intF (P : Program) (n : Nat) (fs : List Field) : Bool := fs.all fun f => (match tk P f.type, P.underlying f.type with | some (false, _), some (.int _) => true | _, _ => false) && Nat.blt f.offset n
theorem eqF_refl {d n : Nat} {cs : Array Value} (hc : ∀ j, j < n → ∃ k v, cs[j]? = some (.int k v)) : ∀ fs : List Field, intF P n fs = true → (Op.eqFields (d + 1) cs cs fs).run P w = .ok true w
  | [], _ => rfl
  | f :: fs, h => by
    simp only [intF, List.all_cons, Bool.and_eq_true, Nat.blt_eq] at h
    obtain ⟨⟨h1, h2⟩, h3⟩ := h
    have ih := eqF_refl (d := d) hc fs h3
    obtain ⟨k, v, hv⟩ := hc f.offset h2
    unfold Op.eqFields
    split
    · split at h1
      · rename_i m k' ht hu
        simp only [Sem.run_bind, part_cell (w := w) ht hv, Result.andThen, run_equalIn_int w d f.type k k' v v hu, beq_self_eq_true, Bool.not_true, Bool.false_eq_true, if_false]
        exact ih
      · cases h1
    · exact ih
theorem pure_neq_self {t z : TypeId} {x y : Operand} {n : Nat} {xs : List Value} (hx : ev e x = .agg xs.toArray) (hy : ev e y = .agg xs.toArray) (hm : P.eqGuardType P.depth t = false) (ht : P.underlying t = some (.struct (P.fieldsOf t))) (hp : P.stoodInHeld t = false)
    (hi : intF P n (P.fieldsOf t).toList = true) (hc : ∀ j, j < n → ∃ k v, xs[j]? = some (.int k v)) : PureOp P e (.binOp .neq t x y z) (.bool false) := fun op ho w => by
  have hr : (Op.equalIn 10000 t (.agg xs.toArray) (.agg xs.toArray)).run P w = .ok true w := by
    rw [run_equalIn_struct w 9999 t _ _ ht hp]
    exact eqF_refl (d := 9998) (n := n) (fun j hj => by obtain ⟨k, v, h⟩ := hc j hj; exact ⟨k, v, by rw [List.getElem?_toArray]; exact h⟩) _ hi
  unfold execOp
  simp only [ho, hx, hy, Sem.run_bind, run_eqGuard_agg w _ _ _ _ _ _ hm, Result.andThen, run_neq_struct, hr, Sem.run_pure, Bool.not_true]
end
end Go.Al
