/-
  The rules of this claim's walks: one for each kind of operation, over what is known of an activation's temporaries.
-/
import Derived.Test.YtijhhcnahepdlaaMem
namespace Go.Al
open Go Go.RowKit

def V (P : Program) (r : Option Nat) (n : Nat) (ds : List Deferred) (c : Code) (Q : Post) (e : Env) (w : World) : Prop := ∀ a, Has n ds e a → W P r c Q a w
def XV (n : Nat) (ds : List Deferred) (x : Exit) (Q : Post) (e : Env) (w : World) : Prop := ∀ a, Has n ds e a → Q x a w
def OI (P : Program) (r : Option Nat) (n : Nat) (ds : List Deferred) (ops : Array Oper) (Q : Post) (i : Nat) (e : Env) (w : World) : Prop := ∀ a, Has n ds e a → OA P r ops Q (List.range' i (ops.size - i)) a w

section code
variable {P : Program} {r : Option Nat} {n : Nat} {ds : List Deferred} {Q : Post} {e e' : Env} {w : World} {c x y : Code}

theorem V_pick (e' : Env) (h : pick (e'.map (·.1)) e = some e') (k : V P r n ds c Q e' w) : V P r n ds c Q e w :=
  fun a ha => k a (ha.weaken (pick_look _ _ _ h))
theorem V_eq (e' : Env) (h : e = e') (k : V P r n ds c Q e' w) : V P r n ds c Q e w := by subst h; exact k
theorem V_skip (h : XV n ds .normal Q e w) : V P r n ds .skip Q e w := fun a ha => W_skip (h a ha)
theorem V_exit {id : Nat} (h : XV n ds (.exit id) Q e w) : V P r n ds (.exit id) Q e w := fun a ha => W_exit (h a ha)
theorem V_ret (h : XV n ds .ret Q e w) : V P r n ds .ret Q e w := fun a ha => W_ret (h a ha)
theorem V_seq (h : V P r n ds x (Exit.then (fun a w => W P r y Q a w) Q) e w) : V P r n ds (.seq x y) Q e w := fun a ha => W_seq (h a ha)
theorem V_block {id : Nat} (h : V P r n ds c (Exit.inBlock id Q) e w) : V P r n ds (.block id c) Q e w := fun a ha => W_block (h a ha)
theorem V_true {t : Nat} (h : look e t = some (.bool true)) (k : V P r n ds x Q e w) : V P r n ds (.cond (.tmp t) x y) Q e w := fun a ha => W_true (by simp [Act.eval, ha.at_ _ _ h]) (k a ha)
theorem V_false {t : Nat} (h : look e t = some (.bool false)) (k : V P r n ds y Q e w) : V P r n ds (.cond (.tmp t) x y) Q e w := fun a ha => W_false (by simp [Act.eval, ha.at_ _ _ h]) (k a ha)
theorem V_if {t : Nat} (p : Prop) [Decidable p] (h : look e t = some (.bool (decide p))) (ht : p → V P r n ds x Q e w) (hf : ¬ p → V P r n ds y Q e w) : V P r n ds (.cond (.tmp t) x y) Q e w :=
  fun a ha => W_if p (by simp [Act.eval, ha.at_ _ _ h]) (fun hp => ht hp a ha) (fun hp => hf hp a ha)
theorem V_ifb {t : Nat} (b : Bool) (h : look e t = some (.bool b)) (ht : b = true → V P r n ds x Q e w) (hf : b = false → V P r n ds y Q e w) : V P r n ds (.cond (.tmp t) x y) Q e w :=
  fun a ha => W_ifb b (by simp [Act.eval, ha.at_ _ _ h]) (fun hp => ht hp a ha) (fun hp => hf hp a ha)
theorem V_constTrue (k : V P r n ds x Q e w) : V P r n ds (.cond (.const (.bool true)) x y) Q e w := fun a ha => W_true rfl (k a ha)
theorem V_region {id : Nat} {ops : Array Oper} (h : OI P r n ds ops Q 0 e w) : V P r n ds (.region id ops false) Q e w := fun a ha => W_region (by
  have := h a ha
  rw [Nat.sub_zero, ← List.range_eq_range'] at this
  exact this)
/-- A loop: I says, with k rounds left at most, what is known. -/
theorem V_loop (I : Nat → World → Env → Prop) (k : Nat) (h0 : I k w e) (round : ∀ k w e, I k w e → V P r n ds c (Exit.then (fun a' w' => ∃ m, m < k ∧ ∃ e', I m w' e' ∧ Has n ds e' a') Q) e w) : V P r n ds (.loop c) Q e w := by
  intro a ha
  refine W_loop (fun k a w => ∃ e, I k w e ∧ Has n ds e a) k ⟨e, h0, ha⟩ ?_
  rintro k a w ⟨e, hi, ha⟩
  exact round k w e hi a ha
theorem V_again {I : Nat → World → Env → Prop} {k : Nat} (m : Nat) (hm : m < k) (e' : Env) (h : pick (e'.map (·.1)) e = some e') (hi : I m w e') :
    XV n ds .normal (Exit.then (fun a' w' => ∃ m, m < k ∧ ∃ e', I m w' e' ∧ Has n ds e' a') Q) e w := fun _ ha => ⟨m, hm, e', hi, ha.weaken (pick_look _ _ _ h)⟩
/-! how a code is left -/
theorem X_then (h : V P r n ds y Q e w) : XV n ds .normal (Exit.then (fun a w => W P r y Q a w) Q) e w := h
theorem X_block {id : Nat} (h : XV n ds .normal Q e w) : XV n ds .normal (Exit.inBlock id Q) e w := h
theorem X_exit_then {id : Nat} {K : Act → World → Prop} (h : XV n ds (.exit id) Q e w) : XV n ds (.exit id) (Exit.then K Q) e w := h
theorem X_exit_here {id : Nat} (h : XV n ds .normal Q e w) : XV n ds (.exit id) (Exit.inBlock id Q) e w := fun a ha => E_here (h a ha)
theorem X_exit_out {id id' : Nat} (hne : id' ≠ id) (h : XV n ds (.exit id') Q e w) : XV n ds (.exit id') (Exit.inBlock id Q) e w := fun a ha => E_out hne (h a ha)
theorem X_ret_then {K : Act → World → Prop} (h : XV n ds .ret Q e w) : XV n ds .ret (Exit.then K Q) e w := h
theorem X_ret_block {id : Nat} (h : XV n ds .ret Q e w) : XV n ds .ret (Exit.inBlock id Q) e w := h
end code

/-- What a function whose results lie in temporaries hands back. -/
def resE (fn : Func) (e : Env) : Option Value :=
  match fn.results.toList with
  | [.tmp t] => look e t
  | [.tmp t, .tmp u] => match look e t, look e u with | some v, some v' => some (.tuple #[v, v']) | _, _ => none
  | [.tmp t, .tmp u, .tmp x] => match look e t, look e u, look e x with | some v, some v', some v2 => some (.tuple #[v, v', v2]) | _, _, _ => none
  | [.tmp t, .tmp u, .tmp x, .tmp y] => match look e t, look e u, look e x, look e y with | some v, some v', some v2, some v3 => some (.tuple #[v, v', v2, v3]) | _, _, _, _ => none
  | [] => some (.tuple #[])
  | _ => none
theorem results_of_list {fn : Func} {l : List ResultVar} (h : fn.results.toList = l) : fn.results = l.toArray := by rw [← h]
theorem resE_run {fn : Func} {n : Nat} {ds : List Deferred} {e : Env} {a : Act} {v : Value} {P : Program} (ha : Has n ds e a) (h : resE fn e = some v) (w : World) : (results fn a.tmps).run P w = .ok v w := by
  unfold resE at h
  split at h
  · rename_i t hl
    have hr := results_of_list hl
    have h1 := ha.at_ _ _ h
    unfold results
    simp [hr, Array.mapM_eq_foldlM, Sem.run_pure, h1]
  · rename_i t u hl
    have hr := results_of_list hl
    split at h <;> first | (rename_i v1 v2 h1 h2; simp only [Option.some.injEq] at h; subst h; have k1 := ha.at_ _ _ h1; have k2 := ha.at_ _ _ h2; unfold results; simp [hr, Array.mapM_eq_foldlM, Sem.run_pure, k1, k2]) | cases h
  · rename_i t u x hl
    have hr := results_of_list hl
    split at h <;> first | (rename_i v1 v2 v3 h1 h2 h3; simp only [Option.some.injEq] at h; subst h; have k1 := ha.at_ _ _ h1; have k2 := ha.at_ _ _ h2; have k3 := ha.at_ _ _ h3; unfold results; simp [hr, Array.mapM_eq_foldlM, Sem.run_pure, k1, k2, k3]) | cases h
  · rename_i t u x y hl
    have hr := results_of_list hl
    split at h <;> first | (rename_i v1 v2 v3 v4 h1 h2 h3 h4; simp only [Option.some.injEq] at h; subst h; have k1 := ha.at_ _ _ h1; have k2 := ha.at_ _ _ h2; have k3 := ha.at_ _ _ h3; have k4 := ha.at_ _ _ h4; unfold results; simp [hr, Array.mapM_eq_foldlM, Sem.run_pure, k1, k2, k3, k4]) | cases h
  · rename_i hl
    have hr := results_of_list hl
    simp only [Option.some.injEq] at h
    subst h
    unfold results
    simp [hr, Array.mapM_eq_foldlM, Sem.run_pure]
  · cases h

theorem X_return {P : Program} {fn : Func} {R : Ending → World → Prop} {n : Nat} {e : Env} {w : World} (v : Value) (h : resE fn e = some v) (hR : R (.returned v) w) : XV n [] .ret (bodyPost P fn R) e w :=
  fun _ ha => ⟨ha.defers, v, resE_run ha h w, hR⟩
theorem X_end {P : Program} {fn : Func} {R : Ending → World → Prop} {n : Nat} {e : Env} {w : World} (v : Value) (h : resE fn e = some v) (hR : R (.returned v) w) : XV n [] .normal (bodyPost P fn R) e w :=
  fun _ ha => ⟨ha.defers, v, resE_run ha h w, hR⟩

def zipE : Nat → List Value → Env
  | _, [] => []
  | i, v :: l => (i, v) :: zipE (i + 1) l
theorem look_zipE : ∀ (l : List Value) (i j : Nat) (v : Value), look (zipE i l) j = some v → i ≤ j ∧ l[j - i]? = some v
  | [], i, j, v, h => by simp [zipE, look] at h
  | u :: l, i, j, v, h => by
    simp only [zipE, look] at h
    by_cases hij : i = j
    · subst hij; simp at h; simp [h]
    · rw [beq_ne hij] at h
      simp only [cond_false] at h
      obtain ⟨h1, h2⟩ := look_zipE l (i + 1) j v h
      refine ⟨by omega, ?_⟩
      obtain ⟨d, rfl⟩ : ∃ d, j = i + 1 + d := ⟨j - (i + 1), by omega⟩
      rw [show i + 1 + d - i = d + 1 by omega]
      rw [show i + 1 + d - (i + 1) = d by omega] at h2
      simpa using h2
/-- A call's contract, out of its body's walk: the parameters are known. -/
theorem enterV {P : Program} {f : FuncId} {fn : Func} {c : Code} {args : Array Value} {w : World} {R : Ending → World → Prop} (hf : P.funcs[f]? = some fn) (hb : fn.body = some c) (l : List Value) (n : Nat)
    (hl : args = l.toArray) (hn : fn.ntmps = n) (hle : Nat.ble l.length n = true) (h : V P none n [] c (bodyPost P fn R) (zipE 0 l) w) : Calls P f args w R := by
  subst hl
  replace hle := Nat.le_of_ble_eq_true hle
  refine enter hf hb _ rfl (h _ ⟨?_, rfl, ?_⟩)
  · simp; omega
  · intro i v hi
    obtain ⟨_, h2⟩ := look_zipE l 0 i v hi
    rw [Nat.sub_zero] at h2
    have hlt := (List.getElem?_eq_some_iff.1 h2).1
    simp only [Array.getElem?_append, List.size_toArray, hlt, if_true]
    simpa using h2

section opers
variable {P : Program} {r : Option Nat} {n : Nat} {ds : List Deferred} {ops : Array Oper} {Q : Post} {i : Nat} {e : Env} {w w' : World} {d : Option Tmp} {op : Op}

theorem range_step {m i : Nat} (h : i < m) : List.range' i (m - i) = i :: List.range' (i + 1) (m - (i + 1)) := by
  rw [show m - i = (m - (i + 1)) + 1 by omega, List.range'_succ]

theorem OI_end (h : ops.size = i) (k : XV n ds .normal Q e w) : OI P r n ds ops Q i e w := fun a ha => by
  rw [show ops.size - i = 0 by omega]
  exact k a ha
/-- One operation, by what its computation comes to. -/
theorem OI_do (h : site ops e i = some (d, op)) (k : ∀ o : Oper, ops[i]? = some o → o.op = op → o.dst = d → ∀ a, Has n ds e a → execOp a.eval o = execOp (ev e) o → Does P r o a w (fun a' w' => OA P r ops Q (List.range' (i + 1) (ops.size - (i + 1))) a' w') Q) : OI P r n ds ops Q i e w := fun a ha => by
  obtain ⟨o, ho, hd, hop, hg, hr, hdf, hs⟩ := site_spec h
  have hlt : i < ops.size := (Array.getElem?_eq_some_iff.1 ho).1
  rw [range_step hlt]
  subst hop
  exact OA_cons ho (guardE_spec ha hg) hdf (k o ho rfl hd a ha (execOp_has ha hr hs))
theorem OI_value {v : Value} (h : site ops e i = some (d, op)) (hx : ∀ o : Oper, o.op = op → (execOp (ev e) o).run P w = .ok (.value v) w') (k : OI P r n ds ops Q (i + 1) (putE n d v e) w') : OI P r n ds ops Q i e w :=
  OI_do h fun o _ ho hd a ha he => does_value (by rw [he]; exact hx o ho) (by rw [hd]; exact k _ (ha.put d v))
theorem OI_skipped (h : site ops e i = some (d, op)) (hx : ∀ o : Oper, o.op = op → (execOp (ev e) o).run P w = .ok .skip w') (k : OI P r n ds ops Q (i + 1) (putE n d undef e) w') : OI P r n ds ops Q i e w :=
  OI_do h fun o _ ho hd a ha he => does_skip (by rw [he]; exact hx o ho) (by rw [hd]; exact k _ (ha.put d undef))
/-- An operation whose guard is not met. -/
theorem OI_not {o : Oper} (ho : ops[i]? = some o) (hg : guardE ops e o = some false) (k : OI P r n ds ops Q (i + 1) (putE n o.dst undef e) w) : OI P r n ds ops Q i e w := fun a ha => by
  have hlt : i < ops.size := (Array.getElem?_eq_some_iff.1 ho).1
  rw [range_step hlt]
  exact OA_not ho (guardE_spec ha hg) (k _ (ha.put _ _))
theorem OI_eq (e' : Env) (h : e = e') (k : OI P r n ds ops Q i e' w) : OI P r n ds ops Q i e w := by subst h; exact k
theorem OI_pick (e' : Env) (h : pick (e'.map (·.1)) e = some e') (k : OI P r n ds ops Q i e' w) : OI P r n ds ops Q i e w :=
  fun a ha => k a (ha.weaken (pick_look _ _ _ h))

/-- Operations that do not look at the world, one behind the other. -/
def runE (P : Program) (ops : Array Oper) (n : Nat) : Nat → Nat → Env → Option Env
  | 0, _, e => some e
  | m + 1, i, e =>
    match ops[i]? with
    | none => none
    | some o =>
      match guardE ops e o with
      | none => none
      | some false => runE P ops n m (i + 1) (putE n o.dst undef e)
      | some true =>
        match site ops e i with
        | none => none
        | some _ =>
          match static P (execOp (ev e) o) with
          | some (.value v) => runE P ops n m (i + 1) (putE n o.dst v e)
          | _ => none
theorem runE_sound : ∀ (m i : Nat) (e e' : Env), runE P ops n m i e = some e' → OI P r n ds ops Q (i + m) e' w → OI P r n ds ops Q i e w
  | 0, i, e, e', h, k => by simp only [runE, Option.some.injEq] at h; subst h; exact k
  | m + 1, i, e, e', h, k => by
    simp only [runE] at h
    rw [show i + (m + 1) = i + 1 + m by omega] at k
    split at h
    · cases h
    · rename_i o ho
      split at h
      · cases h
      · rename_i hg; exact OI_not ho hg (runE_sound m (i + 1) _ _ h k)
      · rename_i hg
        split at h
        · cases h
        · rename_i so hso
          split at h
          · rename_i v hv
            obtain ⟨d, op⟩ := so
            have hso' := hso
            obtain ⟨o', ho', hd, hop, _⟩ := site_spec hso
            rw [ho] at ho'
            simp only [Option.some.injEq] at ho'
            subst ho'
            subst hd
            refine OI_do hso' fun o2 hi2 ho2 hd2 a ha he => does_value (v := v) (w' := w) ?_ ?_
            · rw [ho] at hi2
              simp only [Option.some.injEq] at hi2
              subst hi2
              rw [he]
              exact static_run _ hv w
            · rw [hd2]; exact runE_sound m (i + 1) _ _ h k _ (ha.put _ _)
          · cases h

def statE (P : Program) (ops : Array Oper) (n i j : Nat) (e : Env) (ks : List Nat) : Option Env := bif Nat.ble i j then (runE P ops n (j - i) i e).bind (pick ks) else none
/-- Operations i to j - 1, none of which looks at the world; e': what is known then, as far as it will be asked. -/
theorem OI_static (j : Nat) (e' : Env) (h : statE P ops n i j e (e'.map (·.1)) = some e') (k : OI P r n ds ops Q j e' w) : OI P r n ds ops Q i e w := by
  unfold statE at h
  cases hij : Nat.ble i j with
  | false => rw [hij] at h; cases h
  | true =>
    rw [hij] at h
    simp only [cond_true] at h
    cases hr : runE P ops n (j - i) i e with
    | none => rw [hr] at h; cases h
    | some e2 =>
      rw [hr] at h
      simp only [Option.bind_some] at h
      refine runE_sound (j - i) i e e2 hr ?_
      rw [show i + (j - i) = j by have := Nat.le_of_ble_eq_true hij; omega]
      exact OI_pick e' h k

theorem OI_load {t : TypeId} {x : Operand} {p : Addr} {v : Value} (d : Option Tmp) (h : site ops e i = some (d, .load t x)) (hx : ev e x = .pointer (some p)) (hl : Loads P w t p v) (k : OI P r n ds ops Q (i + 1) (putE n d v e) w) : OI P r n ds ops Q i e w :=
  OI_value h (fun o ho => by
    unfold Loads at hl
    unfold execOp
    simp only [ho, hx, Sem.run_bind, hl, Result.andThen, Sem.run_pure]) k
theorem OI_store {t : TypeId} {x y : Operand} {p : Addr} {v : Value} (d : Option Tmp) (h : site ops e i = some (d, .store t x y)) (hx : ev e x = .pointer (some p)) (hy : ev e y = v) (hs : Stores P w t p v w') (k : OI P r n ds ops Q (i + 1) (putE n d undef e) w') : OI P r n ds ops Q i e w :=
  OI_skipped h (fun o ho => by
    unfold Stores at hs
    unfold execOp
    simp only [ho, hx, hy, Sem.run_bind, hs, Result.andThen, Sem.run_pure]) k

/-- One cell of a block that is known. -/
theorem OI_cell {T : TypeId} {b m : Nat} {l : List Value} (t : TypeId) (x : Operand) (o : Nat) (v : Value) (d : Option Tmp) (h : site ops e i = some (d, .load t x)) (hx : ev e x = .pointer (some ⟨b, o, none⟩)) (hb : Blk w b l T) (ht : tk P t = some (false, m)) (hv : l[o]? = some v)
    (k : OI P r n ds ops Q (i + 1) (putE n d v e) w) : OI P r n ds ops Q i e w := OI_load d h hx (loads_cell hb ht hv) k
/-- A struct or an array out of a block that is known. -/
theorem OI_agg {T : TypeId} {b m : Nat} {l : List Value} (t : TypeId) (x : Operand) (o : Nat) (cs : List Value) (d : Option Tmp) (h : site ops e i = some (d, .load t x)) (hx : ev e x = .pointer (some ⟨b, o, none⟩)) (hb : Blk w b l T) (ht : tk P t = some (true, m)) (hv : (l.drop o).take m = cs) (hm : cs.length = m)
    (k : OI P r n ds ops Q (i + 1) (putE n d (.agg cs.toArray) e) w) : OI P r n ds ops Q i e w := OI_load d h hx (loads_agg' hb ht hv hm) k

theorem OI_laid {l : List Value} {t : TypeId} {v : Value} (d : Option Tmp) (op : Op) (h : site ops e i = some (d, op)) (hx : ∀ o : Oper, o.op = op → (execOp (ev e) o).run P w = .ok (.value v) (laid w (.cells l.toArray t)))
    (k : ∀ w', Blk w' w.heap.size l t → Keep none_ w w' → w'.heap.size = w.heap.size + 1 → OI P r n ds ops Q (i + 1) (putE n d v e) w') : OI P r n ds ops Q i e w :=
  OI_value h hx (k _ (laid_blk _ _ _) (laid_keep _ _ (by intro c t f hc; cases hc; rfl)) (laid_size _ _))

/-- A parameter, or a variable, boxed. -/
theorem OI_box (t : TypeId) (x : Operand) (v : Value) (l : List Value) (d : Option Tmp) (h : site ops e i = some (d, .box t x)) (hx : ev e x = v) (hl : v.cells = l.toArray)
    (k : ∀ b w', b = w.heap.size → Blk w' b l t → Keep none_ w w' → w'.heap.size = b + 1 → OI P r n ds ops Q (i + 1) (putE n d (.pointer (some ⟨b, 0, none⟩)) e) w') : OI P r n ds ops Q i e w :=
  OI_laid d _ h (fun o ho => by
    unfold execOp
    simp only [ho, hx]
    unfold Instr.box newVar newRow newObj
    simp only [hl]
    rfl) (fun w' => k _ w' rfl)

def zeroV (P : Program) (t : TypeId) : Option Value := (P.info? t).bind (·.zero)
theorem zeroV_run {t : TypeId} {v : Value} (h : zeroV P t = some v) (w : World) : (zeroValue t).run P w = .ok v w := by
  unfold zeroV at h
  unfold zeroValue typeInfo
  cases hi : P.info? t with
  | none => simp [hi] at h
  | some inf =>
    simp only [hi, Option.bind_some] at h
    simp [Sem.run_bind, program, Sem.run, hi, Result.andThen, h]
/-- A variable whose address is taken. -/
theorem OI_alloc (t : TypeId) (v : Value) (l : List Value) (d : Option Tmp) (h : site ops e i = some (d, .alloc t)) (hz : zeroV P t = some v) (hl : v.cells = l.toArray)
    (k : ∀ b w', b = w.heap.size → Blk w' b l t → Keep none_ w w' → w'.heap.size = b + 1 → OI P r n ds ops Q (i + 1) (putE n d (.pointer (some ⟨b, 0, none⟩)) e) w') : OI P r n ds ops Q i e w :=
  OI_laid d _ h (fun o ho => by
    unfold execOp
    simp only [ho]
    unfold Instr.alloc
    simp only [Sem.run_bind, zeroV_run hz, Result.andThen]
    unfold newVar newRow newObj
    simp only [hl]
    rfl) (fun w' => k _ w' rfl)

/-- A store into a block that is known. -/
theorem OI_set {T : TypeId} {b m : Nat} {kd : Bool} {l : List Value} (t : TypeId) (x y : Operand) (o : Nat) (v : Value) (cs : List Value) (d : Option Tmp) (h : site ops e i = some (d, .store t x y)) (hx : ev e x = .pointer (some ⟨b, o, none⟩)) (hy : ev e y = v)
    (hb : Blk w b l T) (ht : tk P t = some (kd, m)) (hv : v.cells = cs.toArray) (hn : cs.length = m) (hl : o + m ≤ l.length) (h1 : ∀ u ∈ cs, u.oneCell' = true)
    (k : ∀ w', Blk w' b (over l o cs) T → Keep (only b) w w' → w'.heap.size = w.heap.size → OI P r n ds ops Q (i + 1) (putE n d undef e) w') : OI P r n ds ops Q i e w :=
  OI_store d h hx hy (stores hb ht hv hn hl h1) (k _ (turned_blk _ _ hb.lt) (turned_keep (by intro c t f hc; cases hc; rfl)) (turned_size _ _ _))

/-! calls -/
def callee (e : Env) (c : Call) : Option (FuncId × Array Value) :=
  match c.callee with
  | .value f => match ev e f with | .func (.func g) first cap => some (g, first ++ c.args.map (ev e) ++ cap) | _ => none
  | _ => none
def bodied (P : Program) (f : FuncId) : Bool := match P.funcs[f]? with | some fn => !(fn.name == "runtime.NumGoroutine") && fn.body.isSome | none => false
theorem callFunc_run {f : FuncId} (h : bodied P f = true) (args : Array Value) (w : World) : (callFunc f args).run P w = .ok (.enter f args) w := by
  unfold bodied at h
  unfold callFunc
  cases hf : P.funcs[f]? with
  | none => simp [hf] at h
  | some fn =>
    simp only [hf, Bool.and_eq_true, Bool.not_eq_true', Option.isSome_iff_exists] at h
    obtain ⟨h1, c, hc⟩ := h
    simp [Sem.run_bind, program, Sem.run, hf, Result.andThen, hc]
    exact fun e => by simp [e] at h1
theorem call_run {c : Call} {f : FuncId} {args : Array Value} (h : callee e c = some (f, args)) (hf : bodied P f = true) (o : Oper) (ho : o.op = .call c) (w : World) : (execOp (ev e) o).run P w = .ok (.enter f args) w := by
  unfold callee at h
  unfold execOp
  simp only [ho]
  unfold resolve
  split at h
  · rename_i g hg
    split at h
    · rename_i g' first cap hv
      simp only [Option.some.injEq, Prod.mk.injEq] at h
      obtain ⟨rfl, rfl⟩ := h
      simp only [hg, hv, Deferred.ofValue, Sem.run_bind, Sem.run_pure, Result.andThen, invoke]
      exact callFunc_run hf _ w
    · cases h
  · cases h
theorem OI_call {R : Ending → World → Prop} (c : Call) (f : FuncId) (args : Array Value) (d : Option Tmp) (h : site ops e i = some (d, .call c)) (hc : callee e c = some (f, args)) (hf : bodied P f = true) (hR : Calls P f args w R)
    (k : ∀ e' w', R e' w' → ∃ v, e' = .returned v ∧ OI P r n ds ops Q (i + 1) (putE n d v e) w') : OI P r n ds ops Q i e w :=
  OI_do h fun o _ ho hd a ha he => does_call (by rw [he]; exact call_run hc hf o ho w) (hR.mono fun e' w' hr => by
    obtain ⟨v, hv, hk⟩ := k e' w' hr
    exact ⟨v, hv, by rw [hd]; exact hk _ (ha.put d v)⟩)
end opers
end Go.Al
