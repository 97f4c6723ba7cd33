/-
  The base of this claim's walks: a judgement on code and on the operations of a region, with one rule for each kind of step; what an operation answers without looking at the world; worlds that keep what they held.
-/
import Derived.OrdersIn
import Derived.RangeFuncCalls
import Derived.RangeFuncLeaves
import Derived.KernelRfl
import Derived.Below
namespace Go.Al
open Go Go.RowKit

/-! ### What a computation answers without looking at the world -/

def static {α : Type} (P : Program) : Sem α → Option α
  | .pure a => some a
  | .program k => static P (k P)
  | .mark _ k => static P k
  | _ => none

theorem static_run {α : Type} {P : Program} : ∀ (s : Sem α) {x : α}, static P s = some x → ∀ w, s.run P w = .ok x w
  | .pure a, x, h, w => by simp [static] at h; subst h; rfl
  | .program k, x, h, w => by
    simp only [static] at h
    simp only [Sem.run]
    exact static_run (k P) h w
  | .mark m k, x, h, w => by
    simp only [static] at h
    simp only [Sem.run]
    exact static_run k h w
  | .load .., _, h, _ => by simp [static] at h
  | .store .., _, h, _ => by simp [static] at h
  | .new .., _, h, _ => by simp [static] at h
  | .shape .., _, h, _ => by simp [static] at h
  | .freeze .., _, h, _ => by simp [static] at h
  | .frozen .., _, h, _ => by simp [static] at h
  | .getObj .., _, h, _ => by simp [static] at h
  | .setObj .., _, h, _ => by simp [static] at h
  | .choose .., _, h, _ => by simp [static] at h
  | .sys .., _, h, _ => by simp [static] at h
  | .halt .., _, h, _ => by simp [static] at h

/-! ### The judgement -/

def FR (r : Option Nat) : Fence := { Fence.wide with round := r }

abbrev Post := Exit → Act → World → Prop

def W (P : Program) (r : Option Nat) (c : Code) (Q : Post) (a : Act) (w : World) : Prop := c.wpIn (FR r) 0 P Q a w

theorem room_FR (r : Option Nat) (n : Nat) : (FR r).room n := fun _ h => by simp [FR, Fence.wide] at h

theorem calls_of_FR {P : Program} {r : Option Nat} {n : Nat} {f : FuncId} {args : Array Value} {w : World} {R : Ending → World → Prop} (h : CallsIn (FR r) n P f args w R) : Calls P f args w R :=
  callsIn_wide.1 (show CallsIn Fence.wide n P f args w R from h)
theorem calls_to_FR {P : Program} {r : Option Nat} {n : Nat} {f : FuncId} {args : Array Value} {w : World} {R : Ending → World → Prop} (h : Calls P f args w R) : CallsIn (FR r) n P f args w R :=
  show CallsIn Fence.wide n P f args w R from callsIn_wide.2 h

section code
variable {P : Program} {r : Option Nat} {Q : Post} {a a' : Act} {w : World}

theorem W_to {c : Code} (h : a = a') (k : W P r c Q a' w) : W P r c Q a w := by rw [h]; exact k
theorem W_mono {c : Code} {Q' : Post} (h : W P r c Q a w) (hq : ∀ e a w, Q e a w → Q' e a w) : W P r c Q' a w := wpIn_mono h hq
theorem W_skip (h : Q .normal a w) : W P r .skip Q a w := wpIn_skip h
theorem W_exit {id : Nat} (h : Q (.exit id) a w) : W P r (.exit id) Q a w := wpIn_exit h
theorem W_ret (h : Q .ret a w) : W P r .ret Q a w := wpIn_ret h
theorem W_seq {x y : Code} (h : W P r x (Exit.then (fun a w => W P r y Q a w) Q) a w) : W P r (.seq x y) Q a w := wpIn_seq h
theorem W_block {id : Nat} {c : Code} (h : W P r c (Exit.inBlock id Q) a w) : W P r (.block id c) Q a w := wpIn_block h
theorem W_true {c : Operand} {x y : Code} (h : a.eval c = .bool true) (k : W P r x Q a w) : W P r (.cond c x y) Q a w := wpIn_cond_true h k
theorem W_false {c : Operand} {x y : Code} (h : a.eval c = .bool false) (k : W P r y Q a w) : W P r (.cond c x y) Q a w := wpIn_cond (t := false) h k
theorem W_if {c : Operand} {x y : Code} (p : Prop) [Decidable p] (h : a.eval c = .bool (decide p)) (ht : p → W P r x Q a w) (hf : ¬ p → W P r y Q a w) : W P r (.cond c x y) Q a w := by
  by_cases hp : p
  · exact W_true (by rw [h]; simp [hp]) (ht hp)
  · exact W_false (by rw [h]; simp [hp]) (hf hp)
theorem W_ifb {c : Operand} {x y : Code} (b : Bool) (h : a.eval c = .bool b) (ht : b = true → W P r x Q a w) (hf : b = false → W P r y Q a w) : W P r (.cond c x y) Q a w := by
  cases b
  · exact W_false h (hf rfl)
  · exact W_true h (ht rfl)
theorem least {p : Nat → Prop} (h : ∃ m, p m) : ∃ m, p m ∧ ∀ k, p k → m ≤ k := by
  classical
  obtain ⟨m, hm⟩ := h
  induction m using Nat.strongRecOn with
  | _ m ih =>
    by_cases hk : ∃ k, k < m ∧ p k
    · obtain ⟨k, hk, hp⟩ := hk
      exact ih k hk hp
    · exact ⟨m, hm, fun k hp => Nat.le_of_not_lt fun hlt => hk ⟨k, hlt, hp⟩⟩
/-- A loop, by an invariant that bears how many rounds are left. -/
theorem W_loop {c : Code} (I : Nat → Act → World → Prop) (n : Nat) (h0 : I n a w)
    (round : ∀ n a w, I n a w → W P r c (Exit.then (fun a' w' => ∃ m, m < n ∧ I m a' w') Q) a w) : W P r (.loop c) Q a w := by
  classical
  have hex : ∃ m, I m a w := ⟨n, h0⟩
  let μ : Act → World → Nat := fun a w => if h : ∃ m, I m a w then Classical.choose (least h) else 0
  have hμ : ∀ a w (h : ∃ m, I m a w), μ a w = Classical.choose (least h) := fun a w h => by simp only [μ]; rw [dif_pos h]
  refine wpIn_loop (F := FR r) (n := 0) (fun a w => ∃ m, I m a w) μ hex ?_
  intro a1 w1 h1
  have hI := (Classical.choose_spec (least h1)).1
  refine wpIn_mono (round _ _ _ hI) ?_
  intro e a2 w2 hq
  cases e <;> try exact hq
  obtain ⟨m, hm, hI2⟩ := hq
  have h2 : ∃ m, I m a2 w2 := ⟨m, hI2⟩
  refine ⟨h2, ?_⟩
  rw [hμ _ _ h1, hμ _ _ h2]
  exact Nat.lt_of_le_of_lt ((Classical.choose_spec (least h2)).2 _ hI2) hm
/-! how a code is left -/
theorem N_then {y : Code} (h : W P r y Q a w) : Exit.then (fun a w => W P r y Q a w) Q .normal a w := h
theorem N_thenK {K : Act → World → Prop} (h : K a w) : Exit.then K Q .normal a w := h
theorem N_block {id : Nat} (h : Q .normal a w) : Exit.inBlock id Q .normal a w := h
theorem E_then {id : Nat} {K : Act → World → Prop} (h : Q (.exit id) a w) : Exit.then K Q (.exit id) a w := h
theorem E_here {id : Nat} (h : Q .normal a w) : Exit.inBlock id Q (.exit id) a w := by simp only [Exit.inBlock, if_true]; exact h
theorem E_out {id id' : Nat} (hne : id' ≠ id) (h : Q (.exit id') a w) : Exit.inBlock id Q (.exit id') a w := by simp only [Exit.inBlock, if_neg hne]; exact h
theorem R_then {K : Act → World → Prop} (h : Q .ret a w) : Exit.then K Q .ret a w := h
theorem R_block {id : Nat} (h : Q .ret a w) : Exit.inBlock id Q .ret a w := h
end code

/-- A call's contract, out of its body's walk. -/
theorem enter {P : Program} {f : FuncId} {fn : Func} {c : Code} {args : Array Value} {w : World} {R : Ending → World → Prop} (hf : P.funcs[f]? = some fn) (hb : fn.body = some c) (a0 : Act)
    (ha : a0 = { tmps := args ++ Array.replicate (fn.ntmps - args.size) undef, defers := [] }) (h : W P none c (bodyPost P fn R) a0 w) : Calls P f args w R := by
  subst ha
  exact calls_of_FR (r := none) (n := 0) (callsIn_of_wp hf hb trivial h)
theorem post_ret {P : Program} {fn : Func} {R : Ending → World → Prop} {a : Act} {w : World} (v : Value) (hd : a.defers = []) (hr : static P (results fn a.tmps) = some v) (h : R (.returned v) w) : bodyPost P fn R .ret a w :=
  ⟨hd, v, static_run _ hr w, h⟩
theorem post_end {P : Program} {fn : Func} {R : Ending → World → Prop} {a : Act} {w : World} (v : Value) (hd : a.defers = []) (hr : static P (results fn a.tmps) = some v) (h : R (.returned v) w) : bodyPost P fn R .normal a w :=
  ⟨hd, v, static_run _ hr w, h⟩
theorem post_ret_run {P : Program} {fn : Func} {R : Ending → World → Prop} {a : Act} {w : World} (v : Value) (hd : a.defers = []) (hr : (results fn a.tmps).run P w = .ok v w) (h : R (.returned v) w) : bodyPost P fn R .ret a w :=
  ⟨hd, v, hr, h⟩

/-! ### One operation -/

def isDefer : Op → Bool | .defer _ => true | _ => false
def isSelect : Op → Bool | .select .. => true | _ => false

def OA (P : Program) (r : Option Nat) (ops : Array Oper) (Q : Post) (l : List Nat) (a : Act) (w : World) : Prop := wpOpsIn (FR r) 0 P ops Q l a w

section opers
variable {P : Program} {r : Option Nat} {ops : Array Oper} {Q : Post} {a : Act} {w : World} {i : Nat} {l : List Nat} {o : Oper}

theorem semAt_FR (ρ : Operand → Value) (h : isDefer o.op = false) : o.semAt (FR r).round ρ = execOp ρ o :=
  Oper.semAt_eq _ _ _ (fun c hc => by rw [hc] at h; cases h)

/-- An operation, by what its computation comes to. -/
def Upon (P : Program) (r : Option Nat) (o : Oper) (a : Act) (K : Act → World → Prop) (Q : Post) (x : Result Next) : Prop := o.uponIn (FR r) 0 P a K Q x
def Does (P : Program) (r : Option Nat) (o : Oper) (a : Act) (w : World) (K : Act → World → Prop) (Q : Post) : Prop := Upon P r o a K Q ((execOp a.eval o).run P w)

theorem wpIn_iff (K : Act → World → Prop) (hd : isDefer o.op = false) : o.wpIn (FR r) 0 P a w K Q ↔ Does P r o a w K Q := by
  unfold Oper.wpIn Does Upon
  rw [semAt_FR _ hd]
  exact ⟨fun h => h.2, fun h => ⟨fun _ _ => trivial, h⟩⟩

theorem OA_nil (h : Q .normal a w) : OA P r ops Q [] a w := h
theorem OA_cons (ho : ops[i]? = some o) (hw : Region.wanted o (yielded ops a.tmps) = true) (hd : isDefer o.op = false) (h : Does P r o a w (OA P r ops Q l) Q) : OA P r ops Q (i :: l) a w := by
  simp only [OA, wpOpsIn, ho, hw, if_true]
  exact (wpIn_iff _ hd).2 h
theorem OA_not (ho : ops[i]? = some o) (hw : Region.wanted o (yielded ops a.tmps) = false) (h : OA P r ops Q l (a.put o.dst undef) w) : OA P r ops Q (i :: l) a w := by
  simp only [OA, wpOpsIn, ho, hw]
  exact ⟨fun _ _ => trivial, h⟩
theorem does_value {K : Act → World → Prop} {v : Value} {w' : World} (hx : (execOp a.eval o).run P w = .ok (.value v) w') (k : K (a.put o.dst v) w') : Does P r o a w K Q := by
  unfold Does; rw [hx]; exact k
theorem does_skip {K : Act → World → Prop} {w' : World} (hx : (execOp a.eval o).run P w = .ok .skip w') (k : K (a.put o.dst undef) w') : Does P r o a w K Q := by
  unfold Does; rw [hx]; exact k
theorem does_call {K : Act → World → Prop} {f : FuncId} {args : Array Value} {w' : World} (hx : (execOp a.eval o).run P w = .ok (.enter f args) w')
    (hc : Calls P f args w' fun e w'' => ∃ v, e = .returned v ∧ K (a.put o.dst v) w'') : Does P r o a w K Q := by
  unfold Does; rw [hx]
  refine ⟨fun h => by simp [FR, Fence.wide] at h, ?_⟩
  refine calls_to_FR (hc.mono ?_)
  rintro e w'' ⟨v, rfl, hk⟩
  exact hk
theorem does_round {K : Act → World → Prop} {g : Nat} {f : FuncId} {tmps : Array Value} {assign body : Code} {w' : World} (hx : (execOp a.eval o).run P w = .ok (.round g f tmps assign body) w')
    (hc : RoundIn (FR r) 0 P g f tmps assign body w' fun e w'' => ∃ v, e = .returned v ∧ K (a.put o.dst v) w'') : Does P r o a w K Q := by
  unfold Does; rw [hx]
  refine ⟨fun h => by simp [FR, Fence.wide] at h, ?_⟩
  refine hc.mono ?_
  rintro e w'' ⟨v, rfl, hk⟩
  exact hk
theorem W_region {id : Nat} (h : OA P r ops Q (List.range ops.size) a w) : W P r (.region id ops false) Q a w := wpIn_region h
end opers

/-! ### What is known of an activation: some of its temporaries -/

abbrev Env := List (Nat × Value)
def look : Env → Nat → Option Value
  | [], _ => none
  | (i, v) :: l, t => bif Nat.beq i t then some v else look l t

theorem beq_ne {d i : Nat} (h : d ≠ i) : Nat.beq d i = false := by
  cases hb : Nat.beq d i with
  | false => rfl
  | true => exact absurd (Nat.eq_of_beq_eq_true hb) h

structure Has (n : Nat) (ds : List Deferred) (e : Env) (a : Act) : Prop where
  size : a.tmps.size = n
  defers : a.defers = ds
  at_ : ∀ i v, look e i = some v → a.tmps[i]? = some v

def ev (e : Env) : Operand → Value
  | .tmp t => (look e t).getD undef
  | .const v => v
  | .global g => .pointer (some ⟨g, 0, none⟩)
  | .func f => .func (.func f) #[] #[]
def readable (e : Env) : Operand → Bool
  | .tmp t => (look e t).isSome
  | _ => true

theorem Has.eval {n : Nat} {ds : List Deferred} {e : Env} {a : Act} (h : Has n ds e a) {x : Operand} (hx : readable e x = true) : a.eval x = ev e x := by
  cases x with
  | tmp t =>
    simp only [readable, Option.isSome_iff_exists] at hx
    obtain ⟨v, hv⟩ := hx
    simp [Act.eval, ev, hv, h.at_ _ _ hv]
  | _ => rfl

def putE (n : Nat) (d : Option Tmp) (v : Value) (e : Env) : Env := match d with | some d => bif Nat.blt d n then (d, v) :: e else e | none => e

theorem Has.put {n : Nat} {ds : List Deferred} {e : Env} {a : Act} (h : Has n ds e a) (d : Option Tmp) (v : Value) : Has n ds (putE n d v e) (a.put d v) := by
  cases d with
  | none => exact h
  | some d =>
    by_cases hd : d < n
    · refine ⟨by simp [Act.put, h.size], by simp [Act.put, h.defers], ?_⟩
      intro i u hi
      have hb : Nat.blt d n = true := by simpa [Nat.blt_eq] using hd
      simp only [putE, hb, cond_true, look] at hi
      by_cases hid : d = i
      · subst hid
        simp at hi
        simp [Act.put, h.size, hd, hi]
      · have hbe : Nat.beq d i = false := beq_ne hid
        simp only [hbe, cond_false] at hi
        simp only [Act.put]
        rw [Array.getElem?_setIfInBounds_ne hid]
        exact h.at_ _ _ hi
    · have hb : Nat.blt d n = false := by
        cases hb : Nat.blt d n with
        | false => rfl
        | true => exact absurd (by simpa [Nat.blt_eq] using hb) hd
      have : a.put (some d) v = a := by
        cases a with | mk tmps defers =>
        simp only [Act.put]
        congr 1
        have hn : tmps.size = n := h.size
        exact Array.setIfInBounds_eq_of_size_le (by rw [hn]; exact Nat.le_of_not_lt hd)
      rw [this]
      simp only [putE, hb, cond_false]
      exact h
theorem Has.weaken {n : Nat} {ds : List Deferred} {e e' : Env} {a : Act} (h : Has n ds e a) (hs : ∀ i v, look e' i = some v → look e i = some v) : Has n ds e' a :=
  ⟨h.size, h.defers, fun i v hi => h.at_ i v (hs i v hi)⟩

def pick : List Nat → Env → Option Env
  | [], _ => some []
  | k :: ks, e => match look e k, pick ks e with
    | some v, some e' => some ((k, v) :: e')
    | _, _ => none
theorem pick_look : ∀ (ks : List Nat) (e e' : Env), pick ks e = some e' → ∀ i v, look e' i = some v → look e i = some v
  | [], e, e', h, i, v, hi => by simp [pick] at h; subst h; simp [look] at hi
  | k :: ks, e, e', h, i, v, hi => by
    simp only [pick] at h
    split at h
    · rename_i u e2 hu he
      simp only [Option.some.injEq] at h
      subst h
      simp only [look] at hi
      by_cases hk : k = i
      · subst hk; simp at hi; rw [hu, hi]
      · have hbe : Nat.beq k i = false := beq_ne hk
        simp only [hbe, cond_false] at hi
        exact pick_look ks e e2 he i v hi
    · cases h

/-- Is an operation's guard met, as far as is known? 'none': it is not known. -/
def guardE (ops : Array Oper) (e : Env) (o : Oper) : Option Bool :=
  match o.guard with
  | none => some true
  | some (j, want) =>
    match (ops[j]?).bind (·.dst) with
    | none => some (none == some want)
    | some d =>
      match look e d with
      | some (.bool b) => some (some b == some want)
      | some .nilIface => some (none == some want)
      | some (.tuple _) => some (none == some want)
      | _ => none

theorem guardE_spec {n : Nat} {ds : List Deferred} {ops : Array Oper} {e : Env} {o : Oper} {a : Act} {b : Bool} (h : Has n ds e a) (hg : guardE ops e o = some b) : Region.wanted o (yielded ops a.tmps) = b := by
  unfold guardE at hg
  unfold Region.wanted yielded
  split at hg
  · rename_i hn; simp only [hn]; simpa using hg
  · rename_i j want hn
    simp only [hn]
    split at hg
    · rename_i hd; simp only [hd, Option.bind_none]; simpa using hg
    · rename_i d hd
      simp only [hd, Option.bind_some]
      split at hg <;> first | (rename_i hl; rw [h.at_ _ _ hl]; simpa using hg) | cases hg

/-- An operation that can be carried out as far as is known: where its value goes, and what it does. -/
def site (ops : Array Oper) (e : Env) (i : Nat) : Option (Option Tmp × Op) :=
  match ops[i]? with
  | none => none
  | some o => bif (guardE ops e o == some true) && o.op.operands.all (readable e) && !isDefer o.op && !isSelect o.op then some (o.dst, o.op) else none

theorem site_spec {ops : Array Oper} {e : Env} {i : Nat} {d : Option Tmp} {op : Op} (h : site ops e i = some (d, op)) :
    ∃ o, ops[i]? = some o ∧ o.dst = d ∧ o.op = op ∧ guardE ops e o = some true ∧ (∀ x ∈ op.operands, readable e x = true) ∧ isDefer op = false ∧ isSelect op = false := by
  unfold site at h
  split at h
  · cases h
  · rename_i o ho
    cases hc : ((guardE ops e o == some true) && o.op.operands.all (readable e) && !isDefer o.op && !isSelect o.op) with
    | false => rw [hc] at h; cases h
    | true =>
      rw [hc] at h
      simp only [cond_true, Option.some.injEq, Prod.mk.injEq] at h
      simp only [Bool.and_eq_true, Bool.not_eq_true', beq_iff_eq, Array.all_eq_true_iff_forall_mem] at hc
      obtain ⟨rfl, rfl⟩ := h
      exact ⟨o, ho, rfl, rfl, hc.1.1.1, hc.1.1.2, hc.1.2, hc.2⟩

theorem execOp_has {n : Nat} {ds : List Deferred} {e : Env} {a : Act} {o : Oper} (h : Has n ds e a) (hr : ∀ x ∈ o.op.operands, readable e x = true) (hs : isSelect o.op = false) : execOp a.eval o = execOp (ev e) o :=
  execOp_congr o (fun cs b hc => by rw [hc] at hs; cases hs) (fun x hx => h.eval (hr x hx))

end Go.Al
