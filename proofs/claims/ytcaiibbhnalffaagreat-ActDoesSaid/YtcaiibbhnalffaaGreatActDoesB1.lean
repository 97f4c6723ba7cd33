/-
  Put together out of 21 texts: The base of this claim's walks: a judgement on code and on the operations of a region, with one rule for each kind of step; what an operation answers without looking at the world; worlds that keep what they held. Memory, for this claim's walks: blocks of cells, worlds t
-/
import Derived.OrdersIn
import Derived.RangeFuncCalls
import Derived.RangeFuncLeaves
import Derived.KernelRfl
import Derived.Below
import Derived.Laws.Cells
import Derived.Laws.CopyRow
import Derived.Great.FillDense
import Derived.Lib.Overlaps
import Derived.WalkKit
import Derived.ProofKit
import Derived.OpenShut
import Derived.Deep.Slices
import Derived.RangeFuncNested
import Derived.Laws.StructEq
import Derived.ChangeKeysEq
import Derived.Laws.MakeOwn
import Derived.Test.YtcaiibbhnalffaaGreatProg
open Go.IntKind (i64)
set_option maxRecDepth 10000
namespace Go.Al
open Go Go.RowKit
def static {α : Type} (P : Program) : Sem α → Option α
 | .pure a => some a
 | .program k => static P (k P)
 | .mark _ k => static P k
 | _ => none
theorem static_run {α : Type} {P : Program} : ∀ (s : Sem α) {x : α}, static P s = some x → ∀ w, s.run P w = .ok x w
 | .pure a, x, h, w => by simp [static] at h; subst h; rfl
 | .program k, x, h, w => by
  simp only [static] at h
  simp only [Sem.run]
  exact static_run (k P) h w
 | .mark m k, x, h, w => by
  simp only [static] at h
  simp only [Sem.run]
  exact static_run k h w
 | .load .., _, h, _ => by simp [static] at h
 | .store .., _, h, _ => by simp [static] at h
 | .new .., _, h, _ => by simp [static] at h
 | .shape .., _, h, _ => by simp [static] at h
 | .freeze .., _, h, _ => by simp [static] at h
 | .frozen .., _, h, _ => by simp [static] at h
 | .getObj .., _, h, _ => by simp [static] at h
 | .setObj .., _, h, _ => by simp [static] at h
 | .choose .., _, h, _ => by simp [static] at h
 | .sys .., _, h, _ => by simp [static] at h
 | .halt .., _, h, _ => by simp [static] at h
def FR (r : Option Nat) : Fence := { Fence.wide with round := r }
abbrev Post := Exit → Act → World → Prop
def W (P : Program) (r : Option Nat) (c : Code) (Q : Post) (a : Act) (w : World) : Prop := c.wpIn (FR r) 0 P Q a w
theorem room_FR (r : Option Nat) (n : Nat) : (FR r).room n := fun _ h => by simp [FR, Fence.wide] at h
theorem calls_of_FR {P : Program} {r : Option Nat} {n : Nat} {f : FuncId} {args : Array Value} {w : World} {R : Ending → World → Prop} (h : CallsIn (FR r) n P f args w R) : Calls P f args w R :=
 callsIn_wide.1 (show CallsIn Fence.wide n P f args w R from h)
theorem calls_to_FR {P : Program} {r : Option Nat} {n : Nat} {f : FuncId} {args : Array Value} {w : World} {R : Ending → World → Prop} (h : Calls P f args w R) : CallsIn (FR r) n P f args w R :=
 show CallsIn Fence.wide n P f args w R from callsIn_wide.2 h
section code
variable {P : Program} {r : Option Nat} {Q : Post} {a a' : Act} {w : World}
theorem W_mono {c : Code} {Q' : Post} (h : W P r c Q a w) (hq : ∀ e a w, Q e a w → Q' e a w) : W P r c Q' a w := wpIn_mono h hq
theorem W_skip (h : Q .normal a w) : W P r .skip Q a w := wpIn_skip h
theorem W_exit {id : Nat} (h : Q (.exit id) a w) : W P r (.exit id) Q a w := wpIn_exit h
theorem W_ret (h : Q .ret a w) : W P r .ret Q a w := wpIn_ret h
theorem W_seq {x y : Code} (h : W P r x (Exit.then (fun a w => W P r y Q a w) Q) a w) : W P r (.seq x y) Q a w := wpIn_seq h
theorem W_block {id : Nat} {c : Code} (h : W P r c (Exit.inBlock id Q) a w) : W P r (.block id c) Q a w := wpIn_block h
theorem W_true {c : Operand} {x y : Code} (h : a.eval c = .bool true) (k : W P r x Q a w) : W P r (.cond c x y) Q a w := wpIn_cond_true h k
theorem W_false {c : Operand} {x y : Code} (h : a.eval c = .bool false) (k : W P r y Q a w) : W P r (.cond c x y) Q a w := wpIn_cond (t := false) h k
theorem W_if {c : Operand} {x y : Code} (p : Prop) [Decidable p] (h : a.eval c = .bool (decide p)) (ht : p → W P r x Q a w) (hf : ¬ p → W P r y Q a w) : W P r (.cond c x y) Q a w := by
 by_cases hp : p
 ·exact W_true (by rw [h]; simp [hp]) (ht hp)
 ·exact W_false (by rw [h]; simp [hp]) (hf hp)
theorem W_ifb {c : Operand} {x y : Code} (b : Bool) (h : a.eval c = .bool b) (ht : b = true → W P r x Q a w) (hf : b = false → W P r y Q a w) : W P r (.cond c x y) Q a w := by
 cases b
 ·exact W_false h (hf rfl)
 ·exact W_true h (ht rfl)
theorem least {p : Nat → Prop} (h : ∃ m, p m) : ∃ m, p m ∧ ∀ k, p k → m ≤ k := by
 classical
 obtain ⟨m, hm⟩ := h
 induction m using Nat.strongRecOn with
 | _ m ih =>
  by_cases hk : ∃ k, k < m ∧ p k
  ·obtain ⟨k, hk, hp⟩ := hk
   exact ih k hk hp
  ·exact ⟨m, hm, fun k hp => Nat.le_of_not_lt fun hlt => hk ⟨k, hlt, hp⟩⟩
theorem W_loop {c : Code} (I : Nat → Act → World → Prop) (n : Nat) (h0 : I n a w)
  (round : ∀ n a w, I n a w → W P r c (Exit.then (fun a' w' => ∃ m, m < n ∧ I m a' w') Q) a w) : W P r (.loop c) Q a w := by
 classical
 have hex : ∃ m, I m a w := ⟨n, h0⟩
 let μ : Act → World → Nat := fun a w => if h : ∃ m, I m a w then Classical.choose (least h) else 0
 have hμ : ∀ a w (h : ∃ m, I m a w), μ a w = Classical.choose (least h) := fun a w h => by simp only [μ]; rw [dif_pos h]
 refine wpIn_loop (F := FR r) (n := 0) (fun a w => ∃ m, I m a w) μ hex ?_
 intro a1 w1 h1
 have hI := (Classical.choose_spec (least h1)).1
 refine wpIn_mono (round _ _ _ hI) ?_
 intro e a2 w2 hq
 cases e <;> try exact hq
 obtain ⟨m, hm, hI2⟩ := hq
 have h2 : ∃ m, I m a2 w2 := ⟨m, hI2⟩
 refine ⟨h2, ?_⟩
 rw [hμ _ _ h1, hμ _ _ h2]
 exact Nat.lt_of_le_of_lt ((Classical.choose_spec (least h2)).2 _ hI2) hm
theorem E_here {id : Nat} (h : Q .normal a w) : Exit.inBlock id Q (.exit id) a w := by simp only [Exit.inBlock, if_true]; exact h
end code
theorem enter {P : Program} {f : FuncId} {fn : Func} {c : Code} {args : Array Value} {w : World} {R : Ending → World → Prop} (hf : P.funcs[f]? = some fn) (hb : fn.body = some c) (a0 : Act)
  (ha : a0 = { tmps := args ++ Array.replicate (fn.ntmps - args.size) undef, defers := [] }) (h : W P none c (bodyPost P fn R) a0 w) : Calls P f args w R := by
 subst ha
 exact calls_of_FR (r := none) (n := 0) (callsIn_of_wp hf hb trivial h)
def isDefer : Op → Bool | .defer _ => true | _ => false
def isSelect : Op → Bool | .select .. => true | _ => false
def OA (P : Program) (r : Option Nat) (ops : Array Oper) (Q : Post) (l : List Nat) (a : Act) (w : World) : Prop := wpOpsIn (FR r) 0 P ops Q l a w
section opers
variable {P : Program} {r : Option Nat} {ops : Array Oper} {Q : Post} {a : Act} {w : World} {i : Nat} {l : List Nat} {o : Oper}
theorem semAt_FR (ρ : Operand → Value) (h : isDefer o.op = false) : o.semAt (FR r).round ρ = execOp ρ o :=
 Oper.semAt_eq _ _ _ (fun c hc => by rw [hc] at h; cases h)
def Upon (P : Program) (r : Option Nat) (o : Oper) (a : Act) (K : Act → World → Prop) (Q : Post) (x : Result Next) : Prop := o.uponIn (FR r) 0 P a K Q x
def Does (P : Program) (r : Option Nat) (o : Oper) (a : Act) (w : World) (K : Act → World → Prop) (Q : Post) : Prop := Upon P r o a K Q ((execOp a.eval o).run P w)
theorem wpIn_iff (K : Act → World → Prop) (hd : isDefer o.op = false) : o.wpIn (FR r) 0 P a w K Q ↔ Does P r o a w K Q := by
 unfold Oper.wpIn Does Upon
 rw [semAt_FR _ hd]
 exact ⟨fun h => h.2, fun h => ⟨fun _ _ => trivial, h⟩⟩
theorem OA_cons (ho : ops[i]? = some o) (hw : Region.wanted o (yielded ops a.tmps) = true) (hd : isDefer o.op = false) (h : Does P r o a w (OA P r ops Q l) Q) : OA P r ops Q (i :: l) a w := by
 simp only [OA, wpOpsIn, ho, hw, if_true]
 exact (wpIn_iff _ hd).2 h
theorem OA_not (ho : ops[i]? = some o) (hw : Region.wanted o (yielded ops a.tmps) = false) (h : OA P r ops Q l (a.put o.dst undef) w) : OA P r ops Q (i :: l) a w := by
 simp only [OA, wpOpsIn, ho, hw]
 exact ⟨fun _ _ => trivial, h⟩
theorem does_value {K : Act → World → Prop} {v : Value} {w' : World} (hx : (execOp a.eval o).run P w = .ok (.value v) w') (k : K (a.put o.dst v) w') : Does P r o a w K Q := by
 unfold Does; rw [hx]; exact k
theorem does_skip {K : Act → World → Prop} {w' : World} (hx : (execOp a.eval o).run P w = .ok .skip w') (k : K (a.put o.dst undef) w') : Does P r o a w K Q := by
 unfold Does; rw [hx]; exact k
theorem does_call {K : Act → World → Prop} {f : FuncId} {args : Array Value} {w' : World} (hx : (execOp a.eval o).run P w = .ok (.enter f args) w')
  (hc : Calls P f args w' fun e w'' => ∃ v, e = .returned v ∧ K (a.put o.dst v) w'') : Does P r o a w K Q := by
 unfold Does; rw [hx]
 refine ⟨fun h => by simp [FR, Fence.wide] at h, ?_⟩
 refine calls_to_FR (hc.mono ?_)
 rintro e w'' ⟨v, rfl, hk⟩
 exact hk
theorem does_round {K : Act → World → Prop} {g : Nat} {f : FuncId} {tmps : Array Value} {assign body : Code} {w' : World} (hx : (execOp a.eval o).run P w = .ok (.round g f tmps assign body) w')
  (hc : RoundIn (FR r) 0 P g f tmps assign body w' fun e w'' => ∃ v, e = .returned v ∧ K (a.put o.dst v) w'') : Does P r o a w K Q := by
 unfold Does; rw [hx]
 refine ⟨fun h => by simp [FR, Fence.wide] at h, ?_⟩
 refine hc.mono ?_
 rintro e w'' ⟨v, rfl, hk⟩
 exact hk
theorem W_region {id : Nat} (h : OA P r ops Q (List.range ops.size) a w) : W P r (.region id ops false) Q a w := wpIn_region h
end opers
abbrev Env := List (Nat × Value)
def look : Env → Nat → Option Value
 | [], _ => none
 | (i, v) :: l, t => bif Nat.beq i t then some v else look l t
theorem beq_ne {d i : Nat} (h : d ≠ i) : Nat.beq d i = false := by
 cases hb : Nat.beq d i with
 | false => rfl
 | true => exact absurd (Nat.eq_of_beq_eq_true hb) h
structure Has (n : Nat) (ds : List Deferred) (e : Env) (a : Act) : Prop where
 size : a.tmps.size = n
 defers : a.defers = ds
 at_ : ∀ i v, look e i = some v → a.tmps[i]? = some v
def ev (e : Env) : Operand → Value
 | .tmp t => (look e t).getD undef
 | .const v => v
 | .global g => .pointer (some ⟨g, 0, none⟩)
 | .func f => .func (.func f) #[] #[]
def readable (e : Env) : Operand → Bool
 | .tmp t => (look e t).isSome
 | _ => true
theorem Has.eval {n : Nat} {ds : List Deferred} {e : Env} {a : Act} (h : Has n ds e a) {x : Operand} (hx : readable e x = true) : a.eval x = ev e x := by
 cases x with
 | tmp t =>
  simp only [readable, Option.isSome_iff_exists] at hx
  obtain ⟨v, hv⟩ := hx
  simp [Act.eval, ev, hv, h.at_ _ _ hv]
 | _ => rfl
def putE (n : Nat) (d : Option Tmp) (v : Value) (e : Env) : Env := match d with | some d => bif Nat.blt d n then (d, v) :: e else e | none => e
theorem Has.put {n : Nat} {ds : List Deferred} {e : Env} {a : Act} (h : Has n ds e a) (d : Option Tmp) (v : Value) : Has n ds (putE n d v e) (a.put d v) := by
 cases d with
 | none => exact h
 | some d =>
  by_cases hd : d < n
  ·refine ⟨by simp [Act.put, h.size], by simp [Act.put, h.defers], ?_⟩
   intro i u hi
   have hb : Nat.blt d n = true := by simpa [Nat.blt_eq] using hd
   simp only [putE, hb, cond_true, look] at hi
   by_cases hid : d = i
   ·subst hid
    simp at hi
    simp [Act.put, h.size, hd, hi]
   ·have hbe : Nat.beq d i = false := beq_ne hid
    simp only [hbe, cond_false] at hi
    simp only [Act.put]
    rw [Array.getElem?_setIfInBounds_ne hid]
    exact h.at_ _ _ hi
  ·have hb : Nat.blt d n = false := by
    cases hb : Nat.blt d n with
    | false => rfl
    | true => exact absurd (by simpa [Nat.blt_eq] using hb) hd
   have : a.put (some d) v = a := by
    cases a with | mk tmps defers =>
    simp only [Act.put]
    congr 1
    have hn : tmps.size = n := h.size
    exact Array.setIfInBounds_eq_of_size_le (by rw [hn]; exact Nat.le_of_not_lt hd)
   rw [this]
   simp only [putE, hb, cond_false]
   exact h
theorem Has.weaken {n : Nat} {ds : List Deferred} {e e' : Env} {a : Act} (h : Has n ds e a) (hs : ∀ i v, look e' i = some v → look e i = some v) : Has n ds e' a :=
 ⟨h.size, h.defers, fun i v hi => h.at_ i v (hs i v hi)⟩
def pick : List Nat → Env → Option Env
 | [], _ => some []
 | k :: ks, e => match look e k, pick ks e with
  | some v, some e' => some ((k, v) :: e')
  | _, _ => none
theorem pick_look : ∀ (ks : List Nat) (e e' : Env), pick ks e = some e' → ∀ i v, look e' i = some v → look e i = some v
 | [], e, e', h, i, v, hi => by simp [pick] at h; subst h; simp [look] at hi
 | k :: ks, e, e', h, i, v, hi => by
  simp only [pick] at h
  split at h
  ·rename_i u e2 hu he
   simp only [Option.some.injEq] at h
   subst h
   simp only [look] at hi
   by_cases hk : k = i
   ·subst hk; simp at hi; rw [hu, hi]
   ·have hbe : Nat.beq k i = false := beq_ne hk
    simp only [hbe, cond_false] at hi
    exact pick_look ks e e2 he i v hi
  ·cases h
def guardE (ops : Array Oper) (e : Env) (o : Oper) : Option Bool :=
 match o.guard with
 | none => some true
 | some (j, want) =>
  match (ops[j]?).bind (·.dst) with
  | none => some (none == some want)
  | some d =>
   match look e d with
   | some (.bool b) => some (some b == some want)
   | some .nilIface => some (none == some want)
   | some (.tuple _) => some (none == some want)
   | _ => none
theorem guardE_spec {n : Nat} {ds : List Deferred} {ops : Array Oper} {e : Env} {o : Oper} {a : Act} {b : Bool} (h : Has n ds e a) (hg : guardE ops e o = some b) : Region.wanted o (yielded ops a.tmps) = b := by
 unfold guardE at hg
 unfold Region.wanted yielded
 split at hg
 ·rename_i hn; simp only [hn]; simpa using hg
 ·rename_i j want hn
  simp only [hn]
  split at hg
  ·rename_i hd; simp only [hd, Option.bind_none]; simpa using hg
  ·rename_i d hd
   simp only [hd, Option.bind_some]
   split at hg <;> first | (rename_i hl; rw [h.at_ _ _ hl]; simpa using hg) | cases hg
def site (ops : Array Oper) (e : Env) (i : Nat) : Option (Option Tmp × Op) :=
 match ops[i]? with
 | none => none
 | some o => bif (guardE ops e o == some true) && o.op.operands.all (readable e) && !isDefer o.op && !isSelect o.op then some (o.dst, o.op) else none
theorem site_spec {ops : Array Oper} {e : Env} {i : Nat} {d : Option Tmp} {op : Op} (h : site ops e i = some (d, op)) :
  ∃ o, ops[i]? = some o ∧ o.dst = d ∧ o.op = op ∧ guardE ops e o = some true ∧ (∀ x ∈ op.operands, readable e x = true) ∧ isDefer op = false ∧ isSelect op = false := by
 unfold site at h
 split at h
 ·cases h
 ·rename_i o ho
  cases hc : ((guardE ops e o == some true) && o.op.operands.all (readable e) && !isDefer o.op && !isSelect o.op) with
  | false => rw [hc] at h; cases h
  | true =>
   rw [hc] at h
   simp only [cond_true, Option.some.injEq, Prod.mk.injEq] at h
   simp only [Bool.and_eq_true, Bool.not_eq_true', beq_iff_eq, Array.all_eq_true_iff_forall_mem] at hc
   obtain ⟨rfl, rfl⟩ := h
   exact ⟨o, ho, rfl, rfl, hc.1.1.1, hc.1.1.2, hc.1.2, hc.2⟩
theorem execOp_has {n : Nat} {ds : List Deferred} {e : Env} {a : Act} {o : Oper} (h : Has n ds e a) (hr : ∀ x ∈ o.op.operands, readable e x = true) (hs : isSelect o.op = false) : execOp a.eval o = execOp (ev e) o :=
 execOp_congr o (fun cs b hc => by rw [hc] at hs; cases hs) (fun x hx => h.eval (hr x hx))
end Go.Al
namespace Go.Al
open Go Go.RowKit
def Blk (w : World) (b : Nat) (l : List Value) (t : TypeId) : Prop := w.heap[b]? = some (.cells l.toArray t (0, 0))
abbrev none_ : Nat → Prop := fun _ => False
abbrev only (b : Nat) : Nat → Prop := fun k => k = b
structure Keep (S : Nat → Prop) (w w' : World) : Prop where
 os : w'.os = w.os
 tape : w'.tape = w.tape
 output : w'.output = w.output
 size : w.heap.size ≤ w'.heap.size
 block : ∀ k, k < w.heap.size → ¬ S k → w'.heap[k]? = w.heap[k]?
 fz : ∀ (k : Nat) (c : Array Value) (t : TypeId) (f : Nat × Nat), w'.heap[k]? = some (Obj.cells c t f) → f = (0, 0) ∨ ∃ c' : Array Value, w.heap[k]? = some (Obj.cells c' t f)
theorem Blk.lt {w : World} {b : Nat} {l : List Value} {t : TypeId} (h : Blk w b l t) : b < w.heap.size := (Array.getElem?_eq_some_iff.1 h).1
theorem Keep.refl (S : Nat → Prop) (w : World) : Keep S w w := ⟨rfl, rfl, rfl, Nat.le_refl _, fun _ _ _ => rfl, fun _ c _ _ h => .inr ⟨c, h⟩⟩
theorem Keep.trans {S T U : Nat → Prop} {a b c : World} (h : Keep S a b) (k : Keep T b c) (hS : ∀ i, i < a.heap.size → S i → U i) (hT : ∀ i, i < a.heap.size → T i → U i) : Keep U a c := by
 refine ⟨k.os.trans h.os, k.tape.trans h.tape, k.output.trans h.output, Nat.le_trans h.size k.size, ?_, ?_⟩
 ·intro i hi hU
  have h1 := h.block i hi (fun hs => hU (hS i hi hs))
  have h2 := k.block i (Nat.lt_of_lt_of_le hi h.size) (fun ht => hU (hT i hi ht))
  exact h2.trans h1
 ·intro i cs t f hi
  rcases k.fz i cs t f hi with hf | ⟨c', hc⟩
  ·exact .inl hf
  ·exact h.fz i c' t f hc
theorem Keep.tr {S : Nat → Prop} {a b c : World} (h : Keep S a b) (k : Keep S b c) : Keep S a c := h.trans k (fun _ _ h => h) (fun _ _ h => h)
theorem Keep.mono {S T : Nat → Prop} {a b : World} (h : Keep S a b) (hT : ∀ i, i < a.heap.size → S i → T i) : Keep T a b :=
 ⟨h.os, h.tape, h.output, h.size, fun i hi ht => h.block i hi (fun hs => ht (hT i hi hs)), h.fz⟩
theorem Keep.ofNone {S : Nat → Prop} {a b : World} (h : Keep none_ a b) : Keep S a b := h.mono (fun _ _ f => f.elim)
theorem Keep.fresh {S T : Nat → Prop} {a b c : World} (h : Keep S a b) (k : Keep T b c) (hT : ∀ i, i < a.heap.size → T i → S i) : Keep S a c := h.trans k (fun _ _ h => h) hT
theorem Blk.keep {S : Nat → Prop} {w w' : World} {b : Nat} {l : List Value} {t : TypeId} (h : Blk w b l t) (k : Keep S w w') (hS : ¬ S b) : Blk w' b l t := (k.block b h.lt hS).trans h
theorem Keep.drew {S : Nat → Prop} {a b : World} (h : Keep S a b) (n : Nat) : Keep S a { b with drawn := n } := ⟨h.os, h.tape, h.output, h.size, h.block, h.fz⟩
theorem Blk.inj {w : World} {b : Nat} {l l' : List Value} {t t' : TypeId} (h : Blk w b l t) (h' : Blk w b l' t') : l = l' ∧ t = t' := by
 unfold Blk at h h'
 rw [h] at h'
 simp only [Option.some.injEq, Obj.cells.injEq] at h'
 exact ⟨List.toArray_inj h'.1, h'.2.1⟩
theorem Keep.grown {w w' : World} (h : Keep none_ w w') : Grown w w' := by
 have hb : Below w.heap.size w w' := ⟨h.os, h.tape, h.output, h.size, fun k hk => h.block k hk (fun f => f)⟩
 refine ⟨hb.frame _, fun a => ?_, h.size⟩
 by_cases ha : a.block < w.heap.size
 ·exact hb.frozen (p := a) ha
 ·have hn : w.heap[a.block]? = none := Array.getElem?_eq_none (by omega)
  have h1 : w.frozen? a = false := by simp [World.frozen?, hn]
  rw [h1]
  unfold World.frozen?
  split
  ·rename_i c t lo hi he
   rcases h.fz _ _ _ _ he with hf | ⟨c', hc⟩
   ·simp only [Prod.mk.injEq] at hf
    obtain ⟨rfl, rfl⟩ := hf
    simp
   ·rw [hn] at hc; cases hc
  ·rfl
theorem Keep.below {w w' : World} (h : Keep none_ w w') : Below w.heap.size w w' := ⟨h.os, h.tape, h.output, h.size, fun k hk => h.block k hk (fun f => f)⟩
def laid (w : World) (o : Obj) : World := { w with heap := w.heap.push o }
def turned (w : World) (b : Nat) (o : Obj) : World := { w with heap := w.heap.setIfInBounds b o }
theorem laid_blk (w : World) (l : List Value) (t : TypeId) : Blk (laid w (.cells l.toArray t)) w.heap.size l t := by
 show (w.heap.push _)[w.heap.size]? = _
 exact Array.getElem?_push_size
theorem laid_size (w : World) (o : Obj) : (laid w o).heap.size = w.heap.size + 1 := by
 show (w.heap.push _).size = _
 simp
theorem laid_keep (w : World) (o : Obj) (ho : ∀ c t f, o = Obj.cells c t f → f = (0, 0)) : Keep none_ w (laid w o) := by
 refine ⟨rfl, rfl, rfl, by rw [laid_size]; omega, ?_, ?_⟩
 ·intro k hk _
  simp only [laid]
  rw [Array.getElem?_push, if_neg (by omega)]
 ·intro k c t f hk
  simp only [laid] at hk
  rw [Array.getElem?_push] at hk
  split at hk
  ·simp only [Option.some.injEq] at hk; exact .inl (ho c t f hk)
  ·exact .inr ⟨c, hk⟩
theorem turned_size (w : World) (b : Nat) (o : Obj) : (turned w b o).heap.size = w.heap.size := by simp [turned]
theorem turned_blk {w : World} {b : Nat} (l : List Value) (t : TypeId) (hb : b < w.heap.size) : Blk (turned w b (.cells l.toArray t)) b l t := by simp [Blk, turned, hb]
theorem turned_keep {w : World} {b : Nat} {o : Obj} (ho : ∀ c t f, o = Obj.cells c t f → f = (0, 0)) : Keep (only b) w (turned w b o) := by
 refine ⟨rfl, rfl, rfl, by simp [turned], ?_, ?_⟩
 ·intro k hk hne
  simp only [turned]
  exact Array.getElem?_setIfInBounds_ne (Ne.symm hne)
 ·intro k c t f hk
  simp only [turned] at hk
  rw [Array.getElem?_setIfInBounds] at hk
  split at hk
  ·split at hk
   ·simp only [Option.some.injEq] at hk; exact .inl (ho c t f hk)
   ·cases hk
  ·exact .inr ⟨c, hk⟩
def tk (P : Program) (t : TypeId) : Option (Bool × Nat) :=
 match P.underlying t, P.info? t with
 | some (.struct _), some i => some (true, i.size)
 | some (.array _ _), some i => some (true, i.size)
 | some _, some i => some (false, i.size)
 | _, _ => none
theorem tk_agg {P : Program} {t : TypeId} {b : Bool} {n : Nat} (h : tk P t = some (b, n)) (w : World) : (isAgg t).run P w = .ok b w ∧ (sizeOf t).run P w = .ok n w := by
 unfold tk at h
 unfold isAgg sizeOf typeInfo underlying
 cases hu : P.underlying t with
 | none => simp [hu] at h
 | some d =>
  cases hi : P.info? t with
  | none => cases d <;> simp [hu, hi] at h
  | some i =>
   simp only [hu, hi] at h
   cases d <;> simp at h <;> obtain ⟨rfl, rfl⟩ := h <;> simp [Sem.run_bind, program, Sem.run, hu, hi, Result.andThen]
def Loads (P : Program) (w : World) (t : TypeId) (p : Addr) (v : Value) : Prop := (Instr.loadAt t (.pointer (some p))).run P w = .ok v w
def Stores (P : Program) (w : World) (t : TypeId) (p : Addr) (v : Value) (w' : World) : Prop := (Instr.storeAt t (.pointer (some p)) v).run P w = .ok () w'
theorem blk_cell {w : World} {b : Nat} {l : List Value} {t : TypeId} (h : Blk w b l t) (o : Nat) : w.cell? ⟨b, o, none⟩ = l[o]? := by
 unfold Blk at h
 simp [World.cell?, h]
theorem add_plain (b o j : Nat) : (⟨b, o, none⟩ : Addr).add j = ⟨b, o + j, none⟩ := by
 unfold Addr.add
 split
 ·rename_i h; simp [h]
 ·rfl
theorem loads_cell {P : Program} {w : World} {t T : TypeId} {b o n : Nat} {l : List Value} {v : Value} (h : Blk w b l T) (ht : tk P t = some (false, n)) (hv : l[o]? = some v) : Loads P w t ⟨b, o, none⟩ v := by
 unfold Loads Instr.loadAt Instr.sureAddr loadVar load
 have hc := blk_cell h o
 rw [hv] at hc
 simp [Sem.run_bind, (tk_agg ht w).1, Result.andThen, Sem.run, hc]
theorem loads_agg {P : Program} {w : World} {t T : TypeId} {b o n : Nat} {l : List Value} (h : Blk w b l T) (ht : tk P t = some (true, n)) (hn : o + n ≤ l.length) : Loads P w t ⟨b, o, none⟩ (.agg ((l.drop o).take n).toArray) := by
 have hlen : ((l.drop o).take n).length = n := by simp; omega
 have hl : (loadCells ⟨b, o, none⟩ ((l.drop o).take n).length).run P w = .ok ((l.drop o).take n).toArray w :=
  run_loadCells_list (P := P) w ⟨b, o, none⟩ _ (fun j v hv => by
   rw [add_plain, blk_cell h]
   rw [List.getElem?_take] at hv
   split at hv
   ·rw [List.getElem?_drop] at hv; exact hv
   ·cases hv)
 rw [hlen] at hl
 unfold Loads Instr.loadAt Instr.sureAddr loadVar
 simp [Sem.run_bind, (tk_agg ht w).1, (tk_agg ht w).2, Result.andThen, hl]
theorem loads_agg' {P : Program} {w : World} {t T : TypeId} {b o n : Nat} {l cs : List Value} (h : Blk w b l T) (ht : tk P t = some (true, n)) (hc : (l.drop o).take n = cs) (hn : cs.length = n) : Loads P w t ⟨b, o, none⟩ (.agg cs.toArray) := by
 subst hc
 by_cases h0 : n = 0
 ·subst h0
  have hl : (loadCells ⟨b, o, none⟩ 0).run P w = .ok #[] w := rfl
  unfold Loads Instr.loadAt Instr.sureAddr loadVar
  simp [Sem.run_bind, (tk_agg ht w).1, (tk_agg ht w).2, Result.andThen, hl]
 ·exact loads_agg h ht (by simp at hn; omega)
def over (l : List Value) (o : Nat) (cs : List Value) : List Value := l.take o ++ cs ++ l.drop (o + cs.length)
theorem over_length {l cs : List Value} {o : Nat} (h : o + cs.length ≤ l.length) : (over l o cs).length = l.length := by simp [over]; omega
theorem over_over {l vs : List Value} {o i : Nat} {v : Value} (h : o + i < l.length) : over (over l (o + i) [v]) (o + (i + 1)) vs = over l (o + i) (v :: vs) := by
 simp only [over, List.length_cons, List.length_nil, Nat.zero_add]
 have e1 : List.take (o + (i + 1)) (List.take (o + i) l ++ [v] ++ List.drop (o + i + 1) l) = List.take (o + i) l ++ [v] := by
  rw [List.take_append_of_le_length (by simp; omega)]
  rw [List.take_of_length_le (by simp; omega)]
 have e2 : List.drop (o + (i + 1) + vs.length) (List.take (o + i) l ++ [v] ++ List.drop (o + i + 1) l) = List.drop (o + i + (vs.length + 1)) l := by
  rw [List.drop_append, List.drop_of_length_le (by simp; omega), List.nil_append, List.drop_drop]
  congr 1
  simp; omega
 rw [e1, e2]
 simp
theorem run_storeCells {P : Program} {b : Nat} {t : TypeId} : ∀ (vs : List Value) (o i : Nat) (l : List Value) (w : World), Blk w b l t → o + i + vs.length ≤ l.length → (∀ v ∈ vs, v.oneCell' = true) →
  (storeCells ⟨b, o, none⟩ vs i).run P w = .ok () (turned w b (.cells (over l (o + i) vs).toArray t))
 | [], o, i, l, w, h, hn, h1 => by
  simp only [storeCells, over, List.append_nil, List.length_nil, Nat.add_zero, List.take_append_drop]
  show Result.ok () w = _
  congr 1
  cases w with | mk heap tape drawn os output =>
  simp only [turned, World.mk.injEq, and_true]
  unfold Blk at h
  apply Array.ext
  ·simp
  ·intro j hj _
   by_cases hjb : b = j
   ·subst hjb
    simp only [Array.getElem_setIfInBounds_self]
    have := (Array.getElem?_eq_some_iff.1 h).2
    exact this
   ·rw [Array.getElem_setIfInBounds_ne _ hjb]
 | v :: vs, o, i, l, w, h, hn, h1 => by
  have hlen : o + i < l.length := by simp at hn; omega
  have hc : w.cell? ⟨b, o + i, none⟩ = some l[o + i] := by rw [blk_cell h]; simp [hlen]
  have hf : w.frozen? ⟨b, o + i, none⟩ = false := by unfold Blk at h; simp [World.frozen?, h]
  have hset : w.setCell ⟨b, o + i, none⟩ v = turned w b (.cells (over l (o + i) [v]).toArray t) := by
   unfold Blk at h
   cases w with | mk heap tape drawn os output =>
   simp only [World.setCell, turned, World.mk.injEq, and_true]
   simp only at h
   obtain ⟨hb, hb2⟩ := Array.getElem?_eq_some_iff.1 h
   apply Array.ext
   ·simp
   ·intro j hj _
    rw [Array.getElem_modify]
    by_cases hjb : b = j
    ·subst hjb
     rw [if_pos rfl, Array.getElem_setIfInBounds_self, hb2]
     simp only [Option.isSome_none, Bool.false_eq_true, if_false, Obj.cells.injEq, and_true]
     apply Array.ext'
     simp only [Array.toList_setIfInBounds, over]
     rw [List.set_eq_take_append_cons_drop, if_pos hlen]
     simp
    ·rw [if_neg hjb, Array.getElem_setIfInBounds_ne _ hjb]
  have h' : Blk (turned w b (.cells (over l (o + i) [v]).toArray t)) b (over l (o + i) [v]) t := turned_blk _ _ h.lt
  have ih := run_storeCells (P := P) vs o (i + 1) _ _ h' (by rw [over_length (by simp; omega)]; simp at hn; omega) (fun u hu => h1 u (List.mem_cons_of_mem _ hu))
  simp only [storeCells]
  rw [add_plain, Sem.run_bind]
  rw [run_store P w ⟨b, o + i, none⟩ v .plain (h1 v (List.mem_cons_self ..)), hc]
  simp only [hf, Bool.false_eq_true, if_false, Result.andThen, hset, ih]
  congr 1
  simp only [turned, Array.setIfInBounds_setIfInBounds]
  rw [over_over (by omega)]
theorem stores {P : Program} {w : World} {t T : TypeId} {b o n : Nat} {k : Bool} {l cs : List Value} {v : Value} (h : Blk w b l T) (ht : tk P t = some (k, n)) (hv : v.cells = cs.toArray) (hn : cs.length = n) (hl : o + n ≤ l.length) (h1 : ∀ u ∈ cs, u.oneCell' = true) :
  Stores P w t ⟨b, o, none⟩ v (turned w b (.cells (over l o cs).toArray T)) := by
 have hs := run_storeCells (P := P) cs o 0 l w h (by omega) h1
 unfold Stores Instr.storeAt Instr.sureAddr storeVar
 simp only [Sem.run_bind, Sem.run_pure, Result.andThen, (tk_agg ht w).2, hv]
 simp only [List.size_toArray, hn, ne_eq, not_true_eq_false, if_false]
 simpa using hs
end Go.Al
namespace Go.Al
open Go Go.RowKit
def V (P : Program) (r : Option Nat) (n : Nat) (ds : List Deferred) (c : Code) (Q : Post) (e : Env) (w : World) : Prop := ∀ a, Has n ds e a → W P r c Q a w
def XV (n : Nat) (ds : List Deferred) (x : Exit) (Q : Post) (e : Env) (w : World) : Prop := ∀ a, Has n ds e a → Q x a w
def OI (P : Program) (r : Option Nat) (n : Nat) (ds : List Deferred) (ops : Array Oper) (Q : Post) (i : Nat) (e : Env) (w : World) : Prop := ∀ a, Has n ds e a → OA P r ops Q (List.range' i (ops.size - i)) a w
section code
variable {P : Program} {r : Option Nat} {n : Nat} {ds : List Deferred} {Q : Post} {e e' : Env} {w : World} {c x y : Code}
theorem V_pick (e' : Env) (h : pick (e'.map (·.1)) e = some e') (k : V P r n ds c Q e' w) : V P r n ds c Q e w :=
 fun a ha => k a (ha.weaken (pick_look _ _ _ h))
theorem V_eq (e' : Env) (h : e = e') (k : V P r n ds c Q e' w) : V P r n ds c Q e w := by subst h; exact k
theorem V_skip (h : XV n ds .normal Q e w) : V P r n ds .skip Q e w := fun a ha => W_skip (h a ha)
theorem V_exit {id : Nat} (h : XV n ds (.exit id) Q e w) : V P r n ds (.exit id) Q e w := fun a ha => W_exit (h a ha)
theorem V_ret (h : XV n ds .ret Q e w) : V P r n ds .ret Q e w := fun a ha => W_ret (h a ha)
theorem V_seq (h : V P r n ds x (Exit.then (fun a w => W P r y Q a w) Q) e w) : V P r n ds (.seq x y) Q e w := fun a ha => W_seq (h a ha)
theorem V_block {id : Nat} (h : V P r n ds c (Exit.inBlock id Q) e w) : V P r n ds (.block id c) Q e w := fun a ha => W_block (h a ha)
theorem V_true {t : Nat} (h : look e t = some (.bool true)) (k : V P r n ds x Q e w) : V P r n ds (.cond (.tmp t) x y) Q e w := fun a ha => W_true (by simp [Act.eval, ha.at_ _ _ h]) (k a ha)
theorem V_false {t : Nat} (h : look e t = some (.bool false)) (k : V P r n ds y Q e w) : V P r n ds (.cond (.tmp t) x y) Q e w := fun a ha => W_false (by simp [Act.eval, ha.at_ _ _ h]) (k a ha)
theorem V_if {t : Nat} (p : Prop) [Decidable p] (h : look e t = some (.bool (decide p))) (ht : p → V P r n ds x Q e w) (hf : ¬ p → V P r n ds y Q e w) : V P r n ds (.cond (.tmp t) x y) Q e w :=
 fun a ha => W_if p (by simp [Act.eval, ha.at_ _ _ h]) (fun hp => ht hp a ha) (fun hp => hf hp a ha)
theorem V_ifb {t : Nat} (b : Bool) (h : look e t = some (.bool b)) (ht : b = true → V P r n ds x Q e w) (hf : b = false → V P r n ds y Q e w) : V P r n ds (.cond (.tmp t) x y) Q e w :=
 fun a ha => W_ifb b (by simp [Act.eval, ha.at_ _ _ h]) (fun hp => ht hp a ha) (fun hp => hf hp a ha)
theorem V_region {id : Nat} {ops : Array Oper} (h : OI P r n ds ops Q 0 e w) : V P r n ds (.region id ops false) Q e w := fun a ha => W_region (by
 have := h a ha
 rw [Nat.sub_zero, ← List.range_eq_range'] at this
 exact this)
theorem V_loop (I : Nat → World → Env → Prop) (k : Nat) (h0 : I k w e) (round : ∀ k w e, I k w e → V P r n ds c (Exit.then (fun a' w' => ∃ m, m < k ∧ ∃ e', I m w' e' ∧ Has n ds e' a') Q) e w) : V P r n ds (.loop c) Q e w := by
 intro a ha
 refine W_loop (fun k a w => ∃ e, I k w e ∧ Has n ds e a) k ⟨e, h0, ha⟩ ?_
 rintro k a w ⟨e, hi, ha⟩
 exact round k w e hi a ha
theorem V_again {I : Nat → World → Env → Prop} {k : Nat} (m : Nat) (hm : m < k) (e' : Env) (h : pick (e'.map (·.1)) e = some e') (hi : I m w e') :
  XV n ds .normal (Exit.then (fun a' w' => ∃ m, m < k ∧ ∃ e', I m w' e' ∧ Has n ds e' a') Q) e w := fun _ ha => ⟨m, hm, e', hi, ha.weaken (pick_look _ _ _ h)⟩
theorem X_then (h : V P r n ds y Q e w) : XV n ds .normal (Exit.then (fun a w => W P r y Q a w) Q) e w := h
theorem X_block {id : Nat} (h : XV n ds .normal Q e w) : XV n ds .normal (Exit.inBlock id Q) e w := h
theorem X_exit_then {id : Nat} {K : Act → World → Prop} (h : XV n ds (.exit id) Q e w) : XV n ds (.exit id) (Exit.then K Q) e w := h
theorem X_exit_here {id : Nat} (h : XV n ds .normal Q e w) : XV n ds (.exit id) (Exit.inBlock id Q) e w := fun a ha => E_here (h a ha)
theorem X_ret_then {K : Act → World → Prop} (h : XV n ds .ret Q e w) : XV n ds .ret (Exit.then K Q) e w := h
theorem X_ret_block {id : Nat} (h : XV n ds .ret Q e w) : XV n ds .ret (Exit.inBlock id Q) e w := h
end code
def resE (fn : Func) (e : Env) : Option Value :=
 match fn.results.toList with
 | [.tmp t] => look e t
 | [.tmp t, .tmp u] => match look e t, look e u with | some v, some v' => some (.tuple #[v, v']) | _, _ => none
 | [.tmp t, .tmp u, .tmp x] => match look e t, look e u, look e x with | some v, some v', some v2 => some (.tuple #[v, v', v2]) | _, _, _ => none
 | [.tmp t, .tmp u, .tmp x, .tmp y] => match look e t, look e u, look e x, look e y with | some v, some v', some v2, some v3 => some (.tuple #[v, v', v2, v3]) | _, _, _, _ => none
 | [] => some (.tuple #[])
 | _ => none
theorem results_of_list {fn : Func} {l : List ResultVar} (h : fn.results.toList = l) : fn.results = l.toArray := by rw [← h]
theorem resE_run {fn : Func} {n : Nat} {ds : List Deferred} {e : Env} {a : Act} {v : Value} {P : Program} (ha : Has n ds e a) (h : resE fn e = some v) (w : World) : (results fn a.tmps).run P w = .ok v w := by
 unfold resE at h
 split at h
 ·rename_i t hl
  have hr := results_of_list hl
  have h1 := ha.at_ _ _ h
  unfold results
  simp [hr, Array.mapM_eq_foldlM, Sem.run_pure, h1]
 ·rename_i t u hl
  have hr := results_of_list hl
  split at h <;> first | (rename_i v1 v2 h1 h2; simp only [Option.some.injEq] at h; subst h; have k1 := ha.at_ _ _ h1; have k2 := ha.at_ _ _ h2; unfold results; simp [hr, Array.mapM_eq_foldlM, Sem.run_pure, k1, k2]) | cases h
 ·rename_i t u x hl
  have hr := results_of_list hl
  split at h <;> first | (rename_i v1 v2 v3 h1 h2 h3; simp only [Option.some.injEq] at h; subst h; have k1 := ha.at_ _ _ h1; have k2 := ha.at_ _ _ h2; have k3 := ha.at_ _ _ h3; unfold results; simp [hr, Array.mapM_eq_foldlM, Sem.run_pure, k1, k2, k3]) | cases h
 ·rename_i t u x y hl
  have hr := results_of_list hl
  split at h <;> first | (rename_i v1 v2 v3 v4 h1 h2 h3 h4; simp only [Option.some.injEq] at h; subst h; have k1 := ha.at_ _ _ h1; have k2 := ha.at_ _ _ h2; have k3 := ha.at_ _ _ h3; have k4 := ha.at_ _ _ h4; unfold results; simp [hr, Array.mapM_eq_foldlM, Sem.run_pure, k1, k2, k3, k4]) | cases h
 ·rename_i hl
  have hr := results_of_list hl
  simp only [Option.some.injEq] at h
  subst h
  unfold results
  simp [hr, Array.mapM_eq_foldlM, Sem.run_pure]
 ·cases h
theorem X_return {P : Program} {fn : Func} {R : Ending → World → Prop} {n : Nat} {e : Env} {w : World} (v : Value) (h : resE fn e = some v) (hR : R (.returned v) w) : XV n [] .ret (bodyPost P fn R) e w :=
 fun _ ha => ⟨ha.defers, v, resE_run ha h w, hR⟩
theorem X_end {P : Program} {fn : Func} {R : Ending → World → Prop} {n : Nat} {e : Env} {w : World} (v : Value) (h : resE fn e = some v) (hR : R (.returned v) w) : XV n [] .normal (bodyPost P fn R) e w :=
 fun _ ha => ⟨ha.defers, v, resE_run ha h w, hR⟩
def zipE : Nat → List Value → Env
 | _, [] => []
 | i, v :: l => (i, v) :: zipE (i + 1) l
theorem look_zipE : ∀ (l : List Value) (i j : Nat) (v : Value), look (zipE i l) j = some v → i ≤ j ∧ l[j - i]? = some v
 | [], i, j, v, h => by simp [zipE, look] at h
 | u :: l, i, j, v, h => by
  simp only [zipE, look] at h
  by_cases hij : i = j
  ·subst hij; simp at h; simp [h]
  ·rw [beq_ne hij] at h
   simp only [cond_false] at h
   obtain ⟨h1, h2⟩ := look_zipE l (i + 1) j v h
   refine ⟨by omega, ?_⟩
   obtain ⟨d, rfl⟩ : ∃ d, j = i + 1 + d := ⟨j - (i + 1), by omega⟩
   rw [show i + 1 + d - i = d + 1 by omega]
   rw [show i + 1 + d - (i + 1) = d by omega] at h2
   simpa using h2
theorem enterV {P : Program} {f : FuncId} {fn : Func} {c : Code} {args : Array Value} {w : World} {R : Ending → World → Prop} (hf : P.funcs[f]? = some fn) (hb : fn.body = some c) (l : List Value) (n : Nat)
  (hl : args = l.toArray) (hn : fn.ntmps = n) (hle : Nat.ble l.length n = true) (h : V P none n [] c (bodyPost P fn R) (zipE 0 l) w) : Calls P f args w R := by
 subst hl
 replace hle := Nat.le_of_ble_eq_true hle
 refine enter hf hb _ rfl (h _ ⟨?_, rfl, ?_⟩)
 ·simp; omega
 ·intro i v hi
  obtain ⟨_, h2⟩ := look_zipE l 0 i v hi
  rw [Nat.sub_zero] at h2
  have hlt := (List.getElem?_eq_some_iff.1 h2).1
  simp only [Array.getElem?_append, List.size_toArray, hlt, if_true]
  simpa using h2
section opers
variable {P : Program} {r : Option Nat} {n : Nat} {ds : List Deferred} {ops : Array Oper} {Q : Post} {i : Nat} {e : Env} {w w' : World} {d : Option Tmp} {op : Op}
theorem range_step {m i : Nat} (h : i < m) : List.range' i (m - i) = i :: List.range' (i + 1) (m - (i + 1)) := by
 rw [show m - i = (m - (i + 1)) + 1 by omega, List.range'_succ]
theorem OI_end (h : ops.size = i) (k : XV n ds .normal Q e w) : OI P r n ds ops Q i e w := fun a ha => by
 rw [show ops.size - i = 0 by omega]
 exact k a ha
theorem OI_do (h : site ops e i = some (d, op)) (k : ∀ o : Oper, ops[i]? = some o → o.op = op → o.dst = d → ∀ a, Has n ds e a → execOp a.eval o = execOp (ev e) o → Does P r o a w (fun a' w' => OA P r ops Q (List.range' (i + 1) (ops.size - (i + 1))) a' w') Q) : OI P r n ds ops Q i e w := fun a ha => by
 obtain ⟨o, ho, hd, hop, hg, hr, hdf, hs⟩ := site_spec h
 have hlt : i < ops.size := (Array.getElem?_eq_some_iff.1 ho).1
 rw [range_step hlt]
 subst hop
 exact OA_cons ho (guardE_spec ha hg) hdf (k o ho rfl hd a ha (execOp_has ha hr hs))
theorem OI_value {v : Value} (h : site ops e i = some (d, op)) (hx : ∀ o : Oper, o.op = op → (execOp (ev e) o).run P w = .ok (.value v) w') (k : OI P r n ds ops Q (i + 1) (putE n d v e) w') : OI P r n ds ops Q i e w :=
 OI_do h fun o _ ho hd a ha he => does_value (by rw [he]; exact hx o ho) (by rw [hd]; exact k _ (ha.put d v))
theorem OI_skipped (h : site ops e i = some (d, op)) (hx : ∀ o : Oper, o.op = op → (execOp (ev e) o).run P w = .ok .skip w') (k : OI P r n ds ops Q (i + 1) (putE n d undef e) w') : OI P r n ds ops Q i e w :=
 OI_do h fun o _ ho hd a ha he => does_skip (by rw [he]; exact hx o ho) (by rw [hd]; exact k _ (ha.put d undef))
theorem OI_not {o : Oper} (ho : ops[i]? = some o) (hg : guardE ops e o = some false) (k : OI P r n ds ops Q (i + 1) (putE n o.dst undef e) w) : OI P r n ds ops Q i e w := fun a ha => by
 have hlt : i < ops.size := (Array.getElem?_eq_some_iff.1 ho).1
 rw [range_step hlt]
 exact OA_not ho (guardE_spec ha hg) (k _ (ha.put _ _))
theorem OI_eq (e' : Env) (h : e = e') (k : OI P r n ds ops Q i e' w) : OI P r n ds ops Q i e w := by subst h; exact k
theorem OI_pick (e' : Env) (h : pick (e'.map (·.1)) e = some e') (k : OI P r n ds ops Q i e' w) : OI P r n ds ops Q i e w :=
 fun a ha => k a (ha.weaken (pick_look _ _ _ h))
def runE (P : Program) (ops : Array Oper) (n : Nat) : Nat → Nat → Env → Option Env
 | 0, _, e => some e
 | m + 1, i, e =>
  match ops[i]? with
  | none => none
  | some o =>
   match guardE ops e o with
   | none => none
   | some false => runE P ops n m (i + 1) (putE n o.dst undef e)
   | some true =>
    match site ops e i with
    | none => none
    | some _ =>
     match static P (execOp (ev e) o) with
     | some (.value v) => runE P ops n m (i + 1) (putE n o.dst v e)
     | _ => none
theorem runE_sound : ∀ (m i : Nat) (e e' : Env), runE P ops n m i e = some e' → OI P r n ds ops Q (i + m) e' w → OI P r n ds ops Q i e w
 | 0, i, e, e', h, k => by simp only [runE, Option.some.injEq] at h; subst h; exact k
 | m + 1, i, e, e', h, k => by
  simp only [runE] at h
  rw [show i + (m + 1) = i + 1 + m by omega] at k
  split at h
  ·cases h
  ·rename_i o ho
   split at h
   ·cases h
   ·rename_i hg; exact OI_not ho hg (runE_sound m (i + 1) _ _ h k)
   ·rename_i hg
    split at h
    ·cases h
    ·rename_i so hso
     split at h
     ·rename_i v hv
      obtain ⟨d, op⟩ := so
      have hso' := hso
      obtain ⟨o', ho', hd, hop, _⟩ := site_spec hso
      rw [ho] at ho'
      simp only [Option.some.injEq] at ho'
      subst ho'
      subst hd
      refine OI_do hso' fun o2 hi2 ho2 hd2 a ha he => does_value (v := v) (w' := w) ?_ ?_
      ·rw [ho] at hi2
       simp only [Option.some.injEq] at hi2
       subst hi2
       rw [he]
       exact static_run _ hv w
      ·rw [hd2]; exact runE_sound m (i + 1) _ _ h k _ (ha.put _ _)
     ·cases h
def statE (P : Program) (ops : Array Oper) (n i j : Nat) (e : Env) (ks : List Nat) : Option Env := bif Nat.ble i j then (runE P ops n (j - i) i e).bind (pick ks) else none
theorem OI_static (j : Nat) (e' : Env) (h : statE P ops n i j e (e'.map (·.1)) = some e') (k : OI P r n ds ops Q j e' w) : OI P r n ds ops Q i e w := by
 unfold statE at h
 cases hij : Nat.ble i j with
 | false => rw [hij] at h; cases h
 | true =>
  rw [hij] at h
  simp only [cond_true] at h
  cases hr : runE P ops n (j - i) i e with
  | none => rw [hr] at h; cases h
  | some e2 =>
   rw [hr] at h
   simp only [Option.bind_some] at h
   refine runE_sound (j - i) i e e2 hr ?_
   rw [show i + (j - i) = j by have := Nat.le_of_ble_eq_true hij; omega]
   exact OI_pick e' h k
theorem OI_load {t : TypeId} {x : Operand} {p : Addr} {v : Value} (d : Option Tmp) (h : site ops e i = some (d, .load t x)) (hx : ev e x = .pointer (some p)) (hl : Loads P w t p v) (k : OI P r n ds ops Q (i + 1) (putE n d v e) w) : OI P r n ds ops Q i e w :=
 OI_value h (fun o ho => by
  unfold Loads at hl
  unfold execOp
  simp only [ho, hx, Sem.run_bind, hl, Result.andThen, Sem.run_pure]) k
theorem OI_store {t : TypeId} {x y : Operand} {p : Addr} {v : Value} (d : Option Tmp) (h : site ops e i = some (d, .store t x y)) (hx : ev e x = .pointer (some p)) (hy : ev e y = v) (hs : Stores P w t p v w') (k : OI P r n ds ops Q (i + 1) (putE n d undef e) w') : OI P r n ds ops Q i e w :=
 OI_skipped h (fun o ho => by
  unfold Stores at hs
  unfold execOp
  simp only [ho, hx, hy, Sem.run_bind, hs, Result.andThen, Sem.run_pure]) k
theorem OI_cell {T : TypeId} {b m : Nat} {l : List Value} (t : TypeId) (x : Operand) (o : Nat) (v : Value) (d : Option Tmp) (h : site ops e i = some (d, .load t x)) (hx : ev e x = .pointer (some ⟨b, o, none⟩)) (hb : Blk w b l T) (ht : tk P t = some (false, m)) (hv : l[o]? = some v)
  (k : OI P r n ds ops Q (i + 1) (putE n d v e) w) : OI P r n ds ops Q i e w := OI_load d h hx (loads_cell hb ht hv) k
theorem OI_agg {T : TypeId} {b m : Nat} {l : List Value} (t : TypeId) (x : Operand) (o : Nat) (cs : List Value) (d : Option Tmp) (h : site ops e i = some (d, .load t x)) (hx : ev e x = .pointer (some ⟨b, o, none⟩)) (hb : Blk w b l T) (ht : tk P t = some (true, m)) (hv : (l.drop o).take m = cs) (hm : cs.length = m)
  (k : OI P r n ds ops Q (i + 1) (putE n d (.agg cs.toArray) e) w) : OI P r n ds ops Q i e w := OI_load d h hx (loads_agg' hb ht hv hm) k
theorem OI_laid {l : List Value} {t : TypeId} {v : Value} (d : Option Tmp) (op : Op) (h : site ops e i = some (d, op)) (hx : ∀ o : Oper, o.op = op → (execOp (ev e) o).run P w = .ok (.value v) (laid w (.cells l.toArray t)))
  (k : ∀ w', Blk w' w.heap.size l t → Keep none_ w w' → w'.heap.size = w.heap.size + 1 → OI P r n ds ops Q (i + 1) (putE n d v e) w') : OI P r n ds ops Q i e w :=
 OI_value h hx (k _ (laid_blk _ _ _) (laid_keep _ _ (by intro c t f hc; cases hc; rfl)) (laid_size _ _))
theorem OI_box (t : TypeId) (x : Operand) (v : Value) (l : List Value) (d : Option Tmp) (h : site ops e i = some (d, .box t x)) (hx : ev e x = v) (hl : v.cells = l.toArray)
  (k : ∀ b w', b = w.heap.size → Blk w' b l t → Keep none_ w w' → w'.heap.size = b + 1 → OI P r n ds ops Q (i + 1) (putE n d (.pointer (some ⟨b, 0, none⟩)) e) w') : OI P r n ds ops Q i e w :=
 OI_laid d _ h (fun o ho => by
  unfold execOp
  simp only [ho, hx]
  unfold Instr.box newVar newRow newObj
  simp only [hl]
  rfl) (fun w' => k _ w' rfl)
def zeroV (P : Program) (t : TypeId) : Option Value := (P.info? t).bind (·.zero)
theorem zeroV_run {t : TypeId} {v : Value} (h : zeroV P t = some v) (w : World) : (zeroValue t).run P w = .ok v w := by
 unfold zeroV at h
 unfold zeroValue typeInfo
 cases hi : P.info? t with
 | none => simp [hi] at h
 | some inf =>
  simp only [hi, Option.bind_some] at h
  simp [Sem.run_bind, program, Sem.run, hi, Result.andThen, h]
theorem OI_alloc (t : TypeId) (v : Value) (l : List Value) (d : Option Tmp) (h : site ops e i = some (d, .alloc t)) (hz : zeroV P t = some v) (hl : v.cells = l.toArray)
  (k : ∀ b w', b = w.heap.size → Blk w' b l t → Keep none_ w w' → w'.heap.size = b + 1 → OI P r n ds ops Q (i + 1) (putE n d (.pointer (some ⟨b, 0, none⟩)) e) w') : OI P r n ds ops Q i e w :=
 OI_laid d _ h (fun o ho => by
  unfold execOp
  simp only [ho]
  unfold Instr.alloc
  simp only [Sem.run_bind, zeroV_run hz, Result.andThen]
  unfold newVar newRow newObj
  simp only [hl]
  rfl) (fun w' => k _ w' rfl)
theorem OI_set {T : TypeId} {b m : Nat} {kd : Bool} {l : List Value} (t : TypeId) (x y : Operand) (o : Nat) (v : Value) (cs : List Value) (d : Option Tmp) (h : site ops e i = some (d, .store t x y)) (hx : ev e x = .pointer (some ⟨b, o, none⟩)) (hy : ev e y = v)
  (hb : Blk w b l T) (ht : tk P t = some (kd, m)) (hv : v.cells = cs.toArray) (hn : cs.length = m) (hl : o + m ≤ l.length) (h1 : ∀ u ∈ cs, u.oneCell' = true)
  (k : ∀ w', Blk w' b (over l o cs) T → Keep (only b) w w' → w'.heap.size = w.heap.size → OI P r n ds ops Q (i + 1) (putE n d undef e) w') : OI P r n ds ops Q i e w :=
 OI_store d h hx hy (stores hb ht hv hn hl h1) (k _ (turned_blk _ _ hb.lt) (turned_keep (by intro c t f hc; cases hc; rfl)) (turned_size _ _ _))
def callee (e : Env) (c : Call) : Option (FuncId × Array Value) :=
 match c.callee with
 | .value f => match ev e f with | .func (.func g) first cap => some (g, first ++ c.args.map (ev e) ++ cap) | _ => none
 | _ => none
def bodied (P : Program) (f : FuncId) : Bool := match P.funcs[f]? with | some fn => !(fn.name == "runtime.NumGoroutine") && fn.body.isSome | none => false
theorem callFunc_run {f : FuncId} (h : bodied P f = true) (args : Array Value) (w : World) : (callFunc f args).run P w = .ok (.enter f args) w := by
 unfold bodied at h
 unfold callFunc
 cases hf : P.funcs[f]? with
 | none => simp [hf] at h
 | some fn =>
  simp only [hf, Bool.and_eq_true, Bool.not_eq_true', Option.isSome_iff_exists] at h
  obtain ⟨h1, c, hc⟩ := h
  simp [Sem.run_bind, program, Sem.run, hf, Result.andThen, hc]
  exact fun e => by simp [e] at h1
theorem call_run {c : Call} {f : FuncId} {args : Array Value} (h : callee e c = some (f, args)) (hf : bodied P f = true) (o : Oper) (ho : o.op = .call c) (w : World) : (execOp (ev e) o).run P w = .ok (.enter f args) w := by
 unfold callee at h
 unfold execOp
 simp only [ho]
 unfold resolve
 split at h
 ·rename_i g hg
  split at h
  ·rename_i g' first cap hv
   simp only [Option.some.injEq, Prod.mk.injEq] at h
   obtain ⟨rfl, rfl⟩ := h
   simp only [hg, hv, Deferred.ofValue, Sem.run_bind, Sem.run_pure, Result.andThen, invoke]
   exact callFunc_run hf _ w
  ·cases h
 ·cases h
theorem OI_call {R : Ending → World → Prop} (c : Call) (f : FuncId) (args : Array Value) (d : Option Tmp) (h : site ops e i = some (d, .call c)) (hc : callee e c = some (f, args)) (hf : bodied P f = true) (hR : Calls P f args w R)
  (k : ∀ e' w', R e' w' → ∃ v, e' = .returned v ∧ OI P r n ds ops Q (i + 1) (putE n d v e) w') : OI P r n ds ops Q i e w :=
 OI_do h fun o _ ho hd a ha he => does_call (by rw [he]; exact call_run hc hf o ho w) (hR.mono fun e' w' hr => by
  obtain ⟨v, hv, hk⟩ := k e' w' hr
  exact ⟨v, hv, by rw [hd]; exact hk _ (ha.put d v)⟩)
end opers
end Go.Al
namespace Go.Al
open Go Go.RowKit
section
variable {P : Program} {r : Option Nat} {ops : Array Oper} {Q : Post} {act : Nat → Bool} {G : World → Prop}
structure Sure (Q : Post) : Prop where
 panic : ∀ c a w, ¬ Q (.panic c) a w
 outgrown : ∀ a w, ¬ Q .outgrown a w
def Away (d : Option Tmp) (a a' : Act) : Prop := ∀ t, d ≠ some t → a'.tmps[t]? = a.tmps[t]?
theorem Away.put (d : Option Tmp) (v : Value) (a : Act) : Away d a (a.put d v) := by
 intro t ht
 cases d with
 | none => rfl
 | some d => exact Array.getElem?_setIfInBounds_ne (fun e => ht (by rw [e]))
theorem Away.eval {d : Option Tmp} {a a' : Act} (h : Away d a a') {x : Operand} (hx : ∀ t, x = .tmp t → d ≠ some t) : a'.eval x = a.eval x := by
 cases x with
 | tmp t => simp [Act.eval, h t (hx t rfl)]
 | _ => rfl
theorem away_exec {d : Option Tmp} {a a' : Act} (h : Away d a a') {o : Oper} (hs : isSelect o.op = false) (hl : ∀ t, d = some t → t ∉ o.looksAt ops) : execOp a'.eval o = execOp a.eval o :=
 execOp_congr o (fun cs b hc => by rw [hc] at hs; cases hs) (fun x hx => h.eval (fun t ht hd => hl t hd (by
  subst ht
  exact List.mem_append_left _ (List.mem_filterMap.2 ⟨.tmp t, by simpa using hx, rfl⟩))))
theorem away_wanted {d : Option Tmp} {a a' : Act} (h : Away d a a') {o : Oper} (hl : ∀ t, d = some t → t ∉ o.looksAt ops) : Region.wanted o (yielded ops a'.tmps) = Region.wanted o (yielded ops a.tmps) := by
 unfold Region.wanted
 cases hg : o.guard with
 | none => rfl
 | some g =>
  obtain ⟨j, want⟩ := g
  simp only
  congr 1
  unfold yielded
  cases hd : (ops[j]?).bind (·.dst) with
  | none => rfl
  | some t =>
   simp only [Option.bind_some]
   rw [h t (fun e => hl t e (by
    refine List.mem_append_right _ ?_
    simp [hg, hd]))]
theorem Does_mono {o : Oper} {a : Act} {w : World} {K K' : Act → World → Prop} (h : ∀ a' w', Away o.dst a a' → K a' w' → K' a' w') (hh : Does P r o a w K Q) : Does P r o a w K' Q := by
 unfold Does Upon at *
 generalize (execOp a.eval o).run P w = x at *
 cases x with
 | ok n w' =>
  cases n <;> simp only [Oper.uponIn] at hh ⊢
  case value v => exact h _ _ (Away.put _ _ _) hh
  case skip => exact h _ _ (Away.put _ _ _) hh
  case defer d => exact h _ _ (fun t ht => Away.put o.dst undef { a with defers := d :: a.defers } t ht) hh
  case enter f args => exact ⟨hh.1, CallsIn.mono hh.2 (fun e w'' he => by cases e <;> first | exact h _ _ (Away.put _ _ _) he | exact he)⟩
  case row f args => exact ⟨hh.1, RowsIn.mono hh.2 (fun _ _ he => h _ _ (Away.put _ _ _) he)⟩
  case round => exact ⟨hh.1, RoundIn.mono hh.2 (fun e w'' he => by cases e <;> first | exact h _ _ (Away.put _ _ _) he | exact he)⟩
 | halt x w' => cases x <;> simp only [Oper.uponIn] at hh ⊢ <;> exact hh
theorem Does_some {o : Oper} {a : Act} {w : World} {K : Act → World → Prop} (hQ : Sure Q) (hh : Does P r o a w K Q) : ∃ a' w', Away o.dst a a' ∧ K a' w' := by
 unfold Does Upon at hh
 generalize (execOp a.eval o).run P w = x at *
 cases x with
 | ok n w' =>
  cases n <;> simp only [Oper.uponIn] at hh
  case value v => exact ⟨_, _, Away.put _ _ _, hh⟩
  case skip => exact ⟨_, _, Away.put _ _ _, hh⟩
  case defer d => exact ⟨_, _, fun t ht => Away.put o.dst undef { a with defers := d :: a.defers } t ht, hh⟩
  case enter f args =>
   obtain ⟨e, w'', fr, hR, _⟩ := hh.2.2 [] (room_FR _ _)
   cases e with
   | returned v => exact ⟨_, _, Away.put _ _ _, hR⟩
   | panicked c => exact absurd hR (hQ.panic _ _ _)
   | outgrown => obtain ⟨a0, w0, h0⟩ := hR; exact absurd h0 (hQ.outgrown _ _)
  case row f args =>
   obtain ⟨v, w'', hR, _⟩ := hh.2 default [] (room_FR _ _)
   exact ⟨_, _, Away.put _ _ _, hR⟩
  case round =>
   obtain ⟨e, w'', hR, _⟩ := hh.2.2 default [] (room_FR _ _)
   cases e with
   | returned v => exact ⟨_, _, Away.put _ _ _, hR⟩
   | panicked c => exact absurd hR (hQ.panic _ _ _)
   | outgrown => obtain ⟨a0, w0, h0⟩ := hR; exact absurd h0 (hQ.outgrown _ _)
 | halt x w' => cases x <;> simp only [Oper.uponIn] at hh <;> exact absurd hh (hQ.panic _ _ _)
theorem Does_put {o : Oper} {a : Act} {w : World} {K : Act → World → Prop} {d : Option Tmp} {v : Value} (hQ : Sure Q) (hs : isSelect o.op = false) (hl : ∀ t, d = some t → t ∉ o.looksAt ops) (hne : ∀ t, d = some t → o.dst ≠ some t) :
  Does P r o (a.put d v) w K Q ↔ Does P r o a w (fun a' w' => K (a'.put d v) w') Q := by
 unfold Does Upon
 rw [away_exec (Away.put d v a) hs hl]
 have comm : ∀ u, (a.put d v).put o.dst u = (a.put o.dst u).put d v := fun u => Act.put_comm a v u hne
 generalize (execOp a.eval o).run P w = x
 cases x with
 | ok n w' =>
  cases n <;> simp only [Oper.uponIn, comm]
  case defer dd =>
   rw [Act.put_defers a d v dd, Act.put_comm _ v undef hne]
  case enter f args =>
   constructor
   ·rintro ⟨h1, h2⟩
    exact ⟨h1, h2.mono fun e w'' he => by cases e <;> first | exact he | exact absurd he (hQ.panic _ _ _)⟩
   ·rintro ⟨h1, h2⟩
    exact ⟨h1, h2.mono fun e w'' he => by cases e <;> first | exact he | exact absurd he (hQ.panic _ _ _)⟩
  case round =>
   constructor
   ·rintro ⟨h1, h2⟩
    exact ⟨h1, h2.mono fun e w'' he => by cases e <;> first | exact he | exact absurd he (hQ.panic _ _ _)⟩
   ·rintro ⟨h1, h2⟩
    exact ⟨h1, h2.mono fun e w'' he => by cases e <;> first | exact he | exact absurd he (hQ.panic _ _ _)⟩
 | halt x w' =>
  cases x <;> simp only [Oper.uponIn]
  case panic => exact ⟨fun h => absurd h (hQ.panic _ _ _), fun h => absurd h (hQ.panic _ _ _)⟩
def noLoad (o : Oper) : Bool := match o.op with | .load _ _ => false | _ => true
def Yq (P : Program) (ops : Array Oper) (G : World → Prop) (o : Oper) (v : Value) (a : Act) : Prop :=
 (Region.wanted o (yielded ops a.tmps) = true ∧ ∀ w, (G w ∨ noLoad o = true) → (execOp a.eval o).run P w = .ok (.value v) w) ∨ (Region.wanted o (yielded ops a.tmps) = false ∧ v = undef)
theorem Yq.away {o : Oper} {v : Value} {d : Option Tmp} {a a' : Act} (h : Away d a a') (hs : isSelect o.op = false) (hl : ∀ t, d = some t → t ∉ o.looksAt ops) : Yq P ops G o v a' ↔ Yq P ops G o v a := by
 unfold Yq
 rw [away_exec h hs hl, away_wanted h hl]
theorem Yq.one {o : Oper} {u v : Value} {a : Act} {w : World} (hw : G w ∨ noLoad o = true) (h : Yq P ops G o u a) (k : Yq P ops G o v a) : u = v := by
 rcases h with ⟨h1, h2⟩ | ⟨h1, h2⟩ <;> rcases k with ⟨k1, k2⟩ | ⟨k1, k2⟩
 ·have := (h2 w hw).symm.trans (k2 w hw)
  simpa using this
 ·rw [h1] at k1; cases k1
 ·rw [h1] at k1; cases k1
 ·rw [h2, k2]
def need (ops : Array Oper) (act : Nat → Bool) (i : Nat) : Bool := (List.range ops.size).any fun j => !act j && !((Region.before ops).getD i 0).testBit j && (match ops[j]? with | some o => !noLoad o | none => false)
def wpG (P : Program) (r : Option Nat) (ops : Array Oper) (Q : Post) (act : Nat → Bool) (G : World → Prop) : List Nat → Act → World → Prop
 | [], a, w => Q .normal a w
 | i :: l, a, w =>
  match ops[i]? with
  | none => False
  | some o =>
   if (act i && Region.wanted o (yielded ops a.tmps)) = true then Does P r o a w (fun a' w' => (need ops act i = true → G w') ∧ wpG P r ops Q act G l a' w') Q
   else ∃ v, Yq P ops G o v a ∧ wpG P r ops Q act G l (a.put o.dst v) w
theorem wpG_mono {i : Nat} {l l' : List Nat} (h : ∀ a w, wpG P r ops Q act G l a w → wpG P r ops Q act G l' a w) {a : Act} {w : World} (hh : wpG P r ops Q act G (i :: l) a w) : wpG P r ops Q act G (i :: l') a w := by
 simp only [wpG] at *
 cases ho : ops[i]? with
 | none => simp only [ho] at hh
 | some o =>
  simp only [ho] at hh ⊢
  split at hh
  ·rename_i hc
   rw [if_pos hc]
   exact Does_mono (fun a' w' _ k => ⟨k.1, h _ _ k.2⟩) hh
  ·rename_i hc
   rw [if_neg hc]
   obtain ⟨v, h1, h2⟩ := hh
   exact ⟨v, h1, h _ _ h2⟩
theorem wpG_swap {x i : Nat} {ox oi : Oper} {l : List Nat} {a : Act} {w : World} (hQ : Sure Q) (hox : ops[x]? = some ox) (hoi : ops[i]? = some oi) (hsx : isSelect ox.op = false) (hsi : isSelect oi.op = false) (hap : ox.apart ops oi = true)
  (hact : (act x && act i) = false) (hnd : act x = true → act i = false → need ops act x = true ∨ noLoad oi = true) (h : wpG P r ops Q act G (x :: i :: l) a w) : wpG P r ops Q act G (i :: x :: l) a w := by
 obtain ⟨a1, a2, a3⟩ := Oper.apart_spec hap
 have a2' : ∀ t, oi.dst = some t → ox.dst ≠ some t := fun t ht he => a2 t he ht
 simp only [wpG, hox, hoi] at h ⊢
 by_cases bx : (act x && Region.wanted ox (yielded ops a.tmps)) = true
 ·rw [if_pos bx] at h
  have hai : act i = false := by
   simp only [Bool.and_eq_true] at bx
   simpa [bx.1] using hact
  have bi : ∀ a' : Act, (act i && Region.wanted oi (yielded ops a'.tmps)) = true ↔ False := by simp [hai]
  simp only [bi, if_false] at h ⊢
  obtain ⟨a', w', haw, hG', v0, hy0, _⟩ := Does_some hQ h
  refine ⟨v0, (Yq.away haw hsi a1).1 hy0, ?_⟩
  have hw : Region.wanted ox (yielded ops (a.put oi.dst v0).tmps) = Region.wanted ox (yielded ops a.tmps) := away_wanted (Away.put _ _ _) a3
  rw [hw, if_pos bx]
  rw [Does_put hQ hsx a3 a2']
  refine Does_mono ?_ h
  rintro a'' w'' haw2 ⟨hG2, v, hy, hk⟩
  have e : v = v0 := Yq.one ((hnd (by simp only [Bool.and_eq_true] at bx; exact bx.1) hai).imp hG2 id) ((Yq.away haw2 hsi a1).1 hy) ((Yq.away haw hsi a1).1 hy0)
  subst e
  exact ⟨hG2, hk⟩
 ·rw [if_neg bx] at h
  obtain ⟨vx, hyx, h⟩ := h
  have hwi : Region.wanted oi (yielded ops (a.put ox.dst vx).tmps) = Region.wanted oi (yielded ops a.tmps) := away_wanted (Away.put _ _ _) a1
  rw [hwi] at h
  by_cases bi : (act i && Region.wanted oi (yielded ops a.tmps)) = true
  ·rw [if_pos bi] at h ⊢
   rw [Does_put hQ hsi a1 (fun t ht => a2 t ht)] at h
   refine Does_mono ?_ h
   rintro a' w' haw ⟨hG', hk⟩
   refine ⟨hG', ?_⟩
   have hwx : Region.wanted ox (yielded ops a'.tmps) = Region.wanted ox (yielded ops a.tmps) := away_wanted haw a3
   rw [hwx, if_neg bx]
   exact ⟨vx, (Yq.away haw hsx a3).2 hyx, hk⟩
  ·rw [if_neg bi] at h ⊢
   obtain ⟨vi, hyi, h⟩ := h
   refine ⟨vi, (Yq.away (Away.put _ _ _) hsi a1).1 hyi, ?_⟩
   have hwx : Region.wanted ox (yielded ops (a.put oi.dst vi).tmps) = Region.wanted ox (yielded ops a.tmps) := away_wanted (Away.put _ _ _) a3
   rw [hwx, if_neg bx]
   refine ⟨vx, (Yq.away (Away.put _ _ _) hsx a3).2 hyx, ?_⟩
   rw [Act.put_comm a vi vx a2']
   exact h
theorem wpG_pull {i : Nat} {oi : Oper} (hQ : Sure Q) (hoi : ops[i]? = some oi) (hsi : isSelect oi.op = false) : ∀ (l1 l2 : List Nat),(∀ x, x ∈ l1 → ∃ ox, ops[x]? = some ox ∧ isSelect ox.op = false ∧ ox.apart ops oi = true ∧ (act x && act i) = false ∧ (act x = true → act i = false → need ops act x = true ∨ noLoad oi = true)) →
  ∀ a w, wpG P r ops Q act G (l1 ++ i :: l2) a w → wpG P r ops Q act G (i :: (l1 ++ l2)) a w
 | [], _, _, _, _, h => h
 | x :: l1, l2, hx, a, w, h => by
  obtain ⟨ox, hox, hsx, hap, hact, hnd⟩ := hx x (List.mem_cons_self ..)
  refine wpG_swap hQ hox hoi hsx hsi hap hact hnd ?_
  exact wpG_mono (fun a w => wpG_pull hQ hoi hsi l1 l2 (fun y hy => hx y (List.mem_cons_of_mem _ hy)) a w) h
end
def ancOk (ops : Array Oper) (A : Nat → Nat) : Bool :=
 (List.range ops.size).all fun j => (List.range ops.size).all fun x => !(A j).testBit x || (match ops[j]? with | some o => o.after.toList.any fun e => Region.binds .any e && (Nat.beq e.on x || (A e.on).testBit x) | none => false)
def opsOk (ops : Array Oper) : Bool :=
 (List.range ops.size).all fun j => match ops[j]? with
  | none => false
  | some oj => !isSelect oj.op && !isDefer oj.op && oj.after.toList.all (fun e => !Region.binds .any e || Nat.blt e.on j)
def twoOk (ops : Array Oper) (A : Nat → Nat) (x i : Nat) : Bool := !(A x).testBit i && ((A i).testBit x || (match ops[x]?, ops[i]? with | some ox, some oi => ox.apart ops oi | _, _ => false))
def pairsOk (ops : Array Oper) (A : Nat → Nat) : List Nat → Bool
 | [] => true
 | x :: l => l.all (twoOk ops A x) && pairsOk ops A l
def linx (A : Nat → Nat) : Nat → List Nat → List (List Nat)
 | 0, _ => [[]]
 | f + 1, l => l.flatMap fun a => bif l.any (fun b => (A a).testBit b) then [] else (linx A f (l.filter fun b => !Nat.beq b a)).map (a :: ·)
def eachOnce : List Nat → Bool
 | [] => true
 | x :: l => !l.any (Nat.beq x) && eachOnce l
theorem eachOnce_nodup : ∀ (l : List Nat), eachOnce l = true → l.Nodup
 | [], _ => List.nodup_nil
 | x :: l, h => by
  simp only [eachOnce, Bool.and_eq_true, Bool.not_eq_true'] at h
  refine List.nodup_cons.2 ⟨fun hx => ?_, eachOnce_nodup l h.2⟩
  have := List.any_eq_false.1 h.1 x hx
  simp at this
def fullList (n : Nat) (L : List Nat) : Bool := eachOnce L && L.all (Nat.blt · n) && (List.range n).all fun i => L.any (Nat.beq i)
def sameList : List Nat → List Nat → Bool
 | [], [] => true
 | x :: l, y :: l' => Nat.beq x y && sameList l l'
 | _, _ => false
theorem sameList_eq : ∀ (l l' : List Nat), sameList l l' = true → l = l'
 | [], [], _ => rfl
 | x :: l, y :: l', h => by
  simp only [sameList, Bool.and_eq_true] at h
  rw [Nat.eq_of_beq_eq_true h.1, sameList_eq l l' h.2]
 | [], _ :: _, h => by simp [sameList] at h
 | _ :: _, [], h => by simp [sameList] at h
def drawOk (ops : Array Oper) (act : Nat → Bool) (Ls : List (List Nat)) : Bool :=
 let b := Region.before ops
 let A := fun j => b.getD j 0
 ancOk ops A && opsOk ops && Ls.all (fun L => fullList ops.size L && pairsOk ops A L) &&
 (linx A ((List.range ops.size).filter act).length ((List.range ops.size).filter act)).all fun p => Ls.any fun L => sameList (L.filter act) p
structure Closed_ (ops : Array Oper) (listed : Array Bool) : Prop where
 size : listed.size = ops.size
 deps : ∀ j o, ops[j]? = some o → listed.getD j true = true → ∀ e ∈ o.after, Region.binds .any e = true → listed.getD e.on true = true
theorem getD_any {listed : Array Bool} {i : Nat} (d : Bool) (hi : i < listed.size) : listed.getD i d = listed.getD i true := by
 simp [hi]
structure Good (ops : Array Oper) (A : Nat → Nat) : Prop where
 anc : ancOk ops A = true
 ops_ : ∀ j oj, ops[j]? = some oj → isSelect oj.op = false ∧ isDefer oj.op = false ∧ ∀ e ∈ oj.after, Region.binds .any e = true → e.on < j
theorem good_of {ops : Array Oper} {A : Nat → Nat} (h1 : ancOk ops A = true) (h2 : opsOk ops = true) : Good ops A := ⟨h1, by
 intro j oj hoj
 have hj : j < ops.size := (Array.getElem?_eq_some_iff.1 hoj).1
 unfold opsOk at h2
 have h := List.all_eq_true.1 h2 j (List.mem_range.2 hj)
 simp only [hoj, Bool.and_eq_true, Bool.not_eq_true'] at h
 obtain ⟨⟨h1, h2⟩, h3⟩ := h
 refine ⟨h1, h2, fun e he hb => ?_⟩
 have := List.all_eq_true.1 h3 e (by simpa using he)
 simp only [hb, Bool.not_true, Bool.false_or, Nat.blt_eq] at this
 exact this⟩
theorem anc_listed {ops : Array Oper} {A : Nat → Nat} {listed : Array Bool} (hg : Good ops A) (hc : Closed_ ops listed) :
  ∀ (j : Nat) (o : Oper), ops[j]? = some o → (∀ e ∈ o.after, Region.binds .any e = true → listed.getD e.on true = true) → ∀ x, x < ops.size → (A j).testBit x = true → listed.getD x true = true := by
 intro j
 induction j using Nat.strongRecOn with
 | _ j ih =>
  intro o ho hd x hx hb
  have hj : j < ops.size := (Array.getElem?_eq_some_iff.1 ho).1
  have hA := hg.anc
  unfold ancOk at hA
  have h1 := List.all_eq_true.1 (List.all_eq_true.1 hA j (List.mem_range.2 hj)) x (List.mem_range.2 hx)
  simp only [hb, Bool.not_true, Bool.false_or, ho] at h1
  obtain ⟨e, he, h2⟩ := List.any_eq_true.1 h1
  simp only [Bool.and_eq_true, Bool.or_eq_true] at h2
  obtain ⟨hbind, h3⟩ := h2
  have he' : e ∈ o.after := by simpa using he
  have hl := hd e he' hbind
  rcases h3 with h3 | h3
  ·rw [← Nat.eq_of_beq_eq_true h3]; exact hl
  ·have hlt := (hg.ops_ j o ho).2.2 e he' hbind
   have hes : e.on < ops.size := by omega
   obtain ⟨oe, hoe⟩ : ∃ oe, ops[e.on]? = some oe := ⟨ops[e.on], by simp [hes]⟩
   exact ih e.on hlt oe hoe (hc.deps e.on oe hoe hl) x hx h3
def Sched (ops : Array Oper) : Nat → Array Bool → List Nat → Prop
 | 0, listed, s => s = [] ∧ Region.ready .any ops listed = []
 | f + 1, listed, s => (s = [] ∧ Region.ready .any ops listed = []) ∨ ∃ i s', s = i :: s' ∧ i ∈ Region.ready .any ops listed ∧ Sched ops f (listed.setIfInBounds i true) s'
def left (n : Nat) (listed : Array Bool) : List Nat := (List.range n).filter fun i => !listed.getD i true
theorem mem_left {n : Nat} {listed : Array Bool} {x : Nat} : x ∈ left n listed ↔ x < n ∧ listed.getD x true = false := by simp [left, List.mem_filter]
theorem ready_left {ops : Array Oper} {listed : Array Bool} {x : Nat} (hx : x ∈ Region.ready .any ops listed) : x ∈ left ops.size listed := by
 obtain ⟨h0, o, ho, _⟩ := mem_ready.1 hx
 exact mem_left.2 ⟨(Array.getElem?_eq_some_iff.1 ho).1, h0⟩
theorem left_set {ops : Array Oper} {listed : Array Bool} {i : Nat} (hc : listed.size = ops.size) (hi : i < ops.size) : left ops.size (listed.setIfInBounds i true) = (left ops.size listed).filter fun x => !Nat.beq x i := by
 unfold left
 rw [List.filter_filter]
 apply List.filter_congr
 intro x hx
 by_cases hxi : i = x
 ·subst hxi
  simp [hc, hi]
 ·rw [getD_set_ne true hxi, beq_ne (Ne.symm hxi)]
  simp
theorem linearise_sched {ops : Array Oper} : ∀ (fuel t : Nat) (listed : Array Bool), listed.size = ops.size → (left ops.size listed).length ≤ fuel → Sched ops fuel listed (Region.linearise.go .any ops fuel t listed []) := by
 intro fuel
 induction fuel with
 | zero =>
  intro t listed _ hl
  refine ⟨by simp [Region.linearise.go], ?_⟩
  cases hr : Region.ready .any ops listed with
  | nil => rfl
  | cons x xs =>
   have := ready_left (by rw [hr]; exact List.mem_cons_self .. : x ∈ Region.ready .any ops listed)
   rw [List.length_eq_zero_iff.1 (Nat.le_zero.1 hl)] at this
   cases this
 | succ fuel ih =>
  intro t listed hsz hl
  simp only [Region.linearise.go]
  change Sched ops (fuel + 1) listed (match (Region.ready .any ops listed)[t % (Region.ready .any ops listed).length]? with
   | some i => Region.linearise.go .any ops fuel (t / (Region.ready .any ops listed).length) (listed.setIfInBounds i true) [i]
   | none => [].reverse)
  cases hi : (Region.ready .any ops listed)[t % (Region.ready .any ops listed).length]? with
  | none =>
   left
   refine ⟨rfl, ?_⟩
   cases hr : Region.ready .any ops listed with
   | nil => rfl
   | cons x xs =>
    rw [hr] at hi
    have hlt : t % (x :: xs).length < (x :: xs).length := Nat.mod_lt _ (by simp)
    rw [List.getElem?_eq_none_iff] at hi
    omega
  | some i =>
   right
   have hir := List.mem_of_getElem? hi
   have hil := ready_left hir
   have hin := (mem_left.1 hil).1
   refine ⟨i, Region.linearise.go .any ops fuel (t / (Region.ready .any ops listed).length) (listed.setIfInBounds i true) [], ?_, hir, ih _ _ (by simp [hsz]) ?_⟩
   ·simp only []
    rw [linearise_go_acc, List.reverse_singleton, List.singleton_append]
   ·rw [left_set hsz hin]
    have h1 : ((left ops.size listed).filter fun x => !Nat.beq x i).length < (left ops.size listed).length := by
     refine List.length_filter_lt_length_iff_exists.2 ⟨i, hil, ?_⟩
     simp
    omega
theorem closed_set {ops : Array Oper} {A : Nat → Nat} {listed : Array Bool} {i : Nat} (hg : Good ops A) (hc : Closed_ ops listed) (hi : i ∈ Region.ready .any ops listed) : Closed_ ops (listed.setIfInBounds i true) := by
 obtain ⟨h0, o, ho, hall⟩ := mem_ready.1 hi
 have hin : i < ops.size := (Array.getElem?_eq_some_iff.1 ho).1
 refine ⟨by simp [hc.size], ?_⟩
 intro j oj hoj hl e he hb
 by_cases hji : i = j
 ·subst hji
  rw [ho] at hoj
  simp only [Option.some.injEq] at hoj
  subst hoj
  by_cases hei : i = e.on
  ·have := (hg.ops_ i o ho).2.2 e he hb
   omega
  ·rw [getD_set_ne true hei]
   have h1 := hall e he hb
   have hes : e.on < listed.size := by
    rcases Nat.lt_or_ge e.on listed.size with h | h
    ·exact h
    ·simp [Array.getElem?_eq_none h] at h1
   rw [← getD_any false hes]; exact h1
 ·rw [getD_set_ne true hji] at hl
  have h1 := hc.deps j oj hoj hl e he hb
  by_cases hei : i = e.on
  ·rw [← hei] at h1 ⊢
   simp [hc.size, hin]
  ·rw [getD_set_ne true hei]; exact h1
theorem not_anc {ops : Array Oper} {A : Nat → Nat} {listed : Array Bool} {i x : Nat} (hg : Good ops A) (hc : Closed_ ops listed) (hi : i ∈ Region.ready .any ops listed) (hx : x ∈ left ops.size listed) : (A i).testBit x = false := by
 obtain ⟨h0, o, ho, hall⟩ := mem_ready.1 hi
 obtain ⟨hxn, hxl⟩ := mem_left.1 hx
 cases hb : (A i).testBit x with
 | false => rfl
 | true =>
  have := anc_listed hg hc i o ho (fun e he hb => by
   have h1 := hall e he hb
   have hes : e.on < listed.size := by
    rcases Nat.lt_or_ge e.on listed.size with h | h
    ·exact h
    ·simp [Array.getElem?_eq_none h] at h1
   rw [← getD_any false hes]; exact h1) x hxn hb
  rw [hxl] at this
  cases this
theorem left_nil {ops : Array Oper} {A : Nat → Nat} {listed : Array Bool} (hg : Good ops A) (hc : Closed_ ops listed) (hr : Region.ready .any ops listed = []) : left ops.size listed = [] := by
 cases hl : left ops.size listed with
 | nil => rfl
 | cons i0 rest =>
  exfalso
  have hi0 := mem_left.1 (by rw [hl]; exact List.mem_cons_self .. : i0 ∈ left ops.size listed)
  obtain ⟨o, ho⟩ : ∃ o, ops[i0]? = some o := ⟨ops[i0], by simp [hi0.1]⟩
  have hsorted : (left ops.size listed).Pairwise (· < ·) := List.Pairwise.filter _ (List.pairwise_lt_range)
  have : i0 ∈ Region.ready .any ops listed := by
   refine mem_ready.2 ⟨hi0.2, o, ho, fun e he hb => ?_⟩
   have hlt := (hg.ops_ i0 o ho).2.2 e he hb
   have hes : e.on < listed.size := by rw [hc.size]; omega
   rw [getD_any false hes]
   cases hle : listed.getD e.on true with
   | true => rfl
   | false =>
    have hm := mem_left.2 ⟨(by omega : e.on < ops.size), hle⟩
    rw [hl] at hm hsorted
    rcases List.mem_cons.1 hm with h1 | h1
    ·omega
    ·have := (List.pairwise_cons.1 hsorted).1 _ h1
     omega
  rw [hr] at this
  cases this
theorem sched_linx {ops : Array Oper} {A : Nat → Nat} (act : Nat → Bool) (hg : Good ops A) : ∀ (f : Nat) (listed : Array Bool) (s : List Nat), Closed_ ops listed → Sched ops f listed s →
  ∀ m, m = ((left ops.size listed).filter act).length → s.filter act ∈ linx A m ((left ops.size listed).filter act) := by
 intro f
 induction f with
 | zero =>
  rintro listed s hc ⟨rfl, hr⟩ m hm
  rw [left_nil hg hc hr] at hm ⊢
  simp at hm
  subst hm
  simp [linx]
 | succ f ih =>
  rintro listed s hc (⟨rfl, hr⟩ | ⟨i, s', rfl, hi, hs⟩) m hm
  ·rw [left_nil hg hc hr] at hm ⊢
   simp at hm
   subst hm
   simp [linx]
  ·have hil := ready_left hi
   have hin := (mem_left.1 hil).1
   have hc' := closed_set hg hc hi
   have h1 := ih _ s' hc' hs
   rw [left_set hc.size hin] at h1
   have hcomm : ((left ops.size listed).filter fun x => !Nat.beq x i).filter act = ((left ops.size listed).filter act).filter fun x => !Nat.beq x i := by
    rw [List.filter_filter, List.filter_filter]
    apply List.filter_congr
    intro x _
    exact Bool.and_comm _ _
   rw [hcomm] at h1
   by_cases ha : act i = true
   ·rw [List.filter_cons, if_pos ha]
    have hmem : i ∈ (left ops.size listed).filter act := List.mem_filter.2 ⟨hil, ha⟩
    cases m with
    | zero => rw [List.length_eq_zero_iff.1 hm.symm] at hmem; cases hmem
    | succ m =>
     simp only [linx]
     refine List.mem_flatMap.2 ⟨i, hmem, ?_⟩
     have hno : ((left ops.size listed).filter act).any (fun b => (A i).testBit b) = false := by
      refine List.any_eq_false.2 (fun x hx => ?_)
      rw [not_anc hg hc hi (List.mem_filter.1 hx).1]
      simp
     rw [hno]
     simp only [cond_false]
     refine List.mem_map.2 ⟨_, h1 m ?_, rfl⟩
     have hnd : ((left ops.size listed).filter act).Nodup := by
      exact List.Pairwise.filter _ (List.Pairwise.filter _ List.nodup_range)
     have e1 : ((left ops.size listed).filter act).filter (fun x => !Nat.beq x i) = ((left ops.size listed).filter act).erase i := by
      rw [hnd.erase_eq_filter]
      apply List.filter_congr
      intro x _
      by_cases hx : x = i
      ·subst hx; simp
      ·rw [beq_ne hx]; simp [hx]
     rw [e1, List.length_erase_of_mem hmem]
     omega
   ·rw [List.filter_cons, if_neg ha]
    have e1 : ((left ops.size listed).filter act).filter (fun x => !Nat.beq x i) = (left ops.size listed).filter act := by
     refine List.filter_eq_self.2 (fun x hx => ?_)
     have hxi : x ≠ i := fun e => ha (by rw [← e]; exact (List.mem_filter.1 hx).2)
     rw [beq_ne hxi]; rfl
    rw [e1] at h1
    exact h1 m hm
section
variable {P : Program} {r : Option Nat} {ops : Array Oper} {Q : Post} {act : Nat → Bool} {G : World → Prop}
theorem pairs_spec {A : Nat → Nat} : ∀ (L : List Nat), pairsOk ops A L = true → L.Pairwise (fun x i => (A x).testBit i = false ∧ ((A i).testBit x = true ∨ ∃ ox oi, ops[x]? = some ox ∧ ops[i]? = some oi ∧ ox.apart ops oi = true))
 | [], _ => List.Pairwise.nil
 | x :: l, h => by
  simp only [pairsOk, Bool.and_eq_true] at h
  refine List.Pairwise.cons (fun i hi => ?_) (pairs_spec l h.2)
  have h1 := List.all_eq_true.1 h.1 i hi
  unfold twoOk at h1
  simp only [Bool.or_eq_true, Bool.and_eq_true, Bool.not_eq_true'] at h1
  refine ⟨h1.1, ?_⟩
  rcases h1.2 with h1 | h1
  ·exact .inl h1
  ·right
   split at h1
   ·rename_i ox oi hox hoi
    exact ⟨ox, oi, hox, hoi, h1⟩
   ·cases h1
theorem need_of {i x : Nat} {ox : Oper} (hx : x < ops.size) (ho : ops[x]? = some ox) (ha : act x = false) (hp : noLoad ox = false) (hb : ((Region.before ops).getD i 0).testBit x = false) : need ops act i = true :=
 List.any_eq_true.2 ⟨x, List.mem_range.2 hx, by simp only [ho]; rw [ha, hb, hp]; rfl⟩
theorem draw_list {A : Nat → Nat} (hAe : ∀ j, A j = (Region.before ops).getD j 0) (hQ : Sure Q) (hg : Good ops A) : ∀ (f : Nat) (listed : Array Bool) (s L : List Nat) (a : Act) (w : World), Closed_ ops listed → Sched ops f listed s → L.Nodup → (∀ x, x ∈ L ↔ x ∈ left ops.size listed) →
  L.Pairwise (fun x i => (A x).testBit i = false ∧ ((A i).testBit x = true ∨ ∃ ox oi, ops[x]? = some ox ∧ ops[i]? = some oi ∧ ox.apart ops oi = true)) → s.filter act = L.filter act → ((∃ x ox, x ∈ L ∧ ops[x]? = some ox ∧ act x = false ∧ noLoad ox = false) → G w) → wpG P r ops Q act G L a w → wpOpsIn (FR r) 0 P ops Q s a w := by
 have stop : ∀ (listed : Array Bool) (L : List Nat) (a : Act) (w : World), Closed_ ops listed → (∀ x, x ∈ L ↔ x ∈ left ops.size listed) → Region.ready .any ops listed = [] → wpG P r ops Q act G L a w → wpOpsIn (FR r) 0 P ops Q [] a w := by
  intro listed L a w hc hm hr h
  have hL : L = [] := by
   cases L with
   | nil => rfl
   | cons x l =>
    have := (hm x).1 (List.mem_cons_self ..)
    rw [left_nil hg hc hr] at this
    cases this
  subst hL
  exact h
 intro f
 induction f with
 | zero =>
  rintro listed s L a w hc ⟨rfl, hr⟩ hnd hm hp hact hG h
  exact stop listed L a w hc hm hr h
 | succ f ih =>
  rintro listed s L a w hc (⟨rfl, hr⟩ | ⟨i, s', rfl, hi, hs⟩) hnd hm hp hact hG h
  ·exact stop listed L a w hc hm hr h
  ·have hil := ready_left hi
   have hin := (mem_left.1 hil).1
   obtain ⟨o, ho⟩ : ∃ o, ops[i]? = some o := ⟨ops[i], by simp [hin]⟩
   obtain ⟨hsel, hdef, _⟩ := hg.ops_ i o ho
   have hc' := closed_set hg hc hi
   obtain ⟨l1, l2, rfl⟩ := List.append_of_mem ((hm i).2 hil)
   have hnd' := List.nodup_append.1 hnd
   have hni1 : ∀ x, x ∈ l1 → x ≠ i := fun x hx => hnd'.2.2 x hx i (List.mem_cons_self ..)
   have hni2 : ∀ x, x ∈ l2 → x ≠ i := fun x hx e => (List.nodup_cons.1 hnd'.2.1).1 (e ▸ hx)
   have hp' := List.pairwise_append.1 hp
   have hpull := wpG_pull hQ ho hsel l1 l2 (by
    intro x hx
    have hxl : x ∈ left ops.size listed := (hm x).1 (List.mem_append_left _ hx)
    have hxa := not_anc hg hc hi hxl
    obtain ⟨hxi, hor⟩ := hp'.2.2 x hx i (List.mem_cons_self ..)
    rcases hor with hb | ⟨ox, oi, hox, hoi, hap⟩
    ·rw [hxa] at hb; cases hb
    ·rw [ho] at hoi
     simp only [Option.some.injEq] at hoi
     subst hoi
     refine ⟨ox, hox, (hg.ops_ x ox hox).1, hap, ?_, fun _ hai => by
      cases hp : noLoad o with
      | true => exact .inr rfl
      | false => exact .inl (need_of hin ho hai hp (by rw [← hAe]; exact hxi))⟩
     cases hai : act i with
     | false => simp
     | true =>
      rw [List.filter_cons, if_pos hai, List.filter_append] at hact
      cases hax : act x with
      | false => rfl
      | true =>
       have hx1 : x ∈ l1.filter act := List.mem_filter.2 ⟨hx, hax⟩
       cases hf : l1.filter act with
       | nil => rw [hf] at hx1; cases hx1
       | cons y ys =>
        rw [hf] at hact
        simp only [List.cons_append, List.cons.injEq] at hact
        have : y ∈ l1.filter act := by rw [hf]; exact List.mem_cons_self ..
        exact absurd hact.1.symm (hni1 y (List.mem_filter.1 this).1)) a w h
   have hm' : ∀ x, x ∈ l1 ++ l2 ↔ x ∈ left ops.size (listed.setIfInBounds i true) := by
    intro x
    rw [left_set hc.size hin, List.mem_filter, ← hm x]
    constructor
    ·intro hx
     rcases List.mem_append.1 hx with hx | hx
     ·exact ⟨List.mem_append_left _ hx, by rw [beq_ne (hni1 x hx)]; rfl⟩
     ·exact ⟨List.mem_append_right _ (List.mem_cons_of_mem _ hx), by rw [beq_ne (hni2 x hx)]; rfl⟩
    ·rintro ⟨hx, hxi⟩
     rcases List.mem_append.1 hx with hx | hx
     ·exact List.mem_append_left _ hx
     ·rcases List.mem_cons.1 hx with rfl | hx
      ·simp at hxi
      ·exact List.mem_append_right _ hx
   have hnd2 : (l1 ++ l2).Nodup := by
    refine List.nodup_append.2 ⟨hnd'.1, (List.nodup_cons.1 hnd'.2.1).2, fun x hx y hy => hnd'.2.2 x hx y (List.mem_cons_of_mem _ hy)⟩
   have hp2 := List.pairwise_append.2 ⟨hp'.1, (List.pairwise_cons.1 hp'.2.1).2, fun x hx y hy => hp'.2.2 x hx y (List.mem_cons_of_mem _ hy)⟩
   have hact2 : s'.filter act = (l1 ++ l2).filter act := by
    rw [List.filter_cons, List.filter_append, List.filter_cons] at hact
    rw [List.filter_append]
    cases hai : act i with
    | false => simp only [hai] at hact; exact hact
    | true =>
     simp only [hai, if_true] at hact
     cases hf : l1.filter act with
     | nil =>
      rw [hf] at hact
      simp only [List.nil_append, List.cons.injEq, true_and] at hact ⊢
      exact hact
     | cons y ys =>
      rw [hf] at hact
      simp only [List.cons_append, List.cons.injEq] at hact
      have : y ∈ l1.filter act := by rw [hf]; exact List.mem_cons_self ..
      exact absurd hact.1.symm (hni1 y (List.mem_filter.1 this).1)
   simp only [wpG, ho] at hpull
   simp only [wpOpsIn, ho]
   by_cases hw : Region.wanted o (yielded ops a.tmps) = true
   ·rw [if_pos hw, wpIn_iff _ hdef]
    by_cases ha : act i = true
    ·rw [if_pos (by simp [ha, hw])] at hpull
     refine Does_mono ?_ hpull
     rintro a' w' _ ⟨hG', hk'⟩
     refine ih _ s' (l1 ++ l2) a' w' hc' hs hnd2 hm' hp2 hact2 (fun ⟨x, ox, hx, hox, hxa, hxp⟩ => hG' ?_) hk'
     have hxl := (hm' x).1 hx
     rw [left_set hc.size hin] at hxl
     have hxl := (List.mem_filter.1 hxl).1
     exact need_of (mem_left.1 hxl).1 hox hxa hxp (by rw [← hAe]; exact not_anc hg hc hi hxl)
    ·rw [if_neg (by simp [ha])] at hpull
     obtain ⟨v, hy, hk'⟩ := hpull
     rcases hy with ⟨_, hv⟩ | ⟨hn, _⟩
     ·have hGw : G w ∨ noLoad o = true := by
       cases hp : noLoad o with
       | true => exact .inr rfl
       | false => exact .inl (hG ⟨i, o, List.mem_append_right _ (List.mem_cons_self ..), ho, by simpa using ha, hp⟩)
      exact does_value (hv w hGw) (ih _ s' (l1 ++ l2) _ w hc' hs hnd2 hm' hp2 hact2 (fun ⟨x, ox, hx, hox, hxa, hxp⟩ => hG ⟨x, ox, by
       rcases List.mem_append.1 hx with hx | hx
       ·exact List.mem_append_left _ hx
       ·exact List.mem_append_right _ (List.mem_cons_of_mem _ hx), hox, hxa, hxp⟩) hk')
     ·rw [hw] at hn; cases hn
   ·rw [if_neg hw]
    refine ⟨fun _ _ => trivial, ?_⟩
    rw [if_neg (by simp [hw])] at hpull
    obtain ⟨v, hy, hk'⟩ := hpull
    rcases hy with ⟨hn, _⟩ | ⟨_, rfl⟩
    ·exact absurd hn hw
    ·exact ih _ s' (l1 ++ l2) _ w hc' hs hnd2 hm' hp2 hact2 (fun ⟨x, ox, hx, hox, hxa, hxp⟩ => hG ⟨x, ox, by
      rcases List.mem_append.1 hx with hx | hx
      ·exact List.mem_append_left _ hx
      ·exact List.mem_append_right _ (List.mem_cons_of_mem _ hx), hox, hxa, hxp⟩) hk'
theorem W_draw {id : Nat} {a : Act} {w : World} (act : Nat → Bool) (G : World → Prop) (Ls : List (List Nat)) (hm : P.follows .mixedOrders = true) (hQ : Sure Q) (hk : drawOk ops act Ls = true) (hG : G { w with drawn := w.drawn + 1 })
  (h : ∀ L, L ∈ Ls → wpG P r ops Q act G L a { w with drawn := w.drawn + 1 }) : W P r (.region id ops true) Q a w := by
 unfold drawOk at hk
 simp only [Bool.and_eq_true] at hk
 obtain ⟨⟨⟨hA, hO⟩, hL⟩, hcov⟩ := hk
 generalize hAe : (fun j => (Region.before ops).getD j 0) = A at hA hL hcov
 have hg := good_of hA hO
 refine wpIn_region_draw fun t => ?_
 simp only [Region.schedule, hm, Bool.true_or, if_true]
 have hrep : ∀ i, i < ops.size → (Array.replicate ops.size false).getD i true = false := by
  intro i hi
  simp [hi]
 have hl : left ops.size (Array.replicate ops.size false) = List.range ops.size := by
  unfold left
  refine List.filter_eq_self.2 (fun x hx => ?_)
  rw [hrep x (List.mem_range.1 hx)]
  rfl
 have hc : Closed_ ops (Array.replicate ops.size false) := by
  refine ⟨by simp, ?_⟩
  intro j o ho hl'
  rw [hrep j (Array.getElem?_eq_some_iff.1 ho).1] at hl'
  cases hl'
 have hs := linearise_sched (ops := ops) ops.size t (Array.replicate ops.size false) (by simp) (by rw [hl]; simp)
 have hlin := sched_linx act hg ops.size _ _ hc hs _ rfl
 rw [hl] at hlin
 obtain ⟨L, hLs, hsame⟩ := List.any_eq_true.1 (List.all_eq_true.1 hcov _ hlin)
 have hL1 := List.all_eq_true.1 hL L hLs
 simp only [Bool.and_eq_true] at hL1
 obtain ⟨hfull, hpair⟩ := hL1
 unfold fullList at hfull
 simp only [Bool.and_eq_true] at hfull
 obtain ⟨⟨honce, hlt⟩, hall⟩ := hfull
 have hmem : ∀ x, x ∈ L ↔ x ∈ List.range ops.size := by
  intro x
  rw [List.mem_range]
  constructor
  ·intro hx
   have := List.all_eq_true.1 hlt x hx
   rwa [Nat.blt_eq] at this
  ·intro hx
   obtain ⟨y, hy, hxy⟩ := List.any_eq_true.1 (List.all_eq_true.1 hall x (List.mem_range.2 hx))
   rw [Nat.eq_of_beq_eq_true hxy]
   exact hy
 refine draw_list (act := act) (G := G) (A := A) (fun j => by rw [← hAe]) hQ hg ops.size _ _ L a _ hc hs (eachOnce_nodup L honce) (fun x => ?_) (pairs_spec L hpair) (sameList_eq _ _ hsame).symm (fun _ => hG) (h L hLs)
 rw [hl, hmem x]
end
end Go.Al
namespace Go.Al
open Go Go.RowKit
theorem sure_then {K : Act → World → Prop} {Q : Post} (h : Sure Q) : Sure (Exit.then K Q) := ⟨fun c a w => h.panic c a w, fun a w => h.outgrown a w⟩
theorem sure_block {id : Nat} {Q : Post} (h : Sure Q) : Sure (Exit.inBlock id Q) := ⟨fun c a w => h.panic c a w, fun a w => h.outgrown a w⟩
theorem sure_body {P : Program} {fn : Func} {R : Ending → World → Prop} (h : ∀ e w, R e w → ∃ v, e = .returned v) : Sure (bodyPost P fn R) :=
 ⟨fun c a w hh => (by obtain ⟨v, hv⟩ := h _ _ hh.2; cases hv), fun a w hh => (by obtain ⟨v, hv⟩ := h _ _ hh; cases hv)⟩
def GI (P : Program) (r : Option Nat) (n : Nat) (ds : List Deferred) (ops : Array Oper) (Q : Post) (act : Nat → Bool) (S : Nat → Prop) (w1 : World) (l : List Nat) (e : Env) (w : World) : Prop :=
 ∀ a, Has n ds e a → wpG P r ops Q act (Keep S w1) l a w
section
variable {P : Program} {r : Option Nat} {n : Nat} {ds : List Deferred} {ops : Array Oper} {Q : Post} {act : Nat → Bool} {S : Nat → Prop} {w1 : World} {i : Nat} {l : List Nat} {e : Env} {w w' : World} {op : Op}
theorem V_draws {id : Nat} (act : Nat → Bool) (S : Nat → Prop) (Ls : List (List Nat)) (hm : P.follows .mixedOrders = true) (hQ : Sure Q) (hk : drawOk ops act Ls = true)
  (k : ∀ w1, Keep none_ w w1 → w1.heap = w.heap → ∀ L, L ∈ Ls → GI P r n ds ops Q act S w1 L e w1) : V P r n ds (.region id ops true) Q e w := fun a ha =>
 W_draw act (Keep S { w with drawn := w.drawn + 1 }) Ls hm hQ hk (Keep.refl _ _) (fun L hL => k { w with drawn := w.drawn + 1 } ((Keep.refl _ w).drew _) rfl L hL a ha)
theorem Blk.same {w w1 : World} {b : Nat} {l : List Value} {t : TypeId} (h : Blk w b l t) (he : w1.heap = w.heap) : Blk w1 b l t := by unfold Blk at *; rw [he]; exact h
theorem GI_end (k : XV n ds .normal Q e w) : GI P r n ds ops Q act S w1 [] e w := fun a ha => k a ha
theorem GI_eq (e' : Env) (h : e = e') (k : GI P r n ds ops Q act S w1 l e' w) : GI P r n ds ops Q act S w1 l e w := by subst h; exact k
theorem GI_pick (e' : Env) (h : pick (e'.map (·.1)) e = some e') (k : GI P r n ds ops Q act S w1 l e' w) : GI P r n ds ops Q act S w1 l e w :=
 fun a ha => k a (ha.weaken (pick_look _ _ _ h))
theorem GI_quiet {v : Value} (d : Option Tmp) (op : Op) (h : site ops e i = some (d, op)) (hact : act i = false) (hx : ∀ o : Oper, ops[i]? = some o → o.op = op → ∀ w', (Keep S w1 w' ∨ noLoad o = true) → (execOp (ev e) o).run P w' = .ok (.value v) w')
  (k : GI P r n ds ops Q act S w1 l (putE n d v e) w) : GI P r n ds ops Q act S w1 (i :: l) e w := fun a ha => by
 obtain ⟨o, ho, hd, hop, hg, hr, _, hs⟩ := site_spec h
 subst hop
 simp only [wpG, ho, hact, Bool.false_and, Bool.false_eq_true, if_false]
 refine ⟨v, .inl ⟨guardE_spec ha hg, fun w' hw' => ?_⟩, ?_⟩
 ·rw [execOp_has ha hr hs]; exact hx o ho rfl w' hw'
 ·rw [hd]; exact k _ (ha.put d v)
theorem GI_not {o : Oper} (ho : ops[i]? = some o) (hg : guardE ops e o = some false) (k : GI P r n ds ops Q act S w1 l (putE n o.dst undef e) w) : GI P r n ds ops Q act S w1 (i :: l) e w := fun a ha => by
 have hw := guardE_spec ha hg
 simp only [wpG, ho, hw, Bool.and_false, Bool.false_eq_true, if_false]
 exact ⟨undef, .inr ⟨hw, rfl⟩, k _ (ha.put _ _)⟩
theorem GI_do (d : Option Tmp) (op : Op) (h : site ops e i = some (d, op)) (hact : act i = true) (k : ∀ o : Oper, o.op = op → o.dst = d → ∀ a, Has n ds e a → execOp a.eval o = execOp (ev e) o → Does P r o a w (fun a' w' => Keep S w1 w' ∧ wpG P r ops Q act (Keep S w1) l a' w') Q) : GI P r n ds ops Q act S w1 (i :: l) e w := fun a ha => by
 obtain ⟨o, ho, hd, hop, hg, hr, hdf, hs⟩ := site_spec h
 subst hop
 simp only [wpG, ho, hact, Bool.true_and, guardE_spec ha hg, if_true]
 exact Does_mono (fun a' w' _ hk => ⟨fun _ => hk.1, hk.2⟩) (k o rfl hd a ha (execOp_has ha hr hs))
theorem OA_wpG {G : World → Prop} : ∀ (l : List Nat) (a : Act) (w : World), l.all (fun j => act j && !need ops act j && (match ops[j]? with | some o => !isDefer o.op | none => false)) = true → OA P r ops Q l a w → wpG P r ops Q act G l a w
 | [], a, w, _, h => h
 | i :: l, a, w, hl, h => by
  simp only [List.all_cons, Bool.and_eq_true, Bool.not_eq_true'] at hl
  obtain ⟨⟨⟨h1, h2⟩, h3⟩, hl⟩ := hl
  simp only [OA, wpOpsIn] at h
  simp only [wpG]
  cases ho : ops[i]? with
  | none => rw [ho] at h3; cases h3
  | some o =>
   simp only [ho] at h h3 ⊢
   have hd : isDefer o.op = false := by simpa using h3
   by_cases hw : Region.wanted o (yielded ops a.tmps) = true
   ·rw [if_pos hw] at h
    rw [if_pos (by simp [h1, hw])]
    exact Does_mono (fun a' w' _ hk => ⟨fun hn => absurd (h2.symm.trans hn) (by decide), OA_wpG l a' w' hl hk⟩) ((wpIn_iff _ hd).1 h)
   ·rw [if_neg hw] at h
    rw [if_neg (by simp [hw])]
    exact ⟨undef, .inr ⟨by simpa using hw, rfl⟩, OA_wpG l _ w hl h.2⟩
theorem GI_final (j : Nat) (hl : l = List.range' j (ops.size - j)) (hact : l.all (fun j => act j && !need ops act j && (match ops[j]? with | some o => !isDefer o.op | none => false)) = true) (k : OI P r n ds ops Q j e w) : GI P r n ds ops Q act S w1 l e w := fun a ha => by
 subst hl
 exact OA_wpG _ a w hact (k a ha)
theorem GI_do0 (d : Option Tmp) (op : Op) (h : site ops e i = some (d, op)) (hact : act i = true) (hn : need ops act i = false) (k : ∀ o : Oper, o.op = op → o.dst = d → ∀ a, Has n ds e a → execOp a.eval o = execOp (ev e) o → Does P r o a w (fun a' w' => wpG P r ops Q act (Keep S w1) l a' w') Q) : GI P r n ds ops Q act S w1 (i :: l) e w := fun a ha => by
 obtain ⟨o, ho, hd, hop, hg, hr, hdf, hs⟩ := site_spec h
 subst hop
 simp only [wpG, ho, hact, Bool.true_and, guardE_spec ha hg, if_true]
 exact Does_mono (fun a' w' _ hk => ⟨fun hh => absurd (hn.symm.trans hh) Bool.false_ne_true, hk⟩) (k o rfl hd a ha (execOp_has ha hr hs))
def runG (P : Program) (ops : Array Oper) (n : Nat) (act : Nat → Bool) : List Nat → Env → Option Env
 | [], e => some e
 | i :: l, e =>
  match ops[i]? with
  | none => none
  | some o =>
   match guardE ops e o with
   | none => none
   | some false => runG P ops n act l (putE n o.dst undef e)
   | some true =>
    match site ops e i, act i with
    | some _, false =>
     match static P (execOp (ev e) o) with
     | some (.value v) => runG P ops n act l (putE n o.dst v e)
     | _ => none
    | _, _ => none
theorem runG_sound : ∀ (m l : List Nat) (e e' : Env), runG P ops n act m e = some e' → GI P r n ds ops Q act S w1 l e' w → GI P r n ds ops Q act S w1 (m ++ l) e w
 | [], l, e, e', h, k => by simp only [runG, Option.some.injEq] at h; subst h; exact k
 | i :: m, l, e, e', h, k => by
  simp only [runG] at h
  rw [List.cons_append]
  split at h
  ·cases h
  ·rename_i o ho
   split at h
   ·cases h
   ·rename_i hg; exact GI_not ho hg (runG_sound m l _ _ h k)
   ·rename_i hg
    split at h
    ·rename_i so hso hact
     split at h
     ·rename_i v hv
      obtain ⟨d, op⟩ := so
      obtain ⟨o', ho', hd, hop, _⟩ := site_spec hso
      rw [ho] at ho'
      simp only [Option.some.injEq] at ho'
      subst ho'
      subst hd
      refine GI_quiet (v := v) _ _ hso hact (fun o2 hi2 _ w' _ => ?_) (runG_sound m l _ _ h k)
      rw [ho] at hi2
      simp only [Option.some.injEq] at hi2
      subst hi2
      exact static_run _ hv w'
     ·cases h
    ·cases h
def statG (P : Program) (ops : Array Oper) (n : Nat) (act : Nat → Bool) (l l' : List Nat) (e : Env) (ks : List Nat) : Option Env :=
 bif sameList l (l.take (l.length - l'.length) ++ l') then (runG P ops n act (l.take (l.length - l'.length)) e).bind (pick ks) else none
theorem GI_static (l' : List Nat) (e' : Env) (h : statG P ops n act l l' e (e'.map (·.1)) = some e') (k : GI P r n ds ops Q act S w1 l' e' w) : GI P r n ds ops Q act S w1 l e w := by
 unfold statG at h
 cases hij : sameList l (l.take (l.length - l'.length) ++ l') with
 | false => rw [hij] at h; cases h
 | true =>
  rw [hij] at h
  simp only [cond_true] at h
  cases hr : runG P ops n act (l.take (l.length - l'.length)) e with
  | none => rw [hr] at h; cases h
  | some e2 =>
   rw [hr] at h
   simp only [Option.bind_some] at h
   rw [sameList_eq _ _ hij]
   exact runG_sound _ l' e e2 hr (GI_pick e' h k)
theorem GI_cell {T : TypeId} {b m : Nat} {L : List Value} (t : TypeId) (x : Operand) (o : Nat) (v : Value) (d : Option Tmp) (h : site ops e i = some (d, .load t x)) (hact : act i = false) (hx : ev e x = .pointer (some ⟨b, o, none⟩)) (hb : Blk w1 b L T) (hS : ¬ S b) (ht : tk P t = some (false, m)) (hv : L[o]? = some v)
  (k : GI P r n ds ops Q act S w1 l (putE n d v e) w) : GI P r n ds ops Q act S w1 (i :: l) e w :=
 GI_quiet d _ h hact (fun o' _ ho w' hw' => by
  replace hw' : Keep S w1 w' := hw'.resolve_right (by unfold noLoad; rw [ho]; exact Bool.false_ne_true)
  have hl := loads_cell (P := P) (hb.keep hw' hS) ht hv
  unfold Loads at hl
  unfold execOp
  simp only [ho, hx, Sem.run_bind, hl, Result.andThen, Sem.run_pure]) k
theorem GI_agg {T : TypeId} {b m : Nat} {L : List Value} (t : TypeId) (x : Operand) (o : Nat) (cs : List Value) (d : Option Tmp) (h : site ops e i = some (d, .load t x)) (hact : act i = false) (hx : ev e x = .pointer (some ⟨b, o, none⟩)) (hb : Blk w1 b L T) (hS : ¬ S b) (ht : tk P t = some (true, m)) (hv : (L.drop o).take m = cs) (hm : cs.length = m)
  (k : GI P r n ds ops Q act S w1 l (putE n d (.agg cs.toArray) e) w) : GI P r n ds ops Q act S w1 (i :: l) e w :=
 GI_quiet d _ h hact (fun o' _ ho w' hw' => by
  replace hw' : Keep S w1 w' := hw'.resolve_right (by unfold noLoad; rw [ho]; exact Bool.false_ne_true)
  have hl := loads_agg' (P := P) (hb.keep hw' hS) ht hv hm
  unfold Loads at hl
  unfold execOp
  simp only [ho, hx, Sem.run_bind, hl, Result.andThen, Sem.run_pure]) k
theorem GI_call {R : Ending → World → Prop} (c : Call) (f : FuncId) (args : Array Value) (d : Option Tmp) (h : site ops e i = some (d, .call c)) (hact : act i = true) (hc : callee e c = some (f, args)) (hf : bodied P f = true) (hR : Calls P f args w R)
  (k : ∀ e' w', R e' w' → ∃ v, e' = .returned v ∧ Keep S w1 w' ∧ GI P r n ds ops Q act S w1 l (putE n d v e) w') : GI P r n ds ops Q act S w1 (i :: l) e w :=
 GI_do d _ h hact fun o ho hd a ha he => does_call (by rw [he]; exact call_run hc hf o ho w) (hR.mono fun e' w' hr => by
  obtain ⟨v, hv, hK, hk⟩ := k e' w' hr
  exact ⟨v, hv, hK, by rw [hd]; exact hk _ (ha.put d v)⟩)
theorem GI_call0 {R : Ending → World → Prop} (c : Call) (f : FuncId) (args : Array Value) (d : Option Tmp) (h : site ops e i = some (d, .call c)) (hact : act i = true) (hn : need ops act i = false) (hc : callee e c = some (f, args)) (hf : bodied P f = true) (hR : Calls P f args w R)
  (k : ∀ e' w', R e' w' → ∃ v, e' = .returned v ∧ GI P r n ds ops Q act S w1 l (putE n d v e) w') : GI P r n ds ops Q act S w1 (i :: l) e w :=
 GI_do0 d _ h hact hn fun o ho hd a ha he => does_call (by rw [he]; exact call_run hc hf o ho w) (hR.mono fun e' w' hr => by
  obtain ⟨v, hv, hk⟩ := k e' w' hr
  exact ⟨v, hv, by rw [hd]; exact hk _ (ha.put d v)⟩)
theorem GI_value {v : Value} (d : Option Tmp) (op : Op) (h : site ops e i = some (d, op)) (hact : act i = true) (hx : ∀ o : Oper, o.op = op → (execOp (ev e) o).run P w = .ok (.value v) w') (hK : Keep S w1 w') (k : GI P r n ds ops Q act S w1 l (putE n d v e) w') : GI P r n ds ops Q act S w1 (i :: l) e w :=
 GI_do d op h hact fun o ho hd a ha he => does_value (by rw [he]; exact hx o ho) ⟨hK, by rw [hd]; exact k _ (ha.put d v)⟩
theorem GI_skipped (d : Option Tmp) (op : Op) (h : site ops e i = some (d, op)) (hact : act i = true) (hx : ∀ o : Oper, o.op = op → (execOp (ev e) o).run P w = .ok .skip w') (hK : Keep S w1 w') (k : GI P r n ds ops Q act S w1 l (putE n d undef e) w') : GI P r n ds ops Q act S w1 (i :: l) e w :=
 GI_do d op h hact fun o ho hd a ha he => does_skip (by rw [he]; exact hx o ho) ⟨hK, by rw [hd]; exact k _ (ha.put d undef)⟩
theorem GI_laid {L : List Value} {t : TypeId} {v : Value} (d : Option Tmp) (op : Op) (h : site ops e i = some (d, op)) (hact : act i = true) (hK : Keep S w1 w) (hx : ∀ o : Oper, o.op = op → (execOp (ev e) o).run P w = .ok (.value v) (laid w (.cells L.toArray t)))
  (k : ∀ w', Blk w' w.heap.size L t → Keep none_ w w' → w'.heap.size = w.heap.size + 1 → Keep S w1 w' → GI P r n ds ops Q act S w1 l (putE n d v e) w') : GI P r n ds ops Q act S w1 (i :: l) e w :=
 have hk : Keep none_ w (laid w (.cells L.toArray t)) := laid_keep _ _ (by intro c t f hc; cases hc; rfl)
 GI_value d op h hact hx (hK.tr hk.ofNone) (k _ (laid_blk _ _ _) hk (laid_size _ _) (hK.tr hk.ofNone))
theorem GI_box (t : TypeId) (x : Operand) (v : Value) (L : List Value) (d : Option Tmp) (h : site ops e i = some (d, .box t x)) (hact : act i = true) (hK : Keep S w1 w) (hx : ev e x = v) (hl : v.cells = L.toArray)
  (k : ∀ b w', b = w.heap.size → Blk w' b L t → Keep none_ w w' → w'.heap.size = b + 1 → Keep S w1 w' → GI P r n ds ops Q act S w1 l (putE n d (.pointer (some ⟨b, 0, none⟩)) e) w') : GI P r n ds ops Q act S w1 (i :: l) e w :=
 GI_laid d _ h hact hK (fun o ho => by
  unfold execOp
  simp only [ho, hx]
  unfold Instr.box newVar newRow newObj
  simp only [hl]
  rfl) (fun w' => k _ w' rfl)
theorem GI_set {T : TypeId} {b m : Nat} {kd : Bool} {L : List Value} (t : TypeId) (x y : Operand) (o : Nat) (v : Value) (cs : List Value) (d : Option Tmp) (h : site ops e i = some (d, .store t x y)) (hact : act i = true) (hx : ev e x = .pointer (some ⟨b, o, none⟩)) (hy : ev e y = v)
  (hb : Blk w b L T) (ht : tk P t = some (kd, m)) (hv : v.cells = cs.toArray) (hn : cs.length = m) (hl : o + m ≤ L.length) (h1 : ∀ u ∈ cs, u.oneCell' = true) (hK : Keep S w1 w) (hS : b < w1.heap.size → S b)
  (k : ∀ w', Blk w' b (over L o cs) T → Keep (only b) w w' → w'.heap.size = w.heap.size → Keep S w1 w' → GI P r n ds ops Q act S w1 l (putE n d undef e) w') : GI P r n ds ops Q act S w1 (i :: l) e w := by
 have hs := stores (P := P) hb ht hv hn hl h1
 have hk : Keep (only b) w (turned w b (.cells (over L o cs).toArray T)) := turned_keep (by intro c t f hc; cases hc; rfl)
 have hK' : Keep S w1 (turned w b (.cells (over L o cs).toArray T)) := hK.fresh hk (fun i hi hS' => by rw [show i = b from hS'] at hi ⊢; exact hS hi)
 exact GI_skipped d _ h hact (fun o' ho => by
  unfold Stores at hs
  unfold execOp
  simp only [ho, hx, hy, Sem.run_bind, hs, Result.andThen, Sem.run_pure]) hK' (k _ (turned_blk _ _ hb.lt) hk (turned_size _ _ _) hK')
def PureOp (P : Program) (e : Env) (op : Op) (v : Value) : Prop := ∀ o : Oper, o.op = op → ∀ w, (execOp (ev e) o).run P w = .ok (.value v) w
theorem OI_pure {v : Value} (d : Option Tmp) (op : Op) (h : site ops e i = some (d, op)) (hx : PureOp P e op v) (k : OI P r n ds ops Q (i + 1) (putE n d v e) w) : OI P r n ds ops Q i e w :=
 OI_value h (fun o ho => hx o ho w) k
theorem GI_pure {v : Value} (d : Option Tmp) (op : Op) (h : site ops e i = some (d, op)) (hact : act i = false) (hx : PureOp P e op v) (k : GI P r n ds ops Q act S w1 l (putE n d v e) w) : GI P r n ds ops Q act S w1 (i :: l) e w :=
 GI_quiet d op h hact (fun o _ ho w' _ => hx o ho w') k
def slk (P : Program) (t : TypeId) : Option (TypeId × Nat × Nat) :=
 match P.underlying t with
 | some (.slice E) => (P.info? E).map fun inf => (E, inf.size, inf.bytes)
 | _ => none
theorem slk_spec {t E : TypeId} {sz by_ : Nat} (h : slk P t = some (E, sz, by_)) : P.underlying t = some (.slice E) ∧ ∃ inf, P.info? E = some inf ∧ inf.size = sz ∧ inf.bytes = by_ := by
 unfold slk at h
 split at h
 ·rename_i E' hu
  cases hi : P.info? E' with
  | none => simp [hi] at h
  | some inf =>
   simp only [hi, Option.map_some, Option.some.injEq, Prod.mk.injEq] at h
   obtain ⟨rfl, h2, h3⟩ := h
   exact ⟨hu, inf, hi, h2, h3⟩
 ·cases h
theorem run_und {t : TypeId} {d : TypeDesc} (h : P.underlying t = some d) (w : World) : (underlying t).run P w = .ok d w := by
 unfold underlying
 simp [Sem.run_bind, program, Sem.run, h, Result.andThen]
theorem run_size {t : TypeId} {inf : TypeInfo} (h : P.info? t = some inf) (w : World) : (sizeOf t).run P w = .ok inf.size w := by
 unfold sizeOf typeInfo
 simp [Sem.run_bind, program, Sem.run, h, Result.andThen]
theorem pure_idx {t E : TypeId} {x y : Operand} {b o len cap sz by_ : Nat} {kd : IntKind} {j : Int} (hx : ev e x = .slice (some ⟨b, o, none⟩) len cap) (hy : ev e y = .int kd j) (hs : slk P t = some (E, sz, by_)) (h0 : 0 ≤ j) (h1 : j < len) :
  PureOp P e (.indexAddr t x y) (.pointer (some ⟨b, o + j.toNat * sz, none⟩)) := fun op ho w => by
 obtain ⟨hu, inf, hi, hsz, _⟩ := slk_spec hs
 unfold execOp
 simp only [ho, hx, hy]
 unfold Instr.indexAt
 simp only [Sem.run_bind, asIntOf, Sem.run_pure, Result.andThen, run_und hu, run_size hi, h0, h1, and_self, if_true, add_plain, hsz]
def SlR (w : World) (sz : Nat) (v : Value) (m : Nat) (cells : List Value) : Prop :=
 (v = .slice none 0 0 ∧ m = 0 ∧ cells = []) ∨
 ∃ b o cap L T, v = .slice (some ⟨b, o, none⟩) m cap ∧ Blk w b L T ∧ m ≤ cap ∧ o + cap * sz ≤ L.length ∧ (L.drop o).take (m * sz) = cells
def blkOf : Value → Nat → Prop
 | .slice (some a) _ _, k => k = a.block
 | _, _ => False
theorem SlR.keep {w w' : World} {S : Nat → Prop} {sz m : Nat} {v : Value} {cells : List Value} (h : SlR w sz v m cells) (hk : Keep S w w') (hS : ∀ k, blkOf v k → ¬ S k) : SlR w' sz v m cells := by
 rcases h with h | ⟨b, o, cap, L, T, rfl, hb, h1, h2, h3⟩
 ·exact .inl h
 ·exact .inr ⟨b, o, cap, L, T, rfl, hb.keep hk (hS b rfl), h1, h2, h3⟩
theorem SlR.length {w : World} {sz m : Nat} {v : Value} {cells : List Value} (h : SlR w sz v m cells) : cells.length = m * sz := by
 rcases h with ⟨_, rfl, rfl⟩ | ⟨b, o, cap, L, T, rfl, hb, h1, h2, h3⟩
 ·simp
 ·subst h3
  have : m * sz ≤ cap * sz := Nat.mul_le_mul_right _ h1
  simp; omega
theorem SlR.lt {w : World} {sz m : Nat} {v : Value} {cells : List Value} (h : SlR w sz v m cells) : ∀ k, blkOf v k → k < w.heap.size := by
 rcases h with ⟨rfl, _, _⟩ | ⟨b, o, cap, L, T, rfl, hb, h1, h2, h3⟩
 ·intro k hk; exact hk.elim
 ·intro k hk; rw [show k = b from hk]; exact hb.lt
theorem cells_slice {α : Type} {L : List α} {o a b n : Nat} (hab : a + b ≤ n) : ((L.drop o).take n |>.drop a).take b = (L.drop (o + a)).take b := by
 rw [List.drop_take, List.take_take, List.drop_drop, Nat.min_eq_left (by omega)]
theorem first_run {w : World} {sz m j : Nat} {v : Value} {cells : List Value} (h : SlR w sz v m cells) (hj : j ≤ m) : (Builtin.firstCells sz j v).run P w = .ok (cells.take (j * sz)).toArray w := by
 rcases h with ⟨rfl, rfl, rfl⟩ | ⟨b, o, cap, L, T, rfl, hb, h1, h2, h3⟩
 ·simp [Builtin.firstCells, Sem.run_pure]
 ·unfold Builtin.firstCells
  subst h3
  have hm : m * sz ≤ cap * sz := Nat.mul_le_mul_right _ h1
  have hjm : j * sz ≤ m * sz := Nat.mul_le_mul_right _ hj
  have hlen : ((L.drop o).take (j * sz)).length = j * sz := by simp; omega
  have hl : (loadCells ⟨b, o, none⟩ ((L.drop o).take (j * sz)).length).run P w = .ok ((L.drop o).take (j * sz)).toArray w :=
   run_loadCells_list (P := P) w ⟨b, o, none⟩ _ (fun q u hu => by
    rw [add_plain, blk_cell hb]
    rw [List.getElem?_take] at hu
    split at hu
    ·rw [List.getElem?_drop] at hu; exact hu
    ·cases hu)
  rw [hlen] at hl
  rw [List.take_take, Nat.min_eq_left hjm]
  exact hl
theorem nextcap_le {need cap : Nat} (h : cap < need) : Builtin.nextslicecap need cap ≤ 4 * need + 4096 := by
 unfold Builtin.nextslicecap
 split
 ·omega
 ·split
  ·omega
  ·have g : ∀ (c : Nat), c ≤ need → c + (c + 768) / 4 ≤ need + (need + 768) / 4 := fun c hc => by omega
   have step : ∀ (k c : Nat), Builtin.growBy need k c ≤ max c (need + (need + 768) / 4) := by
    intro k
    induction k with
    | zero => intro c; simp only [Builtin.growBy]; omega
    | succ k ih =>
     intro c
     simp only [Builtin.growBy]
     split
     ·omega
     ·rename_i hc
      have := ih (c + (c + 768) / 4)
      omega
   have := step 4 cap
   omega
theorem askRoom_run (b : Nat) (w : World) : (askRoom b).run P w = .ok () w := by
 unfold askRoom
 split <;> rfl
theorem typeInfo_run {t : TypeId} {inf : TypeInfo} (h : P.info? t = some inf) (w : World) : (typeInfo t).run P w = .ok inf w := by
 unfold typeInfo
 simp [Sem.run_bind, program, Sem.run, h, Result.andThen]
structure Appended (w : World) (sz : Nat) (s : Value) (m : Nat) (old new : List Value) (k : Nat) (v : Value) (w' : World) : Prop where
 holds : SlR w' sz v (m + k) (old ++ new)
 keep : Keep (blkOf s) w w'
 own : ∀ b, blkOf v b → blkOf s b ∨ (w.heap.size ≤ b)
 new_ : v = .slice none 0 0 → s = .slice none 0 0 ∧ k = 0
theorem append_run {t E E2 at2 : TypeId} {sz by_ m k : Nat} {zv s x : Value} {old new : List Value} {w : World} (hs : slk P t = some (E, sz, by_)) (hz : zeroV P E = some zv) (hzl : zv.cells.size = sz) (h : SlR w sz s m old) (hx : SlR w sz x k new)
  (h1 : ∀ u ∈ new, u.oneCell' = true) (hb : (m + k) * by_ ≤ 1099511627776) (hby : by_ ≤ 1048576) (hmk : m + k ≤ 1099511627776) (hby0 : by_ ≠ 0) (h2 : P.underlying at2 = some (.slice E2)) (ty : TypeId) :
  ∃ v w', (Builtin.append_ #[t, at2] ty #[s, x]).run P w = .ok v w' ∧ Appended w sz s m old new k v w' := by
 obtain ⟨hu, inf, hi, hsz, hbs⟩ := slk_spec hs
 have hnew : new.length = k * sz := hx.length
 have hold : old.length = m * sz := h.length
 have hlx : (Builtin.lenOf x).run P w = .ok k w := by
  rcases hx with ⟨rfl, rfl, rfl⟩ | ⟨b, o, cap, L, T, rfl, _, _, _, _⟩ <;> rfl
 have hfx : ∀ w', SlR w' sz x k new → (Builtin.firstCells sz k x).run P w' = .ok new.toArray w' := by
  intro w' hx'
  rw [first_run hx' (Nat.le_refl _), List.take_of_length_le (by omega)]
 obtain ⟨base, cap, hsv⟩ : ∃ base cap, s = .slice base m cap := by
  rcases h with ⟨rfl, rfl, rfl⟩ | ⟨b, o, cap, L, T, rfl, _, _, _, _⟩
  ·exact ⟨_, _, rfl⟩
  ·exact ⟨_, _, rfl⟩
 have hfs : ∀ w', SlR w' sz s m old → (Builtin.firstCells sz m s).run P w' = .ok old.toArray w' := by
  intro w' hs'
  rw [first_run hs' (Nat.le_refl _), List.take_of_length_le (by omega)]
 by_cases hroom : m + k ≤ cap
 ·-- there is room
  rcases h with ⟨rfl, rfl, rfl⟩ | ⟨b, o, cap', L, T, hv, hblk, hm, hL, hcells⟩
  ·obtain ⟨rfl, rfl⟩ : base = none ∧ cap = 0 := by cases hsv; exact ⟨rfl, rfl⟩
   have hk0 : k = 0 := by omega
   subst hk0
   have hn0 : new = [] := List.length_eq_zero_iff.1 (by omega)
   subst hn0
   refine ⟨.slice none 0 0, w, ?_, ⟨.inl ⟨rfl, rfl, rfl⟩, Keep.refl _ _, fun b hb => hb.elim, fun _ => ⟨rfl, rfl⟩⟩⟩
   unfold Builtin.append_
   simp [Sem.run_bind, run_und hu, run_und h2, run_size hi, Result.andThen, hlx, hsz, hfx w hx]
  ·rw [hsv] at hv
   obtain ⟨rfl, rfl⟩ : base = some ⟨b, o, none⟩ ∧ cap = cap' := by cases hv; exact ⟨rfl, rfl⟩
   subst hsv
   have hle : (m + k) * sz ≤ cap * sz := Nat.mul_le_mul_right _ hroom
   have hsplit : (m + k) * sz = m * sz + k * sz := Nat.add_mul ..
   have hst := run_storeCells (P := P) new (o + m * sz) 0 L w hblk (by omega) h1
   refine ⟨.slice (some ⟨b, o, none⟩) (m + k) cap, turned w b (.cells (over L (o + m * sz) new).toArray T), ?_, ⟨.inr ⟨b, o, cap, over L (o + m * sz) new, T, rfl, turned_blk _ _ hblk.lt, hroom, ?_, ?_⟩, ?_, fun b' hb' => .inl hb', fun he => by cases he⟩⟩
   ·unfold Builtin.append_
    simp [Sem.run_bind, run_und hu, run_und h2, run_size hi, Result.andThen, hlx, hsz, hfx w hx, hroom, add_plain, hst]
   ·rw [over_length (by omega)]; exact hL
   ·rw [hsplit, ← hcells]
    unfold over
    rw [List.append_assoc, List.drop_append_of_le_length (by simp; omega)]
    rw [List.take_append, List.take_append]
    have e1 : ((L.take (o + m * sz)).drop o) = (L.drop o).take (m * sz) := by rw [List.drop_take]; congr 1; omega
    rw [e1]
    have hl1 : ((L.drop o).take (m * sz)).length = m * sz := by simp; omega
    rw [hl1, List.take_of_length_le (by omega)]
    congr 1
    rw [show m * sz + k * sz - m * sz = k * sz by omega, List.take_of_length_le (by omega), hnew, Nat.sub_self, List.take_zero, List.append_nil]
   ·refine (turned_keep (by intro c t f hc; cases hc; rfl)).mono ?_
    intro i _ hi'
    exact hi'
 ·-- a new array
  have hcap : cap < m + k := by omega
  have hnc := nextcap_le hcap
  have hbig : ¬ (Builtin.nextslicecap (m + k) cap * inf.bytes > 2 ^ 48) := by
   rw [hbs]
   have : Builtin.nextslicecap (m + k) cap * by_ ≤ (4 * (m + k) + 4096) * by_ := Nat.mul_le_mul_right _ hnc
   have e : (4 * (m + k) + 4096) * by_ = 4 * ((m + k) * by_) + 4096 * by_ := by rw [Nat.add_mul, Nat.mul_assoc]
   omega
  have hq : (Question.appendCap (m + k) cap E).forced = false := rfl
  obtain ⟨nc, hnc⟩ : ∃ nc, nc = Question.cut (.appendCap (m + k) cap E) (w.tape w.drawn (.appendCap (m + k) cap E)) := ⟨_, rfl⟩
  have hnc1 : m + k ≤ nc := by rw [hnc]; simp only [Question.cut]; omega
  have hxd : SlR w.drew sz x k new := hx
  have hsd : SlR w.drew sz s m old := h
  obtain ⟨rest, hrest⟩ : ∃ rest : List Value, rest = (Builtin.zeroCells zv.cells (nc - (m + k))).toList := ⟨_, rfl⟩
  have hrl : rest.length = (nc - (m + k)) * sz := by rw [hrest]; simp [Builtin.zeroCells, hzl]
  refine ⟨.slice (some ⟨w.heap.size, 0, none⟩) (m + k) nc, laid w.drew (.cells (old ++ new ++ rest).toArray E), ?_, ⟨.inr ⟨w.heap.size, 0, nc, old ++ new ++ rest, E, rfl, laid_blk _ _ _, hnc1, ?_, ?_⟩, ?_, fun b' hb' => .inr (by rw [show b' = w.heap.size from hb']; exact Nat.le_refl _), fun he => by cases he⟩⟩
  ·subst hsv
   have hrc : (Builtin.zeroCells zv.cells (nc - (m + k))) = rest.toArray := by rw [hrest]
   unfold Builtin.append_
   simp only [Sem.run_bind, run_und hu, run_und h2, run_size hi, Result.andThen, hlx, hsz, List.getElem?_toArray, List.getElem?_cons_zero, List.getElem?_cons_succ, Sem.run_pure, if_false, Bool.false_eq_true]
   simp [Sem.run_bind, Result.andThen, hroom, typeInfo_run hi, hbig, zeroV_run hz]
   rw [if_neg (by rw [hbs]; exact fun h => hby0 h.2)]
   simp only [hq, Bool.false_eq_true, if_false, ← hnc, hfs _ hsd, hfx _ hxd, hrc]
   unfold newRow newObj
   simp [Result.andThen, laid]
   rfl
  ·have hsplit : nc * sz = (m + k) * sz + (nc - (m + k)) * sz := by rw [← Nat.add_mul]; congr 1; omega
   have hs2 : (m + k) * sz = m * sz + k * sz := Nat.add_mul ..
   simp [hrl, hold, hnew]; omega
  ·have hs2 : (m + k) * sz = m * sz + k * sz := Nat.add_mul ..
   rw [List.drop_zero, List.take_append_of_le_length (by simp [hold, hnew]; omega), List.take_of_length_le (by simp [hold, hnew]; omega)]
  ·exact (((Keep.refl none_ w).drew (w.drawn + 1)).tr (laid_keep _ _ (by intro c t f hc; cases hc; rfl))).ofNone
theorem builtin_run {b : Builtin} {xs : Array Operand} {ats : Array TypeId} {v : Value} {w w' : World} (f : Array TypeId → TypeId → Array Value → Sem Value) (hb : ∀ ats ty cs args, builtin b ats ty cs args = (do pure (.value (← f ats ty args)))) (o : Oper) (ho : o.op = .call { callee := .builtin b, args := xs, argTypes := ats })
  (h : (f ats o.type (xs.map (ev e))).run P w = .ok v w') : (execOp (ev e) o).run P w = .ok (.value v) w' := by
 unfold execOp
 simp only [ho, resolve, Sem.run_bind, Sem.run_pure, Result.andThen, invoke, hb, h]
theorem OI_append {t E E2 at2 : TypeId} {sz by_ m k : Nat} {zv : Value} {old new : List Value} (x y : Operand) (s xv : Value) (d : Option Tmp) (h : site ops e i = some (d, .call { callee := .builtin .append, args := #[x, y], argTypes := #[t, at2] })) (hx : ev e x = s) (hy : ev e y = xv)
  (hs : slk P t = some (E, sz, by_)) (hz : zeroV P E = some zv) (hzl : zv.cells.size = sz) (h2 : P.underlying at2 = some (.slice E2)) (hS : SlR w sz s m old) (hX : SlR w sz xv k new)
  (h1 : ∀ u ∈ new, u.oneCell' = true) (hb : (m + k) * by_ ≤ 1099511627776) (hby : by_ ≤ 1048576) (hmk : m + k ≤ 1099511627776) (hby0 : by_ ≠ 0)
  (kk : ∀ v w', Appended w sz s m old new k v w' → OI P r n ds ops Q (i + 1) (putE n d v e) w') : OI P r n ds ops Q i e w :=
 OI_do h fun o _ ho hd a ha he => by
  obtain ⟨v, w', hr, hA⟩ := append_run (P := P) hs hz hzl hS hX h1 hb hby hmk hby0 h2 o.type
  refine does_value (v := v) (w' := w') ?_ (by rw [hd]; exact kk v w' hA _ (ha.put d v))
  rw [he]
  exact builtin_run _ (fun _ _ _ _ => rfl) o ho (by simp only [List.map_toArray, List.map_cons, List.map_nil, hx, hy]; exact hr)
theorem GI_append {t E E2 at2 : TypeId} {sz by_ m k : Nat} {zv : Value} {old new : List Value} (x y : Operand) (s xv : Value) (d : Option Tmp) (h : site ops e i = some (d, .call { callee := .builtin .append, args := #[x, y], argTypes := #[t, at2] })) (hact : act i = true) (hx : ev e x = s) (hy : ev e y = xv)
  (hs : slk P t = some (E, sz, by_)) (hz : zeroV P E = some zv) (hzl : zv.cells.size = sz) (h2 : P.underlying at2 = some (.slice E2)) (hS : SlR w sz s m old) (hX : SlR w sz xv k new)
  (h1 : ∀ u ∈ new, u.oneCell' = true) (hb : (m + k) * by_ ≤ 1099511627776) (hby : by_ ≤ 1048576) (hmk : m + k ≤ 1099511627776) (hby0 : by_ ≠ 0)
  (kk : ∀ v w', Appended w sz s m old new k v w' → Keep S w1 w' ∧ GI P r n ds ops Q act S w1 l (putE n d v e) w') : GI P r n ds ops Q act S w1 (i :: l) e w :=
 GI_do d _ h hact fun o ho hd a ha he => by
  obtain ⟨v, w', hr, hA⟩ := append_run (P := P) hs hz hzl hS hX h1 hb hby hmk hby0 h2 o.type
  obtain ⟨hK, hk⟩ := kk v w' hA
  refine does_value (v := v) (w' := w') ?_ ⟨hK, by rw [hd]; exact hk _ (ha.put d v)⟩
  rw [he]
  exact builtin_run _ (fun _ _ _ _ => rfl) o ho (by simp only [List.map_toArray, List.map_cons, List.map_nil, hx, hy]; exact hr)
def bnd (e : Env) (x : Option Operand) (dflt : Nat) (j : Nat) : Prop := match x with | none => j = dflt | some x => ∃ kd, ev e x = .int kd (j : Int)
theorem bound_run {x : Value} {y j : Nat} {kd : IntKind} {c : BoundsCode} (hx : x = .int kd (j : Int)) (hj : j ≤ y) (w : World) : (Instr.sliceBound x y c).run P w = .ok j w := by
 subst hx
 unfold Instr.sliceBound
 have h2 : (0 : Int) ≤ (j : Int) ∧ (j : Int) ≤ (y : Int) := by omega
 simp only [Sem.run_bind, asIntOf, Sem.run_pure, Result.andThen, h2, and_self, if_true, Int.toNat_natCast]
theorem pure_slice {t E : TypeId} {x : Operand} {lo hi : Option Operand} {base : Option Addr} {len cap sz by_ l h : Nat} (hx : ev e x = .slice base len cap) (hs : slk P t = some (E, sz, by_)) (hl : bnd e lo 0 l) (hh : bnd e hi len h) (h1 : l ≤ h) (h2 : h ≤ cap) :
  PureOp P e (.slice t x lo hi none) (.slice (if cap = l then base else base.map (·.add (l * sz))) (h - l) (cap - l)) := fun op ho w => by
 obtain ⟨hu, inf, hi', hsz, _⟩ := slk_spec hs
 have hb : (Instr.sliceBounds true len cap (lo.map (ev e)) (hi.map (ev e)) none).run P w = .ok (l, h, cap) w := by
  unfold Instr.sliceBounds
  cases lo with
  | none =>
   simp only [bnd] at hl
   subst hl
   cases hi with
   | none =>
    simp only [bnd] at hh
    subst hh
    rfl
   | some y =>
    obtain ⟨kd, hy⟩ := hh
    simp only [Option.map_none, Option.map_some, Sem.run_bind, Sem.run_pure, Result.andThen, bound_run hy h2]
  | some z =>
   obtain ⟨kd', hz⟩ := hl
   cases hi with
   | none =>
    simp only [bnd] at hh
    subst hh
    simp only [Option.map_none, Option.map_some, Sem.run_bind, Sem.run_pure, Result.andThen, bound_run hz h1]
   | some y =>
    obtain ⟨kd, hy⟩ := hh
    simp only [Option.map_some, Sem.run_bind, Sem.run_pure, Result.andThen, bound_run hy h2, bound_run hz h1]
 unfold execOp
 simp only [ho]
 unfold Instr.sliceAt
 simp only [Sem.run_bind, run_und hu, Result.andThen, hx]
 unfold Instr.slice
 simp only [Sem.run_bind, run_und hu, Result.andThen, Option.map_none, hb, run_size hi', Sem.run_pure, hsz]
end
end Go.Al
namespace Go.Al
open Go Go.RowKit
section
variable {P : Program} {r : Option Nat} {n : Nat} {ds : List Deferred} {ops : Array Oper} {Q : Post} {act : Nat → Bool} {S : Nat → Prop} {w1 : World} {i : Nat} {l : List Nat} {e : Env} {w w' : World} {op : Op}
theorem slit_run {t E : TypeId} {len sz by_ : Nat} {parts : Array (Nat × Operand)} {zv : Value} (vs : List Value) (hs : slk P t = some (E, sz, by_)) (hz : zeroV P E = some zv) (hsz : 0 < sz) (hlen : vs.length = len) (hsm : len * sz ≤ 65536) (h1 : ∀ v ∈ vs, v.cells.size = sz)
  (hp : (parts.map fun (i, x) => (i, ev e x)).toList = (vs.zipIdx 0).map fun x => (x.2, x.1)) (o : Oper) (ho : o.op = .buildSlice t len parts) :
  (execOp (ev e) o).run P w = .ok (.value (.slice (some ⟨w.heap.size, 0, none⟩) len len)) (laid w (.cells (vs.flatMap fun v => v.cells.toList).toArray E)) := by
 obtain ⟨hu, inf, hi, hsi, _⟩ := slk_spec hs
 unfold execOp
 simp only [ho]
 unfold Instr.buildSlice
 have hbig : ¬ (len * inf.size > 2 ^ 24) := by rw [hsi]; omega
 by_cases h0 : len = 0
 ·subst h0
  have hv0 : vs = [] := List.length_eq_zero_iff.1 hlen
  subst hv0
  simp only [Sem.run_bind, run_und hu, run_size hi, Result.andThen, Nat.zero_mul, if_neg (by omega : ¬ (0 > 2 ^ 24)), if_true, Sem.run_pure, hp, List.zipIdx_nil, List.map_nil, Instr.fill, show Array.range 0 = #[] from by simp, List.map_toArray]
  rfl
 ·have hpos : ¬ (len * inf.size = 0) := by
   rw [hsi]
   exact Nat.mul_ne_zero h0 (by omega)
  have hf := Go.Great.fill_whole hsz vs ((Array.range (len * sz)).map (zv.cells[· % zv.cells.size]!)) h1 (by simp [hlen])
  simp only [Sem.run_bind, run_und hu, run_size hi, Result.andThen, hbig, if_false, hpos, zeroV_run hz, Sem.run_pure, hp]
  simp only [hsi, hf]
  rfl
theorem OI_slit {E : TypeId} {sz by_ : Nat} {zv : Value} (t : TypeId) (len : Nat) (parts : Array (Nat × Operand)) (vs : List Value) (L : List Value) (d : Option Tmp) (h : site ops e i = some (d, .buildSlice t len parts)) (hs : slk P t = some (E, sz, by_)) (hz : zeroV P E = some zv) (hsz : 0 < sz) (hlen : vs.length = len) (hsm : len * sz ≤ 65536) (h1 : ∀ v ∈ vs, v.cells.size = sz)
  (hp : (parts.map fun (i, x) => (i, ev e x)).toList = (vs.zipIdx 0).map fun x => (x.2, x.1)) (hL : (vs.flatMap fun v => v.cells.toList) = L)
  (k : ∀ b w', b = w.heap.size → Blk w' b L E → Keep none_ w w' → w'.heap.size = b + 1 → OI P r n ds ops Q (i + 1) (putE n d (.slice (some ⟨b, 0, none⟩) len len) e) w') : OI P r n ds ops Q i e w := by
 subst hL
 exact OI_laid d _ h (fun o ho => slit_run vs hs hz hsz hlen hsm h1 hp o ho) (fun w' => k _ w' rfl)
theorem GI_slit {E : TypeId} {sz by_ : Nat} {zv : Value} (t : TypeId) (len : Nat) (parts : Array (Nat × Operand)) (vs : List Value) (L : List Value) (d : Option Tmp) (h : site ops e i = some (d, .buildSlice t len parts)) (hact : act i = true) (hK : Keep S w1 w) (hs : slk P t = some (E, sz, by_)) (hz : zeroV P E = some zv) (hsz : 0 < sz) (hlen : vs.length = len) (hsm : len * sz ≤ 65536) (h1 : ∀ v ∈ vs, v.cells.size = sz)
  (hp : (parts.map fun (i, x) => (i, ev e x)).toList = (vs.zipIdx 0).map fun x => (x.2, x.1)) (hL : (vs.flatMap fun v => v.cells.toList) = L)
  (k : ∀ b w', b = w.heap.size → Blk w' b L E → Keep none_ w w' → w'.heap.size = b + 1 → Keep S w1 w' → GI P r n ds ops Q act S w1 l (putE n d (.slice (some ⟨b, 0, none⟩) len len) e) w') : GI P r n ds ops Q act S w1 (i :: l) e w := by
 subst hL
 exact GI_laid d _ h hact hK (fun o ho => slit_run vs hs hz hsz hlen hsm h1 hp o ho) (fun w' => k _ w' rfl)
theorem OI_turn {b : Nat} {L : List Value} {T : TypeId} {v : Value} (d : Option Tmp) (op : Op) (h : site ops e i = some (d, op)) (hb : b < w.heap.size) (hx : ∀ o : Oper, o.op = op → (execOp (ev e) o).run P w = .ok (.value v) (turned w b (.cells L.toArray T)))
  (k : ∀ w', Blk w' b L T → Keep (only b) w w' → w'.heap.size = w.heap.size → OI P r n ds ops Q (i + 1) (putE n d v e) w') : OI P r n ds ops Q i e w :=
 OI_value h hx (k _ (turned_blk _ _ hb) (turned_keep (by intro c t f hc; cases hc; rfl)) (turned_size _ _ _))
theorem len_run {x : Value} {sz m : Nat} {cells : List Value} (h : SlR w sz x m cells) : (Builtin.lenOf x).run P w = .ok m w := by
 rcases h with ⟨rfl, rfl, rfl⟩ | ⟨b, o, cap, L, T, rfl, _, _, _, _⟩ <;> rfl
theorem copy_run {t E T at2 : TypeId} {sz by_ b o dl dc k m : Nat} {L cells : List Value} {x y : Operand} (hs : slk P t = some (E, sz, by_)) (hx : ev e x = .slice (some ⟨b, o, none⟩) dl dc) (hb : Blk w b L T) (hy : SlR w sz (ev e y) k cells) (hm : m = min k dl) (hl : o + m * sz ≤ L.length) (h1 : ∀ u ∈ cells.take (m * sz), u.oneCell' = true) (op : Oper)
  (ho : op.op = .call { callee := .builtin .copy, args := #[x, y], argTypes := #[t, at2] }) : (execOp (ev e) op).run P w = .ok (.value (.int .i64 (m : Int))) (turned w b (.cells (over L o (cells.take (m * sz))).toArray T)) := by
 obtain ⟨hu, inf, hi, hsi, _⟩ := slk_spec hs
 refine builtin_run _ (fun _ _ _ _ => rfl) op ho ?_
 have hlen := hy.length
 have hmk : m ≤ k := by omega
 have hle : m * sz ≤ k * sz := Nat.mul_le_mul_right _ hmk
 have hst := run_storeCells (P := P) (cells.take (m * sz)) o 0 L w hb (by simp; omega) h1
 rw [Nat.add_zero] at hst
 have hmm : Nat.min k dl = m := hm.symm
 simp only [List.map_toArray, List.map_cons, List.map_nil, hx]
 unfold Builtin.copy_
 simp only [List.getElem?_toArray, List.getElem?_cons_zero, List.getElem?_cons_succ, Sem.run_bind, run_und hu, Result.andThen, len_run hy, run_size hi, hsi, hmm, first_run hy hmk, hst]
 rfl
theorem appmake_run {t E at2 : TypeId} {sz by_ m k : Nat} {kd : IntKind} {zv s : Value} {old : List Value} {w : World} {base : Option Addr} {cap : Nat} (hs : slk P t = some (E, sz, by_)) (hz : zeroV P E = some zv) (hzl : zv.cells.size = sz) (hsv : s = .slice base m cap) (h : SlR w sz s m old)
  (hcap : cap < m + k) (hb : (m + k) * by_ ≤ 1099511627776) (hby : by_ ≤ 1048576) (hmk : m + k ≤ 1099511627776) (h2 : P.underlying at2 = some (.int kd)) (ty : TypeId) :
  ∃ b' nc zs, (Builtin.append_ #[t, at2] ty #[s, .int .i64 (k : Int)]).run P w = .ok (.slice (some ⟨b', 0, none⟩) (m + k) nc) (laid w.drew (.cells (old ++ zs).toArray E)) ∧ b' = w.heap.size ∧ m + k ≤ nc ∧ zs.length = (nc - m) * sz := by
 obtain ⟨hu, inf, hi, hsi, hbs⟩ := slk_spec hs
 have hold : old.length = m * sz := h.length
 have hfs : ∀ w', SlR w' sz s m old → (Builtin.firstCells sz m s).run P w' = .ok old.toArray w' := by
  intro w' hs'
  rw [first_run hs' (Nat.le_refl _), List.take_of_length_le (by omega)]
 have hnc := nextcap_le hcap
 have hroom : ¬ (m + k ≤ cap) := by omega
 have hbig : ¬ (Builtin.nextslicecap (m + k) cap * inf.bytes > 2 ^ 48) := by
  rw [hbs]
  have : Builtin.nextslicecap (m + k) cap * by_ ≤ (4 * (m + k) + 4096) * by_ := Nat.mul_le_mul_right _ hnc
  have e : (4 * (m + k) + 4096) * by_ = 4 * ((m + k) * by_) + 4096 * by_ := by rw [Nat.add_mul, Nat.mul_assoc]
  omega
 have hq : (Question.appendCap (m + k) cap E).forced = false := rfl
 obtain ⟨nc, hnc2⟩ : ∃ nc, nc = Question.cut (.appendCap (m + k) cap E) (w.tape w.drawn (.appendCap (m + k) cap E)) := ⟨_, rfl⟩
 have hnc1 : m + k ≤ nc := by rw [hnc2]; simp only [Question.cut]; omega
 have hsd : SlR w.drew sz s m old := h
 have hwr : i64.wrap (k : Int) = (k : Int) := by
  unfold IntKind.wrap IntKind.bits IntKind.signed
  simp only
  have : (k : Int) % 2 ^ 64 = k := Int.emod_eq_of_lt (by omega) (by omega)
  rw [this]
  simp only [Bool.true_and, decide_eq_true_eq]
  rw [if_neg (by omega)]
 have hkneg : ¬ ((k : Int) < 0) := by omega
 have hkb : ¬ ((k : Int) * (inf.bytes : Int) > 2 ^ 48) := by
  rw [hbs]
  have h3 : k * by_ ≤ (m + k) * by_ := Nat.mul_le_mul_right _ (by omega)
  have h4 : ((k : Int) * (by_ : Int)) = ((k * by_ : Nat) : Int) := by simp
  rw [h4]
  omega
 refine ⟨w.heap.size, nc, (if k * sz = 0 then #[] else Builtin.zeroCells zv.cells k).toList ++ (Builtin.zeroCells zv.cells (nc - (m + k))).toList, ?_, rfl, hnc1, ?_⟩
 ·subst hsv
  unfold Builtin.append_
  simp only [Sem.run_bind, run_und hu, run_und h2, run_size hi, Result.andThen, hsi, List.getElem?_toArray, List.getElem?_cons_zero, List.getElem?_cons_succ, Sem.run_pure, if_true]
  have hmx : ¬ (((m + k : Nat) : Int) > IntKind.i64.max ∧ (True ∨ inf.bytes = 0)) := by
   have : IntKind.i64.max = 9223372036854775807 := by decide
   rw [this]
   omega
  have hkb' : ¬ ((k : Int) * (inf.bytes : Int) > 2 ^ 48) := hkb
  simp only [asInt, asIntOf, Sem.run_bind, Sem.run_pure, Result.andThen, hwr, hkneg, if_false, typeInfo_run hi, hkb', Int.toNat_natCast, hroom, hbig, hmx, askRoom_run, zeroV_run hz]
  simp only [choose, Sem.run, hq, Bool.false_eq_true, if_false, ← hnc2]
  have hfd : (Builtin.firstCells sz m (.slice base m cap)).run P { w with drawn := w.drawn + 1 } = .ok old.toArray { w with drawn := w.drawn + 1 } := hfs _ hsd
  simp only [hfd, Bool.not_true, Bool.false_eq_true, if_false]
  have hnew : (if k * sz = 0 then pure #[] else do
     let z ← zeroValue E
     pure (Builtin.zeroCells z.cells k) : Sem (Array Value)).run P { w with drawn := w.drawn + 1 } = .ok (if k * sz = 0 then #[] else Builtin.zeroCells zv.cells k) { w with drawn := w.drawn + 1 } := by
   split
   ·rfl
   ·simp only [Sem.run_bind, zeroV_run hz, Result.andThen, Sem.run_pure]
  rw [hnew]
  simp only [newRow, newObj]
  have e1 : (old ++ ((if k * sz = 0 then (#[] : Array Value) else Builtin.zeroCells zv.cells k).toList ++ (Builtin.zeroCells zv.cells (nc - (m + k))).toList)).toArray = old.toArray ++ (if k * sz = 0 then #[] else Builtin.zeroCells zv.cells k) ++ Builtin.zeroCells zv.cells (nc - (m + k)) := by
   apply Array.toList_inj.1
   simp
  rw [e1]
  rfl
 ·have e1 : (if k * sz = 0 then (#[] : Array Value) else Builtin.zeroCells zv.cells k).toList.length = k * sz := by
   split
   ·rename_i h0; simp [h0]
   ·simp [Builtin.zeroCells, hzl]
  rw [List.length_append, e1]
  have e2 : (Builtin.zeroCells zv.cells (nc - (m + k))).toList.length = (nc - (m + k)) * sz := by simp [Builtin.zeroCells, hzl]
  rw [e2, ← Nat.add_mul]
  congr 1
  omega
end
theorem wrap64_id {n : Int} (h0 : -9223372036854775808 ≤ n) (h1 : n ≤ 9223372036854775807) : i64.wrap n = n := by
 unfold IntKind.wrap IntKind.bits IntKind.signed
 simp only [Bool.true_and, decide_eq_true_eq]
 have e1 : (2 : Int) ^ 64 = 18446744073709551616 := by decide
 have e2 : (2 : Int) ^ (64 - 1) = 9223372036854775808 := by decide
 rw [e1, e2]
 split <;> omega
theorem V_not {P : Program} {r : Option Nat} {n : Nat} {ds : List Deferred} {Q : Post} {e : Env} {w : World} {x y : Code} {t : Nat} (p : Prop) [Decidable p] (h : look e t = some (.bool (!decide p))) (ht : ¬ p → V P r n ds x Q e w) (hf : p → V P r n ds y Q e w) : V P r n ds (.cond (.tmp t) x y) Q e w :=
 V_ifb (!decide p) h (fun hb => ht (by simpa using hb)) (fun hb => hf (by simpa using hb))
end Go.Al
namespace Go.Al
open Go Go.RowKit
def SlC (w : World) (sz : Nat) (A : Option Addr) (cap : Nat) (es : List (List Value)) : Prop :=
 (A = none ∧ cap = 0 ∧ es = []) ∨
 ∃ b o L T, A = some ⟨b, o, none⟩ ∧ Blk w b L T ∧ es.length ≤ cap ∧ o + cap * sz ≤ L.length ∧ (L.drop o).take (es.length * sz) = es.flatten ∧ (∀ e ∈ es, e.length = sz)
def inA (A : Option Addr) (k : Nat) : Prop := ∃ a, A = some a ∧ k = a.block
theorem inA_some {b o k : Nat} (h : inA (some ⟨b, o, none⟩) k) : k = b := by
 obtain ⟨a, h, rfl⟩ := h; cases h; rfl
theorem inA_none {k : Nat} (h : inA none k) : False := by obtain ⟨a, h, _⟩ := h; cases h
theorem SlC.nil (w : World) (sz : Nat) : SlC w sz none 0 [] := .inl ⟨rfl, rfl, rfl⟩
theorem SlC.keep {w w' : World} {S : Nat → Prop} {sz cap : Nat} {A : Option Addr} {es : List (List Value)} (h : SlC w sz A cap es) (hk : Keep S w w') (hS : ∀ k, inA A k → ¬ S k) : SlC w' sz A cap es := by
 rcases h with h | ⟨b, o, L, T, rfl, hb, h1, h2, h3, h4⟩
 ·exact .inl h
 ·exact .inr ⟨b, o, L, T, rfl, hb.keep hk (hS b ⟨_, rfl, rfl⟩), h1, h2, h3, h4⟩
theorem SlC.keep0 {w w' : World} {sz cap : Nat} {A : Option Addr} {es : List (List Value)} (h : SlC w sz A cap es) (hk : Keep none_ w w') : SlC w' sz A cap es := h.keep hk (fun _ _ f => f)
theorem SlC.lt {w : World} {sz cap : Nat} {A : Option Addr} {es : List (List Value)} (h : SlC w sz A cap es) : ∀ k, inA A k → k < w.heap.size := by
 intro k hk
 rcases h with ⟨rfl, _, _⟩ | ⟨b, o, L, T, rfl, hb, h1, h2, h3, h4⟩
 ·exact (inA_none hk).elim
 ·rw [inA_some hk]; exact hb.lt
theorem SlC.slr {w : World} {sz cap : Nat} {A : Option Addr} {es : List (List Value)} (h : SlC w sz A cap es) : SlR w sz (.slice A es.length cap) es.length es.flatten := by
 rcases h with ⟨rfl, rfl, rfl⟩ | ⟨b, o, L, T, rfl, hb, h1, h2, h3, h4⟩
 ·exact .inl ⟨rfl, rfl, rfl⟩
 ·exact .inr ⟨b, o, cap, L, T, rfl, hb, h1, h2, h3⟩
theorem SlC.of {w : World} {sz m : Nat} {v : Value} {cells : List Value} {es : List (List Value)} (h : SlR w sz v m cells) (hm : es.length = m) (hc : es.flatten = cells) (hl : ∀ e ∈ es, e.length = sz) : ∃ A cap, v = .slice A m cap ∧ SlC w sz A cap es ∧ (∀ k, inA A k → blkOf v k) := by
 subst hm; subst hc
 rcases h with ⟨rfl, hm, _⟩ | ⟨b, o, cap, L, T, rfl, hb, h1, h2, h3⟩
 ·exact ⟨none, 0, by rw [hm], .inl ⟨rfl, rfl, List.length_eq_zero_iff.1 hm⟩, fun k hk => (inA_none hk).elim⟩
 ·exact ⟨_, cap, rfl, .inr ⟨b, o, L, T, rfl, hb, h1, h2, h3, hl⟩, fun k hk => inA_some hk⟩
theorem SlC.sizes {w : World} {sz cap : Nat} {A : Option Addr} {es : List (List Value)} (h : SlC w sz A cap es) : ∀ e ∈ es, e.length = sz := by
 rcases h with ⟨rfl, rfl, rfl⟩ | ⟨b, o, L, T, rfl, hb, h1, h2, h3, h4⟩
 ·intro e he; cases he
 ·exact h4
theorem SlC.cap_le {w : World} {sz cap : Nat} {A : Option Addr} {es : List (List Value)} (h : SlC w sz A cap es) : es.length ≤ cap := by
 rcases h with ⟨rfl, rfl, rfl⟩ | ⟨b, o, L, T, rfl, hb, h1, h2, h3, h4⟩
 ·simp
 ·exact h1
theorem flatten_len {es : List (List Value)} {sz : Nat} (h : ∀ e ∈ es, e.length = sz) : es.flatten.length = es.length * sz := by
 induction es with
 | nil => simp
 | cons e es ih =>
  simp only [List.flatten_cons, List.length_append, List.length_cons]
  rw [ih (fun x hx => h x (List.mem_cons_of_mem _ hx)), h e (List.mem_cons_self ..), Nat.add_mul]
  omega
theorem flatten_drop {es : List (List Value)} {sz : Nat} (h : ∀ e ∈ es, e.length = sz) : ∀ i, es.flatten.drop (i * sz) = (es.drop i).flatten := by
 induction es with
 | nil => intro i; simp
 | cons e es ih =>
  intro i
  cases i with
  | zero => simp
  | succ i =>
   have he := h e (List.mem_cons_self ..)
   simp only [List.flatten_cons, List.drop_succ_cons]
   rw [show (i + 1) * sz = e.length + i * sz by rw [he, Nat.add_mul]; omega, List.drop_append]
   simp only [List.drop_of_length_le (Nat.le_add_right e.length (i * sz)), List.nil_append, Nat.add_sub_cancel_left]
   exact ih (fun x hx => h x (List.mem_cons_of_mem _ hx)) i
theorem flatten_take {es : List (List Value)} {sz : Nat} (h : ∀ e ∈ es, e.length = sz) : ∀ i, es.flatten.take (i * sz) = (es.take i).flatten := by
 induction es with
 | nil => intro i; simp
 | cons e es ih =>
  intro i
  cases i with
  | zero => simp
  | succ i =>
   have he := h e (List.mem_cons_self ..)
   simp only [List.flatten_cons, List.take_succ_cons]
   rw [show (i + 1) * sz = e.length + i * sz by rw [he, Nat.add_mul]; omega, List.take_append]
   simp only [List.take_of_length_le (Nat.le_add_right e.length (i * sz)), Nat.add_sub_cancel_left]
   rw [ih (fun x hx => h x (List.mem_cons_of_mem _ hx)) i]
theorem flatten_at {es : List (List Value)} {sz i : Nat} (h : ∀ e ∈ es, e.length = sz) (hi : i < es.length) : (es.flatten.drop (i * sz)).take sz = es[i] := by
 rw [flatten_drop h]
 have h1 : es.drop i = es[i] :: es.drop (i + 1) := by rw [List.drop_eq_getElem_cons hi]
 rw [h1, List.flatten_cons, List.take_append_of_le_length (by rw [h _ (List.getElem_mem hi)]; exact Nat.le_refl _), List.take_of_length_le (by rw [h _ (List.getElem_mem hi)]; exact Nat.le_refl _)]
structure At (w : World) (b o : Nat) (L : List Value) (T : TypeId) (sz cap : Nat) (es : List (List Value)) : Prop where
 blk : Blk w b L T
 le : es.length ≤ cap
 room : o + cap * sz ≤ L.length
 cells : (L.drop o).take (es.length * sz) = es.flatten
 sizes : ∀ e ∈ es, e.length = sz
theorem SlC.open_ {w : World} {sz cap : Nat} {A : Option Addr} {es : List (List Value)} (h : SlC w sz A cap es) (hi : 0 < es.length) : ∃ b o L T, A = some ⟨b, o, none⟩ ∧ At w b o L T sz cap es := by
 rcases h with ⟨rfl, rfl, rfl⟩ | ⟨b, o, L, T, rfl, hb, h1, h2, h3, h4⟩
 ·simp at hi
 ·exact ⟨b, o, L, T, rfl, hb, h1, h2, h3, h4⟩
theorem At.slc {w : World} {sz cap b o : Nat} {L : List Value} {T : TypeId} {es : List (List Value)} (h : At w b o L T sz cap es) : SlC w sz (some ⟨b, o, none⟩) cap es := .inr ⟨b, o, L, T, rfl, h.blk, h.le, h.room, h.cells, h.sizes⟩
theorem At.keep {w w' : World} {S : Nat → Prop} {sz cap b o : Nat} {L : List Value} {T : TypeId} {es : List (List Value)} (h : At w b o L T sz cap es) (hk : Keep S w w') (hS : ¬ S b) : At w' b o L T sz cap es := ⟨h.blk.keep hk hS, h.le, h.room, h.cells, h.sizes⟩
theorem At.elem {w : World} {sz cap b o i : Nat} {L : List Value} {T : TypeId} {es : List (List Value)} (h : At w b o L T sz cap es) (hi : i < es.length) : (L.drop (o + i * sz)).take sz = es[i] := by
 rw [← flatten_at h.sizes hi, ← h.cells]
 have : (i + 1) * sz ≤ es.length * sz := Nat.mul_le_mul_right _ hi
 rw [cells_slice (by rw [Nat.add_mul] at this; omega)]
theorem At.elem' {w : World} {sz cap b o i : Nat} {L e : List Value} {T : TypeId} {es : List (List Value)} (h : At w b o L T sz cap es) (hi : es[i]? = some e) : (L.drop (o + i * sz)).take sz = e := by
 obtain ⟨h1, rfl⟩ := List.getElem?_eq_some_iff.1 hi
 exact h.elem h1
theorem At.cell {w : World} {sz cap b o i f : Nat} {L e : List Value} {T : TypeId} {v : Value} {es : List (List Value)} (h : At w b o L T sz cap es) (hi : es[i]? = some e) (hf : e[f]? = some v) : L[o + i * sz + f]? = some v := by
 have h1 := h.elem' hi
 have hl := h.sizes e (List.mem_of_getElem? hi)
 have hf' : f < sz := by rw [← hl]; exact (List.getElem?_eq_some_iff.1 hf).1
 rw [← h1, List.getElem?_take, if_pos hf', List.getElem?_drop] at hf
 exact hf
theorem At.cell0 {w : World} {sz cap b o i : Nat} {L e : List Value} {T : TypeId} {v : Value} {es : List (List Value)} (h : At w b o L T sz cap es) (hi : es[i]? = some e) (hf : e[0]? = some v) : L[o + i * sz]? = some v := h.cell hi hf
theorem At.len {w : World} {sz cap b o i : Nat} {L e : List Value} {T : TypeId} {es : List (List Value)} (h : At w b o L T sz cap es) (hi : es[i]? = some e) : e.length = sz := h.sizes e (List.mem_of_getElem? hi)
def SlT {α : Type} (w : World) (sz : Nat) (f : α → List Value) (A : Option Addr) (cap : Nat) (xs : List α) : Prop := SlC w sz A cap (xs.map f)
section
variable {α : Type} {w w' : World} {sz cap i : Nat} {f : α → List Value} {A : Option Addr} {xs : List α} {x : α}
theorem SlT.open_ (h : SlT w sz f A cap xs) (hi : 0 < xs.length) : ∃ b o L T, A = some ⟨b, o, none⟩ ∧ At w b o L T sz cap (xs.map f) := SlC.open_ h (by simpa using hi)
theorem SlT.keep {S : Nat → Prop} (h : SlT w sz f A cap xs) (hk : Keep S w w') (hS : ∀ k, inA A k → ¬ S k) : SlT w' sz f A cap xs := SlC.keep h hk hS
theorem SlT.keep0 (h : SlT w sz f A cap xs) (hk : Keep none_ w w') : SlT w' sz f A cap xs := SlC.keep0 h hk
theorem SlT.cap_le (h : SlT w sz f A cap xs) : xs.length ≤ cap := by simpa using SlC.cap_le h
theorem SlT.nil (w : World) (sz : Nat) (f : α → List Value) : SlT w sz f none 0 [] := SlC.nil w sz
theorem SlT.lt (h : SlT w sz f A cap xs) : ∀ k, inA A k → k < w.heap.size := SlC.lt h
theorem SlT.slr (h : SlT w sz f A cap xs) : SlR w sz (.slice A xs.length cap) xs.length (xs.flatMap f) := by
 have := SlC.slr h
 rw [List.length_map] at this
 exact this
theorem SlT.of {m : Nat} {v : Value} {cells : List Value} (h : SlR w sz v m cells) (hm : xs.length = m) (hc : xs.flatMap f = cells) (hl : ∀ x ∈ xs, (f x).length = sz) : ∃ A cap, v = .slice A m cap ∧ SlT w sz f A cap xs ∧ (∀ k, inA A k → blkOf v k) :=
 SlC.of h (by simpa using hm) hc (by intro e he; obtain ⟨x, hx, rfl⟩ := List.mem_map.1 he; exact hl x hx)
theorem flatMap_len (hf : ∀ x, (f x).length = sz) : ∀ xs : List α, (xs.flatMap f).length = xs.length * sz
 | [] => by simp
 | x :: xs => by simp [hf, flatMap_len hf xs, Nat.add_mul]; omega
theorem slt_blk {b : Nat} {T : TypeId} (h : Blk w b (xs.flatMap f) T) (hf : ∀ x, (f x).length = sz) (hc : xs.length = cap) : SlT w sz f (some ⟨b, 0, none⟩) cap xs := by
 subst hc
 refine .inr ⟨b, 0, _, T, rfl, h, by simp, ?_, ?_, ?_⟩
 ·rw [flatMap_len hf]; omega
 ·rw [List.drop_zero, List.length_map, List.take_of_length_le (by rw [flatMap_len hf]; exact Nat.le_refl _)]; simp [List.flatMap_def]
 ·intro e he; obtain ⟨x, hx, rfl⟩ := List.mem_map.1 he; exact hf x
theorem es_at (h : xs[i]? = some x) : (xs.map f)[i]? = some (f x) := by rw [List.getElem?_map, h]; rfl
theorem At.slt {b o : Nat} {L : List Value} {T : TypeId} (h : At w b o L T sz cap (xs.map f)) : SlT w sz f (some ⟨b, o, none⟩) cap xs := At.slc h
end
section
variable {P : Program} {e : Env}
theorem pure_idxN {t E : TypeId} {x y : Operand} {b o len cap sz by_ : Nat} {kd : IntKind} {j : Nat} (hx : ev e x = .slice (some ⟨b, o, none⟩) len cap) (hy : ev e y = .int kd (j : Int)) (hs : slk P t = some (E, sz, by_)) (h1 : j < len) :
  PureOp P e (.indexAddr t x y) (.pointer (some ⟨b, o + j * sz, none⟩)) := pure_idx hx hy hs (by omega) (by omega)
end
theorem wrapN {n : Nat} (h : n ≤ 9223372036854775807) : i64.wrap (n : Int) = (n : Int) := wrap64_id (by omega) (by omega)
theorem wrap_u64 {a : Nat} (h : a ≤ 18446744073709551615) : IntKind.u64.wrap (a : Int) = (a : Int) := by
 unfold IntKind.wrap IntKind.bits IntKind.signed
 simp only [Bool.false_and, Bool.false_eq_true, if_false]
 have e1 : (2 : Int) ^ 64 = 18446744073709551616 := by decide
 rw [e1]
 omega
theorem shr1 (a : Nat) : Int.fdiv (a : Int) (2 ^ 1) = ((a / 2 : Nat) : Int) := by
 rw [show (2 : Int) ^ 1 = ((2 : Nat) : Int) from by decide, Int.fdiv_eq_ediv_of_nonneg _ (by omega)]
 omega
theorem take_all {α : Type} {l : List α} {n : Nat} (h : l.length = n) : (l.drop 0).take n = l := by rw [List.drop_zero, List.take_of_length_le (by omega)]
def acts (l : List Nat) (i : Nat) : Bool := l.any (Nat.beq i)
end Go.Al
namespace Go.Al
open Go Go.RowKit
theorem over_app {X Y Z W : List Value} (h : Y.length = W.length) : over (X ++ (Y ++ Z)) X.length W = X ++ (W ++ Z) := by
 unfold over
 rw [List.take_left, List.append_assoc]
 congr 2
 rw [← h, show X.length + Y.length = (X ++ Y).length by simp, ← List.append_assoc, List.drop_left]
theorem over_app' {X Y Z W L : List Value} {o : Nat} (hL : L = X ++ (Y ++ Z)) (ho : o = X.length) (h : Y.length = W.length) : over L o W = X ++ (W ++ Z) := by subst hL; subst ho; exact over_app h
theorem drop_app' {X Z L : List Value} {o : Nat} (hL : L = X ++ Z) (ho : o = X.length) : L.drop o = Z := by subst hL; subst ho; simp
theorem take_app' {X Z L : List Value} {o : Nat} (hL : L = X ++ Z) (ho : o = X.length) : L.take o = X := by subst hL; subst ho; simp
theorem At.split {w : World} {b o sz cap : Nat} {L : List Value} {T : TypeId} {es : List (List Value)} (h : At w b o L T sz cap es) (i : Nat) (hi : i ≤ es.length) :
  ∃ pre C, pre.length = o ∧ L = pre ++ ((es.take i).flatten ++ ((es.drop i).flatten ++ C)) ∧ (es.take i).flatten.length = i * sz ∧ (es.drop i).flatten.length = (es.length - i) * sz ∧ (cap - es.length) * sz ≤ C.length := by
 have hcl := h.room
 have h1 : es.length * sz ≤ cap * sz := Nat.mul_le_mul_right _ h.le
 have h2 : (cap - es.length) * sz = cap * sz - es.length * sz := Nat.sub_mul ..
 refine ⟨L.take o, (L.drop o).drop (es.length * sz), by simp; omega, ?_, ?_, ?_, ?_⟩
 ·rw [← List.append_assoc (es.take i).flatten, ← List.flatten_append, List.take_append_drop, ← h.cells, List.take_append_drop, List.take_append_drop]
 ·rw [flatten_len (fun e he => h.sizes e (List.mem_of_mem_take he)), List.length_take, Nat.min_eq_left hi]
 ·rw [flatten_len (fun e he => h.sizes e (List.mem_of_mem_drop he)), List.length_drop]
 ·rw [h2, List.drop_drop, List.length_drop]; omega
theorem ins_cells {w : World} {b o sz cap i : Nat} {L c : List Value} {T : TypeId} {es : List (List Value)} (h : At w b o L T sz cap es) (hi : i ≤ es.length) (hroom : es.length + 1 ≤ cap) (hc : c.length = sz) :
  let L1 := over L (o + (i + 1) * sz) ((L.drop (o + i * sz)).take ((es.length - i) * sz))
  L1.length = L.length ∧ ((over L1 (o + i * sz) c).drop o).take ((es.length + 1) * sz) = (es.take i ++ c :: es.drop i).flatten ∧ (over L1 (o + i * sz) c).length = L.length := by
 obtain ⟨pre, C, hp, hL, hA, hB, hC⟩ := h.split i hi
 have hCsz : sz ≤ C.length := by
  have : 1 * sz ≤ (cap - es.length) * sz := Nat.mul_le_mul_right _ (by omega)
  omega
 generalize hAe : (es.take i).flatten = A at *
 generalize hBe : (es.drop i).flatten = B at *
 have e1 : (L.drop (o + i * sz)).take ((es.length - i) * sz) = B := by
  have : L.drop (o + i * sz) = B ++ C := drop_app' (X := pre ++ A) (by rw [hL]; simp) (by simp; omega)
  rw [this, ← hB, List.take_left]
 intro L1
 obtain ⟨X, Y, hXY, hX⟩ : ∃ X Y, B ++ C = X ++ Y ∧ X.length = sz := ⟨(B ++ C).take sz, (B ++ C).drop sz, by simp, by simp; omega⟩
 obtain ⟨Y1, Y2, hY, hY1⟩ : ∃ Y1 Y2, Y = Y1 ++ Y2 ∧ Y1.length = B.length := ⟨Y.take B.length, Y.drop B.length, by simp, by
  have := congrArg List.length hXY
  simp at this
  simp; omega⟩
 have eL1 : L1 = (pre ++ (A ++ X)) ++ (B ++ Y2) := by
  show over L (o + (i + 1) * sz) ((L.drop (o + i * sz)).take ((es.length - i) * sz)) = _
  rw [e1]
  refine over_app' (Y := Y1) ?_ ?_ hY1
  ·rw [hL, hXY, hY]; simp
  ·simp; rw [Nat.add_mul]; omega
 have eL2 : over L1 (o + i * sz) c = (pre ++ A) ++ (c ++ (B ++ Y2)) := by
  refine over_app' (Y := X) ?_ (by simp; omega) (by omega)
  rw [eL1]; simp
 have hlen := congrArg List.length hXY
 have hLl := congrArg List.length hL
 simp at hlen hLl
 refine ⟨?_, ?_, ?_⟩
 ·rw [eL1]; simp; rw [hY] at hlen; simp at hlen; omega
 ·rw [eL2, List.append_assoc, drop_app' rfl hp.symm]
  simp only [List.flatten_append, List.flatten_cons, hAe, hBe]
  rw [show A ++ (c ++ (B ++ Y2)) = (A ++ (c ++ B)) ++ Y2 by simp, take_app' rfl]
  simp [hA, hB, hc]
  rw [Nat.add_mul, Nat.sub_mul]
  have : i * sz ≤ es.length * sz := Nat.mul_le_mul_right _ hi
  omega
 ·rw [eL2]; simp; rw [hY] at hlen; simp at hlen; omega
theorem grow_cells {sz n i nc : Nat} {c zs : List Value} {es : List (List Value)} (hs : ∀ e ∈ es, e.length = sz) (hn : es.length = n) (hi : i ≤ n) (hroom : n + 1 ≤ nc) (hc : c.length = sz) (hz : zs.length = (nc - i) * sz) :
  let L := (es.take i).flatten ++ zs
  let L1 := over L (i * sz) c
  L1.length = L.length ∧ ((over L1 ((i + 1) * sz) (es.drop i).flatten).drop 0).take ((n + 1) * sz) = (es.take i ++ c :: es.drop i).flatten ∧ (over L1 ((i + 1) * sz) (es.drop i).flatten).length = L.length ∧ L.length = nc * sz ∧ (es.drop i).flatten.length = (n - i) * sz := by
 subst hn
 have hA : (es.take i).flatten.length = i * sz := by rw [flatten_len (fun e he => hs e (List.mem_of_mem_take he)), List.length_take, Nat.min_eq_left hi]
 have hB : (es.drop i).flatten.length = (es.length - i) * sz := by rw [flatten_len (fun e he => hs e (List.mem_of_mem_drop he)), List.length_drop]
 generalize hAe : (es.take i).flatten = A at *
 generalize hBe : (es.drop i).flatten = B at *
 intro L L1
 have m1 : i * sz ≤ es.length * sz := Nat.mul_le_mul_right _ hi
 have m2 : (es.length + 1) * sz ≤ nc * sz := Nat.mul_le_mul_right _ hroom
 rw [Nat.sub_mul] at hB hz
 rw [Nat.add_mul] at m2
 obtain ⟨X, Y, hXY, hX⟩ : ∃ X Y, zs = X ++ Y ∧ X.length = sz := ⟨zs.take sz, zs.drop sz, by simp, by simp; omega⟩
 subst hXY
 obtain ⟨Y1, Y2, hY, hY1⟩ : ∃ Y1 Y2, Y = Y1 ++ Y2 ∧ Y1.length = B.length := ⟨Y.take B.length, Y.drop B.length, by simp, by simp at hz; simp; omega⟩
 subst hY
 have eL1 : L1 = (A ++ c) ++ (Y1 ++ Y2) := by
  show over (A ++ (X ++ (Y1 ++ Y2))) (i * sz) c = _
  rw [over_app' rfl hA.symm (by omega)]; simp
 have eL2 : over L1 ((i + 1) * sz) B = (A ++ c) ++ (B ++ Y2) := over_app' eL1 (by simp; rw [Nat.add_mul]; omega) hY1
 simp at hz
 refine ⟨?_, ?_, ?_, ?_, ?_⟩
 ·rw [eL1]; show _ = (A ++ (X ++ (Y1 ++ Y2))).length; simp; omega
 ·rw [eL2, List.drop_zero]
  simp only [List.flatten_append, List.flatten_cons, hAe, hBe]
  rw [show (A ++ c) ++ (B ++ Y2) = (A ++ (c ++ B)) ++ Y2 by simp, take_app' rfl]
  simp [hA, hB, hc]
  rw [Nat.add_mul]
  omega
 ·rw [eL2]; show _ = (A ++ (X ++ (Y1 ++ Y2))).length; simp; omega
 ·show (A ++ (X ++ (Y1 ++ Y2))).length = _; simp; omega
 ·rw [hB, Nat.sub_mul]
section
variable {P : Program} {e : Env} {w : World}
theorem PureOp.cast {op : Op} {v v' : Value} (h : PureOp P e op v) (hv : v = v') : PureOp P e op v' := hv ▸ h
theorem pure_sliceTo {t E : TypeId} {x y : Operand} {base : Option Addr} {len cap sz by_ h : Nat} {kd : IntKind} (hx : ev e x = .slice base len cap) (hs : slk P t = some (E, sz, by_)) (hh : ev e y = .int kd (h : Int)) (h2 : h ≤ cap) :
  PureOp P e (.slice t x none (some y) none) (.slice base h cap) :=
 (pure_slice (lo := none) (hi := some y) (l := 0) (h := h) hx hs rfl ⟨kd, hh⟩ (Nat.zero_le _) h2).cast (by
  rw [Nat.zero_mul, Nat.sub_zero, Nat.sub_zero]
  congr 1
  split
  ·rfl
  ·cases base with
   | none => rfl
   | some a => simp only [Option.map_some, Option.some.injEq]; cases a; simp only [Addr.add]; split <;> simp_all)
theorem pure_sliceFrom {t E : TypeId} {x y : Operand} {b o len cap sz by_ l : Nat} {kd : IntKind} (hx : ev e x = .slice (some ⟨b, o, none⟩) len cap) (hs : slk P t = some (E, sz, by_)) (hl : ev e y = .int kd (l : Int)) (h1 : l ≤ len) (h2 : len ≤ cap) (h3 : l < cap) :
  PureOp P e (.slice t x (some y) none none) (.slice (some ⟨b, o + l * sz, none⟩) (len - l) (cap - l)) :=
 (pure_slice (lo := some y) (hi := none) (l := l) (h := len) hx hs ⟨kd, hl⟩ rfl h1 h2).cast (by rw [if_neg (by omega)]; simp only [Option.map_some, add_plain])
theorem overlaps_run {f : FuncId} {fn : Func} {tS tR E : TypeId} {sz : Nat} {vb vo b o la ca lb cb : Nat} {V L : List Value} {TV T : TypeId} {c : Call} {by_ : Nat} (hf : P.funcs[f]? = some fn) (hname : (fn.name == "runtime.NumGoroutine") = false)
  (hb : fn.body.isNone = true) (hn : Extern.findNext fn = none) (he : Extern.find fn = some (Extern.SlicesOverlaps.overlaps #[tS, tS] #[tR])) (hs : slk P tS = some (E, sz, by_)) (hc : callee e c = some (f, #[.slice (some ⟨vb, vo, none⟩) la ca, .slice (some ⟨b, o, none⟩) lb cb]))
  (hne : vb ≠ b) (hV : Blk w vb V TV) (hL : Blk w b L T) (hLp : L ≠ []) (op : Oper) (ho : op.op = .call c) : (execOp (ev e) op).run P w = .ok (.value (.bool false)) w := by
 obtain ⟨hu, inf, hi, hsz, hbs⟩ := slk_spec hs
 have h1 : (callFunc f #[.slice (some ⟨vb, vo, none⟩) la ca, .slice (some ⟨b, o, none⟩) lb cb]).run P w = .ok (.value (.bool false)) w := by
  rw [run_callFunc_extern hf hname hb hn he]
  unfold Blk at hV hL
  rw [Lib.run_overlaps_apart w tS tR E hu sz (fun w => by rw [run_size hi, hsz]) ⟨vb, vo, none⟩ ⟨b, o, none⟩ la ca lb cb hne TV T V.length L.length (by simp [World.shape?, hV]) (by simp [World.shape?, hL]) (fun h => hLp (List.length_eq_zero_iff.1 h))
   (by simp [World.frozen?, hV]) (by simp [World.frozen?, hV])]
  rfl
 unfold callee at hc
 unfold execOp
 simp only [ho]
 unfold resolve
 split at hc
 ·rename_i g hg
  split at hc
  ·rename_i g' first cap hv
   simp only [Option.some.injEq, Prod.mk.injEq] at hc
   obtain ⟨rfl, hargs⟩ := hc
   simp only [hg, hv, Deferred.ofValue, Sem.run_bind, Sem.run_pure, Result.andThen, invoke]
   rw [hargs]
   exact h1
  ·cases hc
 ·cases hc
theorem slr_blk {b o m cap sz : Nat} {L : List Value} {T : TypeId} (h : Blk w b L T) (h1 : m ≤ cap) (h2 : o + cap * sz ≤ L.length) : SlR w sz (.slice (some ⟨b, o, none⟩) m cap) m ((L.drop o).take (m * sz)) := .inr ⟨b, o, cap, L, T, rfl, h, h1, h2, rfl⟩
theorem At.pref {b o sz cap i : Nat} {L : List Value} {T : TypeId} {es : List (List Value)} (h : At w b o L T sz cap es) (hi : i ≤ es.length) : SlR w sz (.slice (some ⟨b, o, none⟩) i cap) i (es.take i).flatten := by
 refine .inr ⟨b, o, cap, L, T, rfl, h.blk, Nat.le_trans hi h.le, h.room, ?_⟩
 rw [← flatten_take h.sizes, ← h.cells, List.take_take, Nat.min_eq_left (Nat.mul_le_mul_right _ hi)]
theorem At.suff {b o sz cap i : Nat} {L : List Value} {T : TypeId} {es : List (List Value)} (h : At w b o L T sz cap es) (hi : i ≤ es.length) : SlR w sz (.slice (some ⟨b, o + i * sz, none⟩) (es.length - i) (cap - i)) (es.length - i) (es.drop i).flatten := by
 have hle := h.le
 have hr := h.room
 have e1 : (cap - i) * sz = cap * sz - i * sz := Nat.sub_mul ..
 have e2 : i * sz ≤ cap * sz := Nat.mul_le_mul_right _ (by omega)
 refine .inr ⟨b, o + i * sz, cap - i, L, T, rfl, h.blk, by omega, by omega, ?_⟩
 rw [← flatten_drop h.sizes, ← h.cells, List.drop_take, List.drop_drop, Nat.sub_mul]
theorem At.dropcells {b o sz cap i : Nat} {L : List Value} {T : TypeId} {es : List (List Value)} (h : At w b o L T sz cap es) : (L.drop (o + i * sz)).take ((es.length - i) * sz) = (es.drop i).flatten := by
 rw [← flatten_drop h.sizes, ← h.cells, List.drop_take, List.drop_drop, Nat.sub_mul]
section
variable {α : Type} {f : α → List Value} {xs : List α} {x : α} {b o sz cap i : Nat} {L : List Value} {T : TypeId}
theorem At.prefT (h : At w b o L T sz cap (xs.map f)) (hi : i ≤ xs.length) : SlR w sz (.slice (some ⟨b, o, none⟩) i cap) i ((xs.map f).take i).flatten := h.pref (by simpa using hi)
theorem At.suffT (h : At w b o L T sz cap (xs.map f)) (hi : i ≤ xs.length) : SlR w sz (.slice (some ⟨b, o + i * sz, none⟩) (xs.length - i) (cap - i)) (xs.length - i) ((xs.map f).drop i).flatten := by
 have := h.suff (i := i) (by simpa using hi)
 rwa [List.length_map] at this
theorem slr_one {c : List Value} (h : Blk w b c T) (hc : c.length = sz) : SlR w sz (.slice (some ⟨b, 0, none⟩) 1 1) 1 c :=
 .inr ⟨b, 0, 1, c, T, rfl, h, Nat.le_refl _, by omega, by rw [List.drop_zero, List.take_of_length_le (by omega)]⟩
theorem ins_slt (hB : Blk w b L T) (hi : i ≤ xs.length) (hcap : xs.length + 1 ≤ cap) (hroom : o + cap * sz ≤ L.length) (hc : (L.drop o).take (((xs.map f).length + 1) * sz) = ((xs.map f).take i ++ f x :: (xs.map f).drop i).flatten) (hf : ∀ x, (f x).length = sz) : SlT w sz f (some ⟨b, o, none⟩) cap (xs.take i ++ x :: xs.drop i) := by
 have hl : (xs.take i ++ x :: xs.drop i).length = xs.length + 1 := by simp; omega
 rw [List.length_map] at hc
 refine .inr ⟨b, o, L, T, rfl, hB, by simp; omega, hroom, ?_, ?_⟩
 ·rw [List.length_map, hl, hc]; simp [List.map_take, List.map_drop]
 ·intro e he; obtain ⟨y, _, rfl⟩ := List.mem_map.1 he; exact hf y
end
theorem one_all' {a : List Value} (h : a.all (fun u => u.oneCell') = true) : ∀ u ∈ a, u.oneCell' = true := fun u hu => List.all_eq_true.1 h u hu
theorem one_flat {α : Type} {f : α → List Value} (h : ∀ x, ∀ u ∈ f x, u.oneCell' = true) {xs : List α} : ∀ u ∈ xs.flatMap f, u.oneCell' = true := by
 intro u hu
 obtain ⟨x, _, hx⟩ := List.mem_flatMap.1 hu
 exact h x u hx
theorem one_flatten {α : Type} {f : α → List Value} (h : ∀ x, ∀ u ∈ f x, u.oneCell' = true) {xs : List α} : ∀ u ∈ (xs.map f).flatten, u.oneCell' = true := by
 rw [← List.flatMap_def]; exact one_flat h
end
section
variable {P : Program} {r : Option Nat} {n : Nat} {ds : List Deferred} {ops : Array Oper} {Q : Post} {i : Nat} {e : Env} {w : World}
theorem OI_appmake {t E at2 : TypeId} {sz by_ m k N : Nat} {kd : IntKind} {zv s : Value} {old : List Value} {base : Option Addr} {cap : Nat} (x y : Operand) (d : Option Tmp) (h : site ops e i = some (d, .call { callee := .builtin .append, args := #[x, y], argTypes := #[t, at2] })) (hx : ev e x = s) (hy : ev e y = .int .i64 (k : Int))
  (hs : slk P t = some (E, sz, by_)) (hz : zeroV P E = some zv) (hzl : zv.cells.size = sz) (hsv : s = .slice base m cap) (hS : SlR w sz s m old)
  (hcap : cap < m + k) (hb : (m + k) * by_ ≤ 1099511627776) (hby : by_ ≤ 1048576) (hmk : m + k ≤ 1099511627776) (h2 : P.underlying at2 = some (.int kd)) (hN : m + k = N)
  (kk : ∀ b' nc zs w', b' = w.heap.size → N ≤ nc → zs.length = (nc - m) * sz → Blk w' b' (old ++ zs) E → Keep none_ w w' → w'.heap.size = b' + 1 → OI P r n ds ops Q (i + 1) (putE n d (.slice (some ⟨b', 0, none⟩) N nc) e) w') : OI P r n ds ops Q i e w :=
 OI_do h fun o _ ho hd a ha he => by
  subst hN
  obtain ⟨b', nc, zs, hr, hb', hnc, hzs⟩ := appmake_run (P := P) hs hz hzl hsv hS hcap hb hby hmk h2 o.type
  subst hb'
  refine does_value (v := .slice (some ⟨w.heap.size, 0, none⟩) (m + k) nc) (w' := laid w.drew (.cells (old ++ zs).toArray E)) ?_ (by rw [hd]; exact kk _ nc zs _ rfl hnc hzs (laid_blk w.drew _ _) (((Keep.refl none_ w).drew (w.drawn + 1)).tr (laid_keep _ _ (by intro c t f hc; cases hc; rfl))) (laid_size w.drew _) _ (ha.put d _))
  rw [he]
  exact builtin_run _ (fun _ _ _ _ => rfl) o ho (by simp only [List.map_toArray, List.map_cons, List.map_nil, hx, hy]; exact hr)
variable {act : Nat → Bool} {S : Nat → Prop} {w1 w' : World} {l : List Nat}
theorem GI_cellA {T : TypeId} {b m : Nat} {L : List Value} (t : TypeId) (x : Operand) (o : Nat) (v : Value) (d : Option Tmp) (h : site ops e i = some (d, .load t x)) (hact : act i = true) (hK : Keep S w1 w) (hx : ev e x = .pointer (some ⟨b, o, none⟩)) (hb : Blk w b L T) (ht : tk P t = some (false, m)) (hv : L[o]? = some v)
  (k : GI P r n ds ops Q act S w1 l (putE n d v e) w) : GI P r n ds ops Q act S w1 (i :: l) e w :=
 GI_value d _ h hact (fun o' ho => by
  have hl := loads_cell (P := P) hb ht hv
  unfold Loads at hl
  unfold execOp
  simp only [ho, hx, Sem.run_bind, hl, Result.andThen, Sem.run_pure]) hK k
end
def joinPost (n : Nat) (ds : List Deferred) (J : World → Env → Prop) (Q : Post) : Post := fun x a w => match x with | .normal => ∃ e, J w e ∧ Has n ds e a | x => Q x a w
section
variable {P : Program} {r : Option Nat} {n : Nat} {ds : List Deferred} {Q : Post} {e : Env} {w : World} {c x y : Code} {J : World → Env → Prop}
theorem sure_join (h : Sure Q) : Sure (joinPost n ds J Q) := ⟨fun c a w => h.panic c a w, fun a w => h.outgrown a w⟩
end
section
variable {α : Type} {f : α → List Value} {xs : List α} {sz cap i : Nat} {w : World} {A : Option Addr}
theorem SlT.to (h : SlT w sz f A cap xs) (hi : i ≤ xs.length) : SlT w sz f A cap (xs.take i) := by
 rcases h with ⟨rfl, rfl, h0⟩ | ⟨b, o, L, T, rfl, hb, h1, h2, h3, h4⟩
 ·obtain rfl : xs = [] := by simpa using h0
  exact .inl ⟨rfl, rfl, by simp⟩
 ·have hm := h1
  rw [List.length_map] at hm
  refine .inr ⟨b, o, L, T, rfl, hb, by simp; omega, h2, ?_, fun e he => h4 e (by rw [List.map_take] at he; exact List.mem_of_mem_take he)⟩
  rw [List.length_map, List.length_take, Nat.min_eq_left hi, List.map_take, ← flatten_take h4, ← h3, List.take_take, List.length_map, Nat.min_eq_left (Nat.mul_le_mul_right _ hi)]
variable {P : Program} {e : Env}
end
theorem blkOf_inA {A : Option Addr} {m cap k : Nat} (h : blkOf (.slice A m cap) k) : inA A k := by
 cases A with
 | none => exact h.elim
 | some a => exact ⟨a, rfl, h⟩
theorem app_one {α : Type} {w w' : World} {sz cap : Nat} {A : Option Addr} {f : α → List Value} {xs : List α} {x : α} {v : Value} (h : Appended w sz (.slice A xs.length cap) xs.length (xs.flatMap f) (f x) 1 v w') (hs : ∀ x ∈ xs, (f x).length = sz) (hx : (f x).length = sz) :
  ∃ A' cap', v = .slice A' (xs ++ [x]).length cap' ∧ SlT w' sz f A' cap' (xs ++ [x]) ∧ Keep (inA A) w w' ∧ (∀ k, inA A' k → inA A k ∨ w.heap.size ≤ k) := by
 obtain ⟨A', cap', hv, h1, h2⟩ := SlT.of (f := f) (xs := xs ++ [x]) h.holds (by simp) (by simp) (by
  intro y hy
  rcases List.mem_append.1 hy with hy | hy
  ·exact hs y hy
  ·rw [List.mem_singleton.1 hy]; exact hx)
 refine ⟨A', cap', by rw [hv]; simp, h1, h.keep.mono (fun k _ hk => blkOf_inA hk), fun k hk => (h.own k (h2 k hk)).imp blkOf_inA id⟩
theorem over_mid {X Y Z : List Value} {k : Nat} {v : Value} (hk : k < Y.length) : over (X ++ (Y ++ Z)) (X.length + k) [v] = X ++ (over Y k [v] ++ Z) := by
 obtain ⟨Y1, y, Y2, rfl, hY1⟩ : ∃ Y1 y Y2, Y = Y1 ++ y :: Y2 ∧ Y1.length = k := ⟨Y.take k, Y[k], Y.drop (k + 1), by rw [← List.drop_eq_getElem_cons hk, List.take_append_drop], by simp; omega⟩
 have e1 : over (Y1 ++ y :: Y2) k [v] = Y1 ++ ([v] ++ Y2) := over_app' (Y := [y]) (by simp) hY1.symm rfl
 rw [e1]
 have e2 : over (X ++ ((Y1 ++ y :: Y2) ++ Z)) (X.length + k) [v] = (X ++ Y1) ++ ([v] ++ (Y2 ++ Z)) := over_app' (Y := [y]) (by simp) (by simp [hY1]) rfl
 rw [e2]
 simp
theorem At.set {α : Type} {w w' : World} {b o sz cap i k : Nat} {L : List Value} {T : TypeId} {f : α → List Value} {xs : List α} {x y : α} {v : Value} (h : At w b o L T sz cap (xs.map f)) (hx : xs[i]? = some x) (hk : k < sz) (hy : over (f x) k [v] = f y) (hB : Blk w' b (over L (o + i * sz + k) [v]) T) :
  At w' b o (over L (o + i * sz + k) [v]) T sz cap ((xs.set i y).map f) := by
 obtain ⟨hi, rfl⟩ := List.getElem?_eq_some_iff.1 hx
 have hlen : (f xs[i]).length = sz := h.sizes _ (List.mem_map.2 ⟨_, List.getElem_mem hi, rfl⟩)
 have hylen : (f y).length = sz := by rw [← hy, over_length (by simp; omega), hlen]
 obtain ⟨pre, C, hp, hL, hA, hB', hC⟩ := h.split i (by simp; omega)
 have hd : (xs.map f).drop i = f xs[i] :: (xs.map f).drop (i + 1) := by rw [List.drop_eq_getElem_cons (by simpa using hi)]; simp
 rw [hd, List.flatten_cons] at hL
 have eL : over L (o + i * sz + k) [v] = (pre ++ ((xs.map f).take i).flatten) ++ (f y ++ (((xs.map f).drop (i + 1)).flatten ++ C)) := by
  rw [hL, ← hy, show pre ++ (((xs.map f).take i).flatten ++ (f xs[i] ++ ((xs.map f).drop (i + 1)).flatten ++ C)) = (pre ++ ((xs.map f).take i).flatten) ++ (f xs[i] ++ (((xs.map f).drop (i + 1)).flatten ++ C)) by simp]
  rw [show o + i * sz + k = (pre ++ ((xs.map f).take i).flatten).length + k by rw [List.length_append, hA, hp]]
  exact over_mid (by omega)
 have hset : (xs.set i y).map f = (xs.map f).take i ++ f y :: (xs.map f).drop (i + 1) := by
  rw [List.set_eq_take_append_cons_drop, if_pos hi]; simp [List.map_take, List.map_drop]
 have hsz : ∀ e ∈ (xs.set i y).map f, e.length = sz := by
  intro e he
  rw [hset] at he
  rcases List.mem_append.1 he with he | he
  ·exact h.sizes e (List.mem_of_mem_take he)
  ·rcases List.mem_cons.1 he with rfl | he
   ·exact hylen
   ·exact h.sizes e (List.mem_of_mem_drop he)
 have hle := h.le
 have hro := h.room
 have hbound : (i + 1) * sz ≤ xs.length * sz := Nat.mul_le_mul_right _ hi
 have hcap : (xs.map f).length * sz ≤ cap * sz := Nat.mul_le_mul_right _ hle
 rw [List.length_map] at hcap hle
 rw [Nat.add_mul] at hbound
 refine ⟨hB, by simpa using hle, by rw [over_length (by simp; omega)]; exact hro, ?_, hsz⟩
 have hfl : ((xs.set i y).map f).flatten.length = xs.length * sz := by rw [flatten_len hsz]; simp
 rw [List.length_map, List.length_set, eL, List.append_assoc, drop_app' rfl hp.symm, hset]
 rw [hset] at hfl
 rw [show ((xs.map f).take i).flatten ++ (f y ++ (((xs.map f).drop (i + 1)).flatten ++ C)) = ((xs.map f).take i ++ f y :: (xs.map f).drop (i + 1)).flatten ++ C by simp]
 exact take_app' rfl hfl.symm
end Go.Al
namespace Go.Al
open Go Go.RowKit Go.ChangeShapes Go.WideShapes
inductive CK where
 | int (k : IntKind)
 | bool
 | str
def CK.fits : CK → Value → Prop
 | .int k, v => ∃ n, v = .int k n ∧ (Lit.int k n).wf = true
 | .bool, v => ∃ b, v = .bool b
 | .str, v => ∃ s, v = .string s
def Flat : List CK → List Value → Prop
 | [], [] => True
 | k :: ks, v :: vs => k.fits v ∧ Flat ks vs
 | _, _ => False
theorem Flat.append : ∀ {ks js : List CK} {vs us : List Value}, Flat ks vs → Flat js us → Flat (ks ++ js) (vs ++ us)
 | [], _, [], _, _, h => h
 | _ :: _, _, _ :: _, _, h, h' => ⟨h.1, h.2.append h'⟩
 | [], _, _ :: _, _, h, _ => h.elim
 | _ :: _, _, [], _, h, _ => h.elim
theorem Flat.length : ∀ {ks : List CK} {vs : List Value}, Flat ks vs → vs.length = ks.length
 | [], [], _ => rfl
 | _ :: _, _ :: _, h => by simp [h.2.length]
 | [], _ :: _, h => h.elim
 | _ :: _, [], h => h.elim
def flatFs (P : Program) (r : TypeId → Option (List CK)) : List Field → List CK → Option (List CK)
 | [], acc => some acc
 | f :: fs, acc => match r f.type with
  | some l => bif Nat.beq f.offset acc.length && Nat.beq (P.cellsOf f.type) l.length then flatFs P r fs (acc ++ l) else none
  | none => none
def flatK (P : Program) : Nat → TypeId → Option (List CK)
 | 0, _ => none
 | n + 1, t =>
  match P.underlying t with
  | some (.int k) => some [.int k]
  | some .bool => some [.bool]
  | some .string => some [.str]
  | some (.struct fs) => match flatFs P (flatK P n) fs.toList [] with
   | some l => bif Nat.beq (P.cellsOf t) l.length then some l else none
   | none => none
  | some (.array m e) => match flatK P n e with
   | some l => bif Nat.beq (P.cellsOf e) l.length && Nat.beq (P.cellsOf t) (m * l.length) then some (List.replicate m l).flatten else none
   | none => none
  | _ => none
section
variable {H : Type} {enc : TypeId × Value → H} {P : Program} {w : World} {base : Nat} {spare : Nat → Bool} {held : Bool}
theorem flatFs_ok {r : TypeId → Option (List CK)} {cs : List Value} (hr : ∀ t l vs, r t = some l → (∃ m x, DataW.trod enc P w base spare held m t vs = some x) → Flat l vs) :
  ∀ (fs : List Field) (acc l : List CK), flatFs P r fs acc = some l → (∀ f ∈ fs, ∃ m x, DataW.trod enc P w base spare held m f.type ((cs.drop f.offset).take (P.cellsOf f.type)) = some x) → Flat acc (cs.take acc.length) → Flat l (cs.take l.length)
 | [], acc, l, h, _, ha => by simp only [flatFs, Option.some.injEq] at h; subst h; exact ha
 | f :: fs, acc, l, h, hf, ha => by
  simp only [flatFs] at h
  cases hl : r f.type with
  | none => simp [hl] at h
  | some k =>
   simp only [hl] at h
   cases hc : (Nat.beq f.offset acc.length && Nat.beq (P.cellsOf f.type) k.length) with
   | false => simp [hc] at h
   | true =>
    simp only [hc, cond_true] at h
    simp only [Bool.and_eq_true, Nat.beq_eq] at hc
    have h1 := hr f.type k _ hl (hf f (List.mem_cons_self ..))
    rw [hc.1, hc.2] at h1
    refine flatFs_ok hr fs (acc ++ k) l h (fun g hg => hf g (List.mem_cons_of_mem _ hg)) ?_
    have h2 := ha.append h1
    rw [List.length_append]
    have e : cs.take (acc.length + k.length) = cs.take acc.length ++ (cs.drop acc.length).take k.length := List.take_add
    rw [e]; exact h2
theorem flatA_ok {l : List CK} : ∀ (m : Nat) (cs : List Value), cs.length = m * l.length → (∀ i, i < m → Flat l ((cs.drop (i * l.length)).take l.length)) → Flat (List.replicate m l).flatten cs
 | 0, cs, h, _ => by
  have : cs = [] := List.length_eq_zero_iff.1 (by simpa using h)
  subst this; exact trivial
 | m + 1, cs, h, hi => by
  rw [Nat.add_mul, Nat.one_mul] at h
  have h0 := hi 0 (Nat.succ_pos _)
  rw [Nat.zero_mul, List.drop_zero] at h0
  have hr := flatA_ok (l := l) m (cs.drop l.length) (by rw [List.length_drop]; omega) (fun i hlt => by
   have := hi (i + 1) (by omega)
   rw [List.drop_drop]
   rwa [Nat.add_mul, Nat.one_mul, Nat.add_comm] at this)
  rw [List.replicate_succ, List.flatten_cons, ← List.take_append_drop l.length cs]
  exact h0.append hr
theorem flat_trod : ∀ (n : Nat) (t : TypeId) (l : List CK) (cs : List Value), flatK P n t = some l → (∃ m x, DataW.trod enc P w base spare held m t cs = some x) → Flat l cs
 | 0, _, _, _, h, _ => by simp [flatK] at h
 | n + 1, t, l, cs, h, ⟨m, x, hx⟩ => by
  simp only [flatK] at h
  split at h
  ·rename_i k hu
   simp only [Option.some.injEq] at h; subst h
   obtain ⟨z, rfl, _, hw⟩ := DataW.trod_int hu hx
   exact ⟨⟨z, rfl, hw⟩, trivial⟩
  ·rename_i hu
   simp only [Option.some.injEq] at h; subst h
   cases m with
   | zero => simp [DataW.trod] at hx
   | succ m =>
    unfold DataW.trod at hx
    rw [hu] at hx
    split at hx <;> simp_all
    exact ⟨⟨_, rfl⟩, trivial⟩
  ·rename_i hu
   simp only [Option.some.injEq] at h; subst h
   obtain ⟨s, rfl, _⟩ := DataW.trod_string hu hx
   exact ⟨⟨s, rfl⟩, trivial⟩
  ·rename_i fs hu
   cases hl : flatFs P (flatK P n) fs.toList [] with
   | none => simp [hl] at h
   | some k =>
    simp only [hl] at h
    cases hc : Nat.beq (P.cellsOf t) k.length with
    | false => simp [hc] at h
    | true =>
     simp only [hc, cond_true, Option.some.injEq] at h
     subst h
     obtain ⟨xs, m', rfl, _, hlen, hxl, hf⟩ := DataW.trod_struct hu hx
     rw [Nat.beq_eq] at hc
     have := flatFs_ok (enc := enc) (w := w) (base := base) (spare := spare) (held := held) (cs := cs) (fun t l vs hl hx => flat_trod n t l vs hl hx) fs.toList [] k hl (fun f hf' => by
      obtain ⟨i, hi⟩ := List.mem_iff_getElem?.1 hf'
      have hi2 : fs[i]? = some f := by simpa using hi
      have h3 := hf i f hi2
      have hlt : i < xs.length := by rw [hxl]; exact (Array.getElem?_eq_some_iff.1 hi2).1
      rw [List.getElem?_eq_getElem hlt] at h3
      exact ⟨m', _, h3⟩) trivial
     rwa [List.take_of_length_le (by omega)] at this
  ·rename_i q e hu
   cases hl : flatK P n e with
   | none => simp [hl] at h
   | some k =>
    simp only [hl] at h
    cases hc : (Nat.beq (P.cellsOf e) k.length && Nat.beq (P.cellsOf t) (q * k.length)) with
    | false => simp [hc] at h
    | true =>
     simp only [hc, cond_true, Option.some.injEq] at h
     subst h
     simp only [Bool.and_eq_true, Nat.beq_eq] at hc
     obtain ⟨xs, m', rfl, _, hlen, hxl, hf⟩ := DataW.trod_array hu hx
     refine flatA_ok q cs (by omega) (fun i hi => ?_)
     have h3 := hf i hi
     rw [List.getElem?_eq_getElem (by omega), hc.1] at h3
     exact flat_trod n e k _ hl ⟨m', _, h3⟩
  ·cases h
def BlkR (w : World) (b : Nat) (l : List Value) : Prop := ∃ T f, w.heap[b]? = some (.cells l.toArray T f)
theorem Blk.r {w : World} {b : Nat} {l : List Value} {T : TypeId} (h : Blk w b l T) : BlkR w b l := ⟨T, _, h⟩
theorem BlkR.lt {w : World} {b : Nat} {l : List Value} (h : BlkR w b l) : b < w.heap.size := by obtain ⟨T, f, h⟩ := h; exact (Array.getElem?_eq_some_iff.1 h).1
theorem BlkR.keep {S : Nat → Prop} {w w' : World} {b : Nat} {l : List Value} (h : BlkR w b l) (k : Keep S w w') (hS : ¬ S b) : BlkR w' b l := by
 have hlt := h.lt
 obtain ⟨T, f, h⟩ := h
 exact ⟨T, f, (k.block b hlt hS).trans h⟩
theorem blkR_cell {w : World} {b : Nat} {l : List Value} (h : BlkR w b l) (o : Nat) : w.cell? ⟨b, o, none⟩ = l[o]? := by
 obtain ⟨T, f, h⟩ := h
 simp [World.cell?, h]
structure AtR (w : World) (b o : Nat) (L : List Value) (sz cap : Nat) (es : List (List Value)) : Prop where
 blk : BlkR w b L
 elem' : ∀ (i : Nat) e, es[i]? = some e → (L.drop (o + i * sz)).take sz = e
 sizes : ∀ e ∈ es, e.length = sz
theorem AtR.keep {S : Nat → Prop} {w w' : World} {sz cap b o : Nat} {L : List Value} {es : List (List Value)} (h : AtR w b o L sz cap es) (hk : Keep S w w') (hS : ¬ S b) : AtR w' b o L sz cap es := ⟨h.blk.keep hk hS, h.elem', h.sizes⟩
theorem AtR.cell {w : World} {sz cap b o i f : Nat} {L e : List Value} {v : Value} {es : List (List Value)} (h : AtR w b o L sz cap es) (hi : es[i]? = some e) (hf : e[f]? = some v) : L[o + i * sz + f]? = some v := by
 have h1 := h.elem' i e hi
 have hl := h.sizes e (List.mem_of_getElem? hi)
 have hf' : f < sz := by rw [← hl]; exact (List.getElem?_eq_some_iff.1 hf).1
 rw [← h1, List.getElem?_take, if_pos hf', List.getElem?_drop] at hf
 exact hf
theorem AtR.cell0 {w : World} {sz cap b o i : Nat} {L e : List Value} {v : Value} {es : List (List Value)} (h : AtR w b o L sz cap es) (hi : es[i]? = some e) (hf : e[0]? = some v) : L[o + i * sz]? = some v := h.cell hi hf
theorem AtR.len {w : World} {sz cap b o i : Nat} {L e : List Value} {es : List (List Value)} (h : AtR w b o L sz cap es) (hi : es[i]? = some e) : e.length = sz := h.sizes e (List.mem_of_getElem? hi)
def ArgT {α : Type} (w : World) (sz : Nat) (f : α → List Value) (A : Option Addr) (cap : Nat) (xs : List α) : Prop := xs = [] ∨ ∃ b o L, A = some ⟨b, o, none⟩ ∧ AtR w b o L sz cap (xs.map f)
theorem ArgT.keep0 {α : Type} {w w' : World} {sz cap : Nat} {f : α → List Value} {A : Option Addr} {xs : List α} (h : ArgT w sz f A cap xs) (hk : Keep none_ w w') : ArgT w' sz f A cap xs := by
 rcases h with h | ⟨b, o, L, h1, h2⟩
 ·exact .inl h
 ·exact .inr ⟨b, o, L, h1, h2.keep hk (fun f => f)⟩
theorem ArgT.keep {α : Type} {S : Nat → Prop} {w0 w w' : World} {sz cap : Nat} {f : α → List Value} {A : Option Addr} {xs : List α} (h : ArgT w sz f A cap xs) (hk : Keep S w w') (hA : ArgT w0 sz f A cap xs) (hS : ∀ k, k < w0.heap.size → ¬ S k) : ArgT w' sz f A cap xs := by
 rcases h with h | ⟨b, o, L, h1, h2⟩
 ·exact .inl h
 ·rcases hA with h | ⟨b', o', L', h1', h2'⟩
  ·exact .inl h
  ·rw [h1] at h1'; cases h1'
   exact .inr ⟨b, o, L, h1, h2.keep hk (hS b h2'.blk.lt)⟩
theorem ArgT.open_ {α : Type} {w : World} {sz cap : Nat} {f : α → List Value} {A : Option Addr} {xs : List α} (h : ArgT w sz f A cap xs) (hi : 0 < xs.length) : ∃ b o L, A = some ⟨b, o, none⟩ ∧ AtR w b o L sz cap (xs.map f) := by
 rcases h with rfl | h
 ·simp at hi
 ·exact h
theorem ArgT.lt {α : Type} {w : World} {sz cap b o : Nat} {f : α → List Value} {xs : List α} (h : ArgT w sz f (some ⟨b, o, none⟩) cap xs) (hi : 0 < xs.length) : b < w.heap.size := by
 obtain ⟨b', o', L, h1, h2⟩ := h.open_ hi
 cases h1
 exact h2.blk.lt
theorem read_slice {t e : TypeId} {ks : List CK} {n sz : Nat} {A : Option Addr} {len cap : Nat} {d : DataW H} {ps : List MemPlace} (ht : P.underlying t = some (.slice e)) (hk : flatK P n e = some ks) (hc : P.cellsOf e = ks.length) (hsz : ks.length = sz) (hk0 : 0 < ks.length)
  (h : DataW.Trod enc P w 0 (fun _ => true) true t (.slice A len cap) d ps) : ∃ xs : List (List Value), xs.length = len ∧ (∀ x ∈ xs, Flat ks x) ∧ ArgT w sz id A cap xs ∧ len ≤ cap ∧ cap ≤ maxLen := by
 subst hsz
 obtain ⟨fuel, hf⟩ := h
 rcases Deep.open_slice ht hf with ⟨hcs, _⟩ | ⟨a, len', cap', m, n', D, Pl, hcs, _, hl, hm, hmm, _, hx⟩
 ·simp [Value.cells] at hcs
  obtain ⟨rfl, rfl, rfl⟩ := hcs
  exact ⟨[], rfl, fun x hx => (by cases hx), .inl rfl, Nat.le_refl _, Nat.zero_le _⟩
 ·simp [Value.cells] at hcs
  obtain ⟨rfl, rfl, rfl⟩ := hcs
  simp only [if_true] at hmm
  subst hmm
  rcases Nat.eq_zero_or_pos len with h0 | h0
  ·subst h0
   exact ⟨[], rfl, fun x hx => (by cases hx), .inl rfl, hl, hm⟩
  have hflat : ∀ i, i < len → ∃ cs, w.cells? 0 (a.add (i * ks.length)) ks.length = some cs ∧ Flat ks cs := by
   intro i hi
   obtain ⟨cs, h1, h2⟩ := hx i (by omega)
   rw [hc] at h1
   exact ⟨cs, h1, flat_trod n e ks cs hk ⟨_, _, h2⟩⟩
  obtain ⟨V, hV⟩ : ∃ V : Nat → List Value, ∀ i, i < len → w.cells? 0 (a.add (i * ks.length)) ks.length = some (V i) ∧ Flat ks (V i) :=
   ⟨fun i => if h : i < len then Classical.choose (hflat i h) else [], fun i hi => by simp only [hi, dif_pos]; exact Classical.choose_spec (hflat i hi)⟩
  refine ⟨(List.range len).map V, by simp, ?_, ?_, hl, hm⟩
  ·intro x hx
   obtain ⟨i, hi, rfl⟩ := List.mem_map.1 hx
   exact (hV i (List.mem_range.1 hi)).2
  ·right
   ·skip
    obtain ⟨hc0, _⟩ := hV 0 h0
    obtain ⟨_, hl0, hcell⟩ := World.cells?_some hc0
    have h00 := hcell 0 hk0
    rw [Nat.zero_mul] at h00
    have hadd : (a.add 0).add 0 = a := by simp [Addr.add]
    rw [hadd] at h00
    have hsome : ∃ v, w.cell? a = some v := by rw [h00]; exact ⟨_, List.getElem?_eq_getElem (by omega)⟩
    obtain ⟨v, hv⟩ := hsome
    obtain ⟨b, o, sp⟩ := a
    unfold World.cell? at hv
    simp only at hv
    split at hv
    ·rename_i c T f hb
     split at hv
     ·cases hv
     ·rename_i hsp
      obtain rfl : sp = none := by cases sp <;> simp_all
      refine ⟨b, o, c.toList, rfl, ⟨⟨T, f, by simpa using hb⟩, ?_, ?_⟩⟩
      ·intro i e he
       simp only [List.map_id, List.getElem?_map] at he
       obtain ⟨j, hj, rfl⟩ := Option.map_eq_some_iff.1 he
       obtain ⟨hlt, rfl⟩ := List.getElem?_eq_some_iff.1 hj
       simp only [List.length_range] at hlt
       simp only [List.getElem_range]
       obtain ⟨_, hli, hci⟩ := World.cells?_some (hV i hlt).1
       apply List.ext_getElem?
       intro q
       rw [List.getElem?_take]
       split
       ·rename_i hq
        have := hci q hq
        rw [add_plain, add_plain] at this
        rw [← this, List.getElem?_drop]
        simp [World.cell?, hb]
       ·rename_i hq
        rw [List.getElem?_eq_none (by omega)]
      ·intro e he
       simp only [List.map_id] at he
       obtain ⟨i, hi, rfl⟩ := List.mem_map.1 he
       exact (hV i (List.mem_range.1 hi)).2.length
    ·cases hv
end
theorem lift_all {α : Type} {f : α → List Value} {ks : List CK} (hf : ∀ x, Flat ks x → ∃ y, f y = x) : ∀ xs : List (List Value),(∀ x ∈ xs, Flat ks x) → ∃ ys : List α, ys.map f = xs
 | [], _ => ⟨[], rfl⟩
 | x :: xs, h => by
  obtain ⟨y, hy⟩ := hf x (h x (List.mem_cons_self ..))
  obtain ⟨ys, hys⟩ := lift_all hf xs (fun z hz => h z (List.mem_cons_of_mem _ hz))
  exact ⟨y :: ys, by simp [hy, hys]⟩
theorem ArgT.conv {α : Type} {w : World} {sz cap : Nat} {f : α → List Value} {A : Option Addr} {ys : List α} (h : ArgT w sz id A cap (ys.map f)) : ArgT w sz f A cap ys := by
 rcases h with h | ⟨b, o, L, h1, h2⟩
 ·exact .inl (by simpa using h)
 ·exact .inr ⟨b, o, L, h1, by simpa using h2⟩
theorem read_elems {H : Type} {enc : TypeId × Value → H} {P : Program} {w : World} {α : Type} {f : α → List Value} {t e : TypeId} {ks : List CK} {n sz : Nat} {A : Option Addr} {len cap : Nat} {d : DataW H} {ps : List MemPlace} (hf : ∀ x, Flat ks x → ∃ y, f y = x) (ht : P.underlying t = some (.slice e)) (hk : flatK P n e = some ks) (hc : P.cellsOf e = ks.length) (hsz : ks.length = sz) (hk0 : 0 < ks.length)
  (h : DataW.Trod enc P w 0 (fun _ => true) true t (.slice A len cap) d ps) : ∃ xs : List α, xs.length = len ∧ ArgT w sz f A cap xs ∧ len ≤ cap ∧ cap ≤ maxLen := by
 obtain ⟨xs, h1, h2, h3, h4, h5⟩ := read_slice ht hk hc hsz hk0 h
 obtain ⟨ys, rfl⟩ := lift_all hf xs h2
 exact ⟨ys, by simpa using h1, h3.conv, h4, h5⟩
theorem loads_cellR {P : Program} {w : World} {t : TypeId} {b o n : Nat} {l : List Value} {v : Value} (h : BlkR w b l) (ht : tk P t = some (false, n)) (hv : l[o]? = some v) : Loads P w t ⟨b, o, none⟩ v := by
 unfold Loads Instr.loadAt Instr.sureAddr loadVar load
 have hc := blkR_cell h o
 rw [hv] at hc
 simp [Sem.run_bind, (tk_agg ht w).1, Result.andThen, Sem.run, hc]
theorem loads_aggR {P : Program} {w : World} {t : TypeId} {b o n : Nat} {l cs : List Value} (h : BlkR w b l) (ht : tk P t = some (true, n)) (hc : (l.drop o).take n = cs) (hn : cs.length = n) : Loads P w t ⟨b, o, none⟩ (.agg cs.toArray) := by
 subst hc
 have hl : (loadCells ⟨b, o, none⟩ ((l.drop o).take n).length).run P w = .ok ((l.drop o).take n).toArray w :=
  run_loadCells_list (P := P) w ⟨b, o, none⟩ _ (fun j v hv => by
   rw [add_plain, blkR_cell h]
   rw [List.getElem?_take] at hv
   split at hv
   ·rw [List.getElem?_drop] at hv; exact hv
   ·cases hv)
 rw [hn] at hl
 unfold Loads Instr.loadAt Instr.sureAddr loadVar
 simp [Sem.run_bind, (tk_agg ht w).1, (tk_agg ht w).2, Result.andThen, hl]
section
variable {P : Program} {r : Option Nat} {n : Nat} {ds : List Deferred} {ops : Array Oper} {Q : Post} {act : Nat → Bool} {S : Nat → Prop} {w1 : World} {i : Nat} {l : List Nat} {e : Env} {w : World}
theorem OI_cellR {b m : Nat} {L : List Value} (t : TypeId) (x : Operand) (o : Nat) (v : Value) (d : Option Tmp) (h : site ops e i = some (d, .load t x)) (hx : ev e x = .pointer (some ⟨b, o, none⟩)) (hb : BlkR w b L) (ht : tk P t = some (false, m)) (hv : L[o]? = some v)
  (k : OI P r n ds ops Q (i + 1) (putE n d v e) w) : OI P r n ds ops Q i e w := OI_load d h hx (loads_cellR hb ht hv) k
theorem OI_aggR {b m : Nat} {L : List Value} (t : TypeId) (x : Operand) (o : Nat) (cs : List Value) (d : Option Tmp) (h : site ops e i = some (d, .load t x)) (hx : ev e x = .pointer (some ⟨b, o, none⟩)) (hb : BlkR w b L) (ht : tk P t = some (true, m)) (hv : (L.drop o).take m = cs) (hm : cs.length = m)
  (k : OI P r n ds ops Q (i + 1) (putE n d (.agg cs.toArray) e) w) : OI P r n ds ops Q i e w := OI_load d h hx (loads_aggR hb ht hv hm) k
theorem GI_cellR {b m : Nat} {L : List Value} (t : TypeId) (x : Operand) (o : Nat) (v : Value) (d : Option Tmp) (h : site ops e i = some (d, .load t x)) (hact : act i = false) (hx : ev e x = .pointer (some ⟨b, o, none⟩)) (hb : BlkR w1 b L) (hS : ¬ S b) (ht : tk P t = some (false, m)) (hv : L[o]? = some v)
  (k : GI P r n ds ops Q act S w1 l (putE n d v e) w) : GI P r n ds ops Q act S w1 (i :: l) e w :=
 GI_quiet d _ h hact (fun o' _ ho w' hw' => by
  replace hw' : Keep S w1 w' := hw'.resolve_right (by unfold noLoad; rw [ho]; exact Bool.false_ne_true)
  have hl := loads_cellR (P := P) (hb.keep hw' hS) ht hv
  unfold Loads at hl
  unfold execOp
  simp only [ho, hx, Sem.run_bind, hl, Result.andThen, Sem.run_pure]) k
theorem GI_aggR {b m : Nat} {L : List Value} (t : TypeId) (x : Operand) (o : Nat) (cs : List Value) (d : Option Tmp) (h : site ops e i = some (d, .load t x)) (hact : act i = false) (hx : ev e x = .pointer (some ⟨b, o, none⟩)) (hb : BlkR w1 b L) (hS : ¬ S b) (ht : tk P t = some (true, m)) (hv : (L.drop o).take m = cs) (hm : cs.length = m)
  (k : GI P r n ds ops Q act S w1 l (putE n d (.agg cs.toArray) e) w) : GI P r n ds ops Q act S w1 (i :: l) e w :=
 GI_quiet d _ h hact (fun o' _ ho w' hw' => by
  replace hw' : Keep S w1 w' := hw'.resolve_right (by unfold noLoad; rw [ho]; exact Bool.false_ne_true)
  have hl := loads_aggR (P := P) (hb.keep hw' hS) ht hv hm
  unfold Loads at hl
  unfold execOp
  simp only [ho, hx, Sem.run_bind, hl, Result.andThen, Sem.run_pure]) k
end
def bAnd (x y : Int) : Int := i64.wrap ((BitVec.ofInt 64 x &&& BitVec.ofInt 64 y).toNat : Int)
theorem bAnd_le (x : Int) (m : Nat) (hm : m < 9223372036854775808) : 0 ≤ bAnd x (m : Int) ∧ bAnd x (m : Int) ≤ m := by
 unfold bAnd
 have h1 : (BitVec.ofInt 64 x &&& BitVec.ofInt 64 (m : Int)).toNat ≤ m := by
  rw [BitVec.toNat_and]
  refine Nat.le_trans Nat.and_le_right ?_
  rw [BitVec.toNat_ofInt]
  have : ((m : Int) % (2 ^ 64 : Nat)).toNat = m := by
   rw [Int.emod_eq_of_lt (by omega) (by omega)]; omega
  omega
 rw [wrapN (by omega)]
 omega
theorem over_whole {l cs : List Value} (h : l.length = cs.length) : over l 0 cs = cs := by
 unfold over
 rw [List.take_zero, List.nil_append, Nat.zero_add, ← h, List.drop_length, List.append_nil]
end Go.Al
namespace Go.Al
open Go Go.RowKit
def lb (N : Nat) (W : World) : Nat → Prop := fun k => N ≤ k ∧ ∀ c t f, W.heap[k]? ≠ some (Obj.cells c t f)
def Quiet (N : Nat) (J : World → Prop) : Prop := ∀ W W', J W → Keep (lb N W) W W' → J W'
theorem lb_mono {N N' : Nat} {W : World} {k : Nat} (hN : N ≤ N') (h : lb N' W k) : lb N W k := ⟨Nat.le_trans hN h.1, h.2⟩
theorem Quiet.mono {N N' : Nat} {J : World → Prop} (h : Quiet N J) (hN : N ≤ N') : Quiet N' J := fun W W' hj hk => h W W' hj (hk.mono fun _ _ hs => lb_mono hN hs)
theorem lb_blk {N : Nat} {W : World} {b : Nat} {l : List Value} {T : TypeId} (h : Blk W b l T) : ¬ lb N W b := fun hs => hs.2 _ _ _ h
theorem lb_blkR {N : Nat} {W : World} {b : Nat} {l : List Value} (h : BlkR W b l) : ¬ lb N W b := fun hs => by obtain ⟨T, f, h⟩ := h; exact hs.2 _ _ _ h
theorem Blk.quiet {N : Nat} {W W' : World} {b : Nat} {l : List Value} {T : TypeId} (h : Blk W b l T) (k : Keep (lb N W) W W') : Blk W' b l T := h.keep k (lb_blk h)
theorem SlT.quiet {α : Type} {N : Nat} {W W' : World} {sz cap : Nat} {f : α → List Value} {A : Option Addr} {xs : List α} (h : SlT W sz f A cap xs) (k : Keep (lb N W) W W') : SlT W' sz f A cap xs := by
 rcases h with h | ⟨b, o, L, T, rfl, hb, h1, h2, h3, h4⟩
 ·exact .inl h
 ·exact .inr ⟨b, o, L, T, rfl, hb.quiet k, h1, h2, h3, h4⟩
theorem ArgT.quiet {α : Type} {N : Nat} {W W' : World} {sz cap : Nat} {f : α → List Value} {A : Option Addr} {xs : List α} (h : ArgT W sz f A cap xs) (k : Keep (lb N W) W W') : ArgT W' sz f A cap xs := by
 rcases h with h | ⟨b, o, L, h1, h2⟩
 ·exact .inl h
 ·exact .inr ⟨b, o, L, h1, h2.keep k (lb_blkR h2.blk)⟩
theorem Keep.quiet {S : Nat → Prop} {N : Nat} {w W W' : World} (h : Keep S w W) (k : Keep (lb N W) W W') (hN : w.heap.size ≤ N) : Keep S w W' := h.fresh k (fun i hi hs => absurd hs.1 (by omega))
def Yields (P : Program) (l : Nat) (args : Array Value) (W : World) (R : Ending → World → Prop) : Prop :=
 ∃ f tmps assign body, (Instr.yield l args).run P W = .ok (.round l f tmps assign body) W ∧ RoundIn (FR none) 0 P l f tmps assign body W R
def yielder (e : Env) (c : Call) : Option (Nat × Array Value) :=
 match c.callee with
 | .value f => match ev e f with | .func (.yield l) first _ => some (l, first ++ c.args.map (ev e)) | _ => none
 | _ => none
def Iter (P : Program) (gf : FuncId) (caps : Array Value) (m : Nat) (enc : Nat → Array Value) (Pre Ok : World → Prop) : Prop :=
 ∀ (l : Nat) (J Jx : Nat → World → Prop) (W : World), Pre W → (∀ k, Quiet W.heap.size (J k)) → (∀ k, Quiet W.heap.size (Jx k)) →
  (∀ k W1, k < m → J k W1 → Yields P l (enc k) W1 fun e W' => (e = .returned (.bool true) ∧ J (k + 1) W') ∨ (e = .returned (.bool false) ∧ Jx (k + 1) W')) →
  (∀ k W1, J k W1 → Ok W1) → J 0 W →
  Calls P gf (#[.func (.yield l) #[] #[]] ++ caps) W fun e W' => (∃ v, e = .returned v) ∧ (J m W' ∨ ∃ k, k ≤ m ∧ Jx k W')
section
variable {P : Program} {r : Option Nat} {n : Nat} {ds : List Deferred} {ops : Array Oper} {Q : Post} {i : Nat} {e : Env} {w : World}
theorem yield_run {c : Call} {l : Nat} {args : Array Value} {x : Next} (h : yielder e c = some (l, args)) (hy : (Instr.yield l args).run P w = .ok x w) (o : Oper) (ho : o.op = .call c) : (execOp (ev e) o).run P w = .ok x w := by
 unfold yielder at h
 unfold execOp
 simp only [ho]
 unfold resolve
 split at h
 ·rename_i g hg
  split at h
  ·rename_i l' first cap hv
   simp only [Option.some.injEq, Prod.mk.injEq] at h
   obtain ⟨rfl, rfl⟩ := h
   simp only [hg, hv, Deferred.ofValue, Sem.run_bind, Sem.run_pure, Result.andThen, invoke]
   exact hy
  ·cases h
 ·cases h
theorem OI_yield {R : Ending → World → Prop} (c : Call) (l : Nat) (args : Array Value) (d : Option Tmp) (h : site ops e i = some (d, .call c)) (hc : yielder e c = some (l, args)) (hR : Yields P l args w R)
  (k : ∀ e' w', R e' w' → ∃ v, e' = .returned v ∧ OI P r n ds ops Q (i + 1) (putE n d v e) w') : OI P r n ds ops Q i e w :=
 OI_do h fun o _ ho hd a ha he => by
  obtain ⟨f, tmps, assign, body, hy, hrd⟩ := hR
  refine does_round (by rw [he]; exact yield_run hc hy o ho) (RoundIn.mono hrd fun e' w' hr => ?_)
  obtain ⟨v, hv, hk⟩ := k e' w' hr
  exact ⟨v, hv, by rw [hd]; exact hk _ (ha.put d v)⟩
end
def putPs (n : Nat) : List Tmp → List Value → Env → Env
 | p :: ps, v :: vs, e => putPs n ps vs (putE n (some p) v e)
 | _, _, e => e
theorem putPs_has {n : Nat} : ∀ (ps : List Tmp) (vs : List Value) (e : Env) (t : Array Value), Has n [] e { tmps := t, defers := [] } →
  Has n [] (putPs n ps vs e) { tmps := ((ps.zip vs).foldl (fun t (p, v) => t.setIfInBounds p v) t), defers := [] }
 | [], _, _, _, h => by simpa [putPs] using h
 | _ :: _, [], _, _, h => by simpa [putPs] using h
 | p :: ps, v :: vs, e, t, h => by
  simp only [putPs, List.zip_cons_cons, List.foldl_cons]
  exact putPs_has ps vs _ _ (h.put (some p) v)
def same2 (l D : Nat) (W W' : World) : Prop := W'.heap[l]? = W.heap[l]? ∧ W'.heap[D]? = W.heap[D]?
theorem Keep.same2 {S : Nat → Prop} {W W' : World} {l D : Nat} (h : Keep S W W') (hl : l < W.heap.size) (hD : D < W.heap.size) (h1 : ¬ S l) (h2 : ¬ S D) : same2 l D W W' := ⟨h.block l hl h1, h.block D hD h2⟩
def noPost : Post := fun _ _ _ => False
theorem sure_no : Sure noPost := ⟨fun _ _ _ h => h.elim, fun _ _ h => h.elim⟩
def mark (D : Nat) : Deferred := { target := .collected D, args := #[] }
section
variable {P : Program} {n : Nat} {ds : List Deferred} {Q : Post} {e : Env} {w : World} {assign body : Code}
end
def postM (P : Program) (fn : Func) (R : Ending → World → Prop) : Post := fun x a w =>
 match x with
 | .normal => LeavesInM (FR none) 0 P fn a.tmps R a.defers .returning w
 | .ret => LeavesInM (FR none) 0 P fn a.tmps R a.defers .returning w
 | _ => False
section
variable {P : Program} {fn : Func} {R : Ending → World → Prop} {n : Nat} {e : Env} {w : World}
theorem enterM {f : FuncId} {c : Code} {args : Array Value} (hf : P.funcs[f]? = some fn) (hb : fn.body = some c) (l : List Value) (n : Nat)
  (hl : args = l.toArray) (hn : fn.ntmps = n) (hle : Nat.ble l.length n = true) (h : V P none n [] c (postM P fn R) (zipE 0 l) w) : Calls P f args w R := by
 subst hl
 replace hle := Nat.le_of_ble_eq_true hle
 refine calls_of_FR (r := none) (n := 0) (callsIn_of_wp_marks hf hb trivial (W_mono (h _ ⟨?_, rfl, ?_⟩) (fun x a w hx => by cases x <;> first | exact hx | exact hx.elim)))
 ·simp; omega
 ·intro i v hi
  obtain ⟨_, h2⟩ := look_zipE l 0 i v hi
  rw [Nat.sub_zero] at h2
  have hlt := (List.getElem?_eq_some_iff.1 h2).1
  simp only [Array.getElem?_append, List.size_toArray, hlt, if_true]
  simpa using h2
def Res (P : Program) (fn : Func) (n : Nat) (e : Env) (w : World) (v : Value) : Prop := ∀ tmps : Array Value, tmps.size = n → (∀ i u, look e i = some u → tmps[i]? = some u) → (results fn tmps).run P w = .ok v w
theorem res_tmps {v : Value} (h : resE fn e = some v) : Res P fn n e w v := fun tmps hs ht => resE_run (a := { tmps := tmps, defers := [] }) (ds := []) ⟨hs, rfl, ht⟩ h w
theorem leave0 {x : Exit} (v : Value) (hx : x = .ret ∨ x = .normal) (h : Res P fn n e w v) (hR : R (.returned v) w) : XV n [] x (postM P fn R) e w := fun a ha => by
 have h1 := h a.tmps ha.size ha.at_
 rcases hx with rfl | rfl
 ·show LeavesInM (FR none) 0 P fn a.tmps R a.defers .returning w
  rw [ha.defers]; exact ⟨v, h1, hR⟩
 ·show LeavesInM (FR none) 0 P fn a.tmps R a.defers .returning w
  rw [ha.defers]; exact ⟨v, h1, hR⟩
theorem leave1 {x : Exit} {D : Nat} (v : Value) (hx : x = .ret ∨ x = .normal) (hD : w.heap[D]? = some (.deferred (some []))) (h : ∀ w', Keep (lb D w) w w' → Res P fn n e w' v ∧ R (.returned v) w') : XV n [mark D] x (postM P fn R) e w := fun a ha => by
 have hlt : D < w.heap.size := (Array.getElem?_eq_some_iff.1 hD).1
 have hk : Keep (lb D w) w (turned w D (.deferred none)) := (turned_keep (by intro c t f h; cases h)).mono (fun i _ hi => by
  rw [show i = D from hi]
  exact ⟨Nat.le_refl _, fun c t f hh => by rw [hD] at hh; cases hh⟩)
 obtain ⟨h1, hR⟩ := h _ hk
 have h2 := h1 a.tmps ha.size ha.at_
 have key : LeavesInM (FR none) 0 P fn a.tmps R a.defers .returning w := by
  rw [ha.defers]
  exact ⟨by simp, .inl ⟨D, _, rfl, run_takeDeferred hD, v, h2, hR⟩⟩
 rcases hx with rfl | rfl
 ·exact key
 ·exact key
theorem sure_postM : Sure (postM P fn R) := ⟨fun _ _ _ h => h.elim, fun _ _ h => h.elim⟩
end
end Go.Al
namespace Go.Al
open Go Go.RowKit
def fen (N N1 : Nat) : Nat → Prop := fun k => k < N ∨ N1 ≤ k
def Iter2 (P : Program) (gf : FuncId) (caps : Array Value) (m : Nat) (enc : Nat → Array Value) (Pre Ok : World → Prop) : Prop :=
 ∀ (l : Nat) (J Jx : Nat → Nat → World → Prop) (W : World), Pre W → (∀ N1 k, Quiet W.heap.size (J N1 k)) → (∀ N1 k, Quiet W.heap.size (Jx N1 k)) →
  (∀ N1 k W1, W.heap.size ≤ N1 → N1 ≤ W1.heap.size → k < m → J N1 k W1 → Yields P l (enc k) W1 fun e W' => Keep (fen W.heap.size N1) W1 W' ∧ ((e = .returned (.bool true) ∧ J N1 (k + 1) W') ∨ (e = .returned (.bool false) ∧ Jx N1 (k + 1) W'))) →
  (∀ N1 k W1, J N1 k W1 → Ok W1) → (∀ N1, W.heap.size ≤ N1 → J N1 0 W) →
  Calls P gf (#[.func (.yield l) #[] #[]] ++ caps) W fun e W' => (∃ v, e = .returned v) ∧ ∃ N1, W.heap.size ≤ N1 ∧ (J N1 m W' ∨ ∃ k, k ≤ m ∧ Jx N1 k W')
theorem Yields.mono {P : Program} {l : Nat} {args : Array Value} {W : World} {R R' : Ending → World → Prop} (h : Yields P l args W R) (hR : ∀ e w, R e w → R' e w) : Yields P l args W R' := by
 obtain ⟨f, t, a, b, h1, h2⟩ := h
 exact ⟨f, t, a, b, h1, RoundIn.mono h2 hR⟩
theorem Iter.to2 {P : Program} {gf : FuncId} {caps : Array Value} {m : Nat} {enc : Nat → Array Value} {Pre Ok : World → Prop} (h : Iter P gf caps m enc Pre Ok) : Iter2 P gf caps m enc Pre Ok := by
 intro l J Jx W hP hJ hJx hY hOk h0
 refine (h l (fun k W1 => W.heap.size ≤ W1.heap.size ∧ J W.heap.size k W1) (fun k W1 => Jx W.heap.size k W1) W hP (fun k W1 W2 hj hk => ⟨Nat.le_trans hj.1 hk.size, hJ _ _ _ _ hj.2 hk⟩) (fun k => hJx _ _) ?_ (fun k W1 hj => hOk _ _ _ hj.2) ⟨Nat.le_refl _, h0 _ (Nat.le_refl _)⟩).mono ?_
 ·intro k W1 hk hj
  refine (hY _ k W1 (Nat.le_refl _) hj.1 hk hj.2).mono ?_
  rintro e W' ⟨hk, (⟨h1, h2⟩ | h2)⟩
  ·exact .inl ⟨h1, Nat.le_trans hj.1 hk.size, h2⟩
  ·exact .inr h2
 ·rintro e W' ⟨hv, (h1 | h1)⟩
  ·exact ⟨hv, _, Nat.le_refl _, .inl h1.2⟩
  ·exact ⟨hv, _, Nat.le_refl _, .inr h1⟩
theorem Keep.fen_same {n0 N1 : Nat} {W W1 : World} {l D : Nat} {r : Loop} {d : Option (List Deferred)} (h : Keep (fen n0 N1) W W1) (hl : W.heap[l]? = some (.loop r)) (hD : W.heap[D]? = some (.deferred d)) (h1 : D = n0) (h2 : l = n0 + 1) (h3 : n0 + 2 ≤ N1) : Al.same2 l D W W1 :=
 h.same2 (Array.getElem?_eq_some_iff.1 hl).1 (Array.getElem?_eq_some_iff.1 hD).1 (by show ¬ (_ ∨ _); omega) (by show ¬ (_ ∨ _); omega)
def rQ2 (M N1 : Nat) (J : Nat → World → Prop) (Jx : Code → Nat → World → Prop) (k : Nat) (W : World) : Post := fun x _ W' =>
 match x with
 | .normal => Keep (fen M N1) W W' ∧ J (k + 1) W'
 | .ret => Keep (fen M N1) W W' ∧ Jx .ret (k + 1) W'
 | .exit id => Keep (fen M N1) W W' ∧ Jx (.exit id) (k + 1) W'
 | _ => False
theorem sure_rQ2 {M N1 k : Nat} {J : Nat → World → Prop} {Jx : Code → Nat → World → Prop} {W : World} : Sure (rQ2 M N1 J Jx k W) := ⟨fun _ _ _ h => h.elim, fun _ _ h => h.elim⟩
def beginK2 (P : Program) (M N1 l D : Nat) (body : Code) (J : Nat → World → Prop) (Jx : Code → Nat → World → Prop) (k : Nat) (W : World) (a1 : Act) (W1 : World) : Prop :=
 Keep (fen M N1) W W1 ∧ ∀ W2, Keep (lb M W1) W1 W2 → (∃ r, W2.heap[l]? = some (.loop r)) → W2.heap[D]? = W1.heap[D]? → Al.W P (some l) body (rQ2 M N1 J Jx k W2) a1 W2
section
variable {P : Program} {n : Nat} {ds : List Deferred} {Q : Post} {e : Env} {w : World} {assign body : Code}
theorem X_begin2 {M N1 l D k : Nat} {J : Nat → World → Prop} {Jx : Code → Nat → World → Prop} {W W1 : World} (hs : Keep (fen M N1) W W1) (h : ∀ W2, Keep (lb M W1) W1 W2 → (∃ r, W2.heap[l]? = some (.loop r)) → W2.heap[D]? = W1.heap[D]? → V P (some l) n [] body (rQ2 M N1 J Jx k W2) e W2) :
  XV n [] .normal (Exit.then (beginK2 P M N1 l D body J Jx k W) noPost) e W1 := fun a ha => ⟨hs, fun W2 h1 h2 h3 => h W2 h1 h2 h3 a ha⟩
theorem V_range2 {g : Operand} {ps : Array Tmp} {gf : FuncId} {caps : Array Value} {m : Nat} {enc : Nat → Array Value} {Pre Ok : World → Prop} (hg : ev e g = .func (.func gf) #[] caps) (hr : readable e g = true) (hb : bodied P gf = true) (hit : Iter2 P gf caps m enc Pre Ok) (hPre : Pre w) (hPq : Quiet w.heap.size Pre) (hps : ∀ k, (enc k).size = ps.size)
  (J : Nat → Nat → World → Prop) (Jx : Nat → Code → Nat → World → Prop) (hJ : ∀ N1 k, Quiet w.heap.size (J N1 k)) (hJx : ∀ N1 c k, Quiet w.heap.size (Jx N1 c k)) (h0 : ∀ N1, w.heap.size + 2 ≤ N1 → J N1 0 w) (hOk : ∀ N1 k W, J N1 k W → Ok W)
  (round : ∀ (l D N1 k : Nat) (W : World), D = w.heap.size → l = w.heap.size + 1 → w.heap.size + 2 ≤ N1 → N1 ≤ W.heap.size → k < m → J N1 k W → (∃ r, W.heap[l]? = some (.loop r)) → W.heap[D]? = some (.deferred (some [])) →
   V P (some l) n [] assign (Exit.then (beginK2 P w.heap.size N1 l D body (J N1) (Jx N1) k W) noPost) (putPs n ps.toList (enc k).toList e) W)
  (done : ∀ (D N1 : Nat) (W : World), D = w.heap.size → w.heap.size + 2 ≤ N1 → J N1 m W → W.heap[D]? = some (.deferred (some [])) → XV n (mark D :: ds) .normal Q e W)
  (stop : ∀ (D N1 k : Nat) (c : Code) (W : World), D = w.heap.size → w.heap.size + 2 ≤ N1 → k ≤ m → Jx N1 c k W → W.heap[D]? = some (.deferred (some [])) → V P none n (mark D :: ds) c Q e W) :
  V P none n ds (.rangeFunc g ps assign body) Q e w := by
 intro a ha
 show (Code.rangeFunc g ps assign body).wpIn (FR none) 0 P Q a w
 refine wpIn_rangeFunc ?_
 intro fn hfn
 obtain ⟨rec, hrec⟩ : ∃ rec : LoopState → Option Code → Loop, rec = fun st pe => { state := st, pending := pe, fn := fn, tmps := a.tmps, params := ps, assign := assign, body := body, defers := w.heap.size } := ⟨_, rfl⟩
 obtain ⟨D, hD⟩ : ∃ D, D = w.heap.size := ⟨_, rfl⟩
 obtain ⟨l, hl⟩ : ∃ l, l = w.heap.size + 1 := ⟨_, rfl⟩
 obtain ⟨W0, hW0⟩ : ∃ W0, laid w (.deferred (some [])) = W0 := ⟨_, rfl⟩
 obtain ⟨W1, hW1⟩ : ∃ W1, laid W0 (.loop (rec .ready none)) = W1 := ⟨_, rfl⟩
 have hs0 : W0.heap.size = w.heap.size + 1 := by rw [← hW0]; exact laid_size _ _
 have hs1 : W1.heap.size = w.heap.size + 2 := by rw [← hW1, laid_size, hs0]
 have k0 : Keep none_ w W0 := by rw [← hW0]; exact laid_keep _ _ (by intro c t f h; cases h)
 have k1 : Keep none_ W0 W1 := by rw [← hW1]; exact laid_keep _ _ (by intro c t f h; cases h)
 have hD0 : W0.heap[D]? = some (.deferred (some [])) := by rw [← hW0, hD]; show (w.heap.push _)[w.heap.size]? = _; exact Array.getElem?_push_size
 have hD1 : W1.heap[D]? = some (.deferred (some [])) := (k1.block D (by omega) (fun f => f)).trans hD0
 have hL1 : W1.heap[l]? = some (.loop (rec .ready none)) := by rw [← hW1, hl, ← hs0]; show (W0.heap.push _)[W0.heap.size]? = _; exact Array.getElem?_push_size
 have hJ1 : ∀ N1, W1.heap.size ≤ N1 → J N1 0 W1 := fun N1 h => hJ N1 0 w W1 (h0 N1 (by omega)) (k0.tr k1).ofNone
 have hput : ∀ (W : World) (o o' : Loop), W.heap[l]? = some (.loop o) → Keep (lb w.heap.size W) W (turned W l (.loop o')) ∧ (turned W l (.loop o')).heap[l]? = some (.loop o') ∧ (turned W l (.loop o')).heap[D]? = W.heap[D]? := by
  intro W o o' h
  have hlt : l < W.heap.size := (Array.getElem?_eq_some_iff.1 h).1
  refine ⟨(turned_keep (by intro c t f h; cases h)).mono (fun i _ hi => ?_), by simp [turned, hlt], by simp only [turned]; exact Array.getElem?_setIfInBounds_ne (by omega)⟩
  rw [show i = l from hi]
  exact ⟨by omega, fun c t f hh => by rw [h] at hh; cases hh⟩
 refine ⟨l, [mark D], W1, { target := .fn (.func gf) caps, args := #[.func (.yield l) #[] #[]] }, W1, gf, #[.func (.yield l) #[] #[]] ++ caps, W1, ?_, ?_, ?_, ?_, fun h => by simp [FR, Fence.wide] at h, ?_⟩
 ·rw [hl, hD, ← hW1, ← hW0, hrec]
  exact run_enterLoop_outer _ _ _ _ _
 ·have := ha.eval hr
  simp only [resolve, this, hg]
  simp [go_sem]
 ·intro f' _; trivial
 ·have := callFunc_run hb (#[.func (.yield l) #[] #[]] ++ caps) W1
  simp only [invoke]
  exact this
 refine calls_to_FR (Calls.mono (hit l (fun N1 k W => J N1 k W ∧ W.heap[l]? = some (.loop (rec .ready none)) ∧ W.heap[D]? = some (.deferred (some [])))
  (fun N1 k W => ∃ c, Jx N1 c k W ∧ W.heap[l]? = some (.loop (rec .done (some c))) ∧ W.heap[D]? = some (.deferred (some []))) W1 (hPq w W1 hPre (k0.tr k1).ofNone) ?_ ?_ ?_ (fun N1 k W h => hOk N1 k W h.1) (fun N1 h => ⟨hJ1 N1 h, hL1, hD1⟩)) ?_)
 ·rintro N1 k W W' ⟨h1, h2, h3⟩ hk
  have e1 : l < W.heap.size := (Array.getElem?_eq_some_iff.1 h2).1
  have e2 : D < W.heap.size := (Array.getElem?_eq_some_iff.1 h3).1
  exact ⟨(hJ N1 k).mono (by omega) W W' h1 hk, (hk.block l e1 (fun h => by have := h.1; omega)).trans h2, (hk.block D e2 (fun h => by have := h.1; omega)).trans h3⟩
 ·rintro N1 k W W' ⟨c, h1, h2, h3⟩ hk
  have e1 : l < W.heap.size := (Array.getElem?_eq_some_iff.1 h2).1
  have e2 : D < W.heap.size := (Array.getElem?_eq_some_iff.1 h3).1
  exact ⟨c, (hJx N1 c k).mono (by omega) W W' h1 hk, (hk.block l e1 (fun h => by have := h.1; omega)).trans h2, (hk.block D e2 (fun h => by have := h.1; omega)).trans h3⟩
 ·-- one round
  rintro N1 k W hN1 hN2 hkm ⟨hj, hlW, hDW⟩
  have hy := run_yield (P := P) (args := enc k) hlW (by rw [hrec]; exact hps k)
  rw [hrec] at hy
  refine ⟨fn, _, assign, body, hy, roundIn_of_wpIn hfn ?_⟩
  have hV := round l D N1 k W hD hl (by omega) hN2 hkm hj ⟨_, hlW⟩ hDW
  have hHas : Has n [] e { tmps := a.tmps, defers := [] } := ⟨ha.size, rfl, ha.at_⟩
  have hact := putPs_has ps.toList (enc k).toList e a.tmps hHas
  have hfold : ((ps.zip (enc k)).foldl (fun t (x : Tmp × Value) => t.setIfInBounds x.1 x.2) a.tmps) = ((ps.toList.zip (enc k).toList).foldl (fun t (x : Tmp × Value) => t.setIfInBounds x.1 x.2) a.tmps) := by
   rw [← Array.foldl_toList, Array.toList_zip]
  have hW := hV _ hact
  show Al.W P (some l) assign _ { tmps := ((ps.zip (enc k)).foldl (fun t (x : Tmp × Value) => t.setIfInBounds x.1 x.2) a.tmps), defers := [] } W
  rw [hfold]
  refine W_mono hW ?_
  intro x a1 W2 hx
  cases x <;> try exact hx.elim
  obtain ⟨hk2, hbody⟩ := hx
  obtain ⟨hl2, hD2⟩ := hk2.fen_same hlW hDW hD hl (by omega)
  have hlW2 : W2.heap[l]? = some (.loop (rec .ready none)) := hl2.trans hlW
  obtain ⟨p1, p2, p3⟩ := hput W2 _ { rec .ready none with state := .busy } hlW2
  refine ⟨_, run_beginRound hlW2 (by rw [hrec]), ?_⟩
  obtain ⟨W2', hW2'⟩ : ∃ W', turned W2 l (.loop { rec .ready none with state := .busy }) = W' := ⟨_, rfl⟩
  show Al.W P (some l) body _ a1 (turned W2 l (.loop { rec .ready none with state := .busy }))
  rw [hW2'] at p1 p2 p3 ⊢
  have hkT : Keep (only l) W2 W2' := by rw [← hW2']; exact turned_keep (by intro c t f h; cases h)
  have hk3 : Keep (fen W1.heap.size N1) W W2' := (hk2.mono fun i _ h => by rcases h with h | h; exact .inl (by omega); exact .inr h).tr (hkT.mono fun i _ h => .inl (by have h : i = l := h; omega))
  refine W_mono (hbody _ p1 ⟨_, p2⟩ p3) ?_
  intro x a3 W3 hx
  have hDW3 : Keep (fen w.heap.size N1) W2' W3 → W3.heap[l]? = some (.loop { rec .ready none with state := .busy }) ∧ W3.heap[D]? = some (.deferred (some [])) :=
   fun h => by
    have hs := h.fen_same p2 (p3.trans (hD2.trans hDW)) hD hl (by omega)
    exact ⟨hs.1.trans p2, hs.2.trans (p3.trans (hD2.trans hDW))⟩
  cases x with
  | normal =>
   obtain ⟨hs, hj3⟩ := hx
   obtain ⟨q1, q2⟩ := hDW3 hs
   have hk4 := fun (o : Loop) => (hk3.tr (hs.mono fun i _ h => by rcases h with h | h; exact .inl (by omega); exact .inr h)).tr ((turned_keep (w := W3) (b := l) (o := .loop o) (by intro c t f h; cases h)).mono fun i _ h => Or.inl (by have h : i = l := h; omega))
   obtain ⟨t1, t2, t3⟩ := hput W3 _ (rec .ready none) q1
   have hend := run_endRound (P := P) none q1
   rw [hrec] at hend t1 t2 t3
   exact ⟨_, _, hend, hk4 _, .inl ⟨rfl, hJ _ _ _ _ hj3 t1, by rw [hrec]; exact t2, t3.trans q2⟩⟩
  | ret =>
   obtain ⟨hs, hj3⟩ := hx
   obtain ⟨q1, q2⟩ := hDW3 hs
   have hk4 := fun (o : Loop) => (hk3.tr (hs.mono fun i _ h => by rcases h with h | h; exact .inl (by omega); exact .inr h)).tr ((turned_keep (w := W3) (b := l) (o := .loop o) (by intro c t f h; cases h)).mono fun i _ h => Or.inl (by have h : i = l := h; omega))
   obtain ⟨t1, t2, t3⟩ := hput W3 _ (rec .done (some .ret)) q1
   have hend := run_endRound (P := P) (some .ret) q1
   rw [hrec] at hend t1 t2 t3
   exact ⟨_, _, hend, hk4 _, .inr ⟨rfl, .ret, hJx _ _ _ _ _ hj3 t1, by rw [hrec]; exact t2, t3.trans q2⟩⟩
  | exit id =>
   obtain ⟨hs, hj3⟩ := hx
   obtain ⟨q1, q2⟩ := hDW3 hs
   have hk4 := fun (o : Loop) => (hk3.tr (hs.mono fun i _ h => by rcases h with h | h; exact .inl (by omega); exact .inr h)).tr ((turned_keep (w := W3) (b := l) (o := .loop o) (by intro c t f h; cases h)).mono fun i _ h => Or.inl (by have h : i = l := h; omega))
   obtain ⟨t1, t2, t3⟩ := hput W3 _ (rec .done (some (.exit id))) q1
   have hend := run_endRound (P := P) (some (.exit id)) q1
   rw [hrec] at hend t1 t2 t3
   exact ⟨_, _, hend, hk4 _, .inr ⟨rfl, .exit id, hJx _ _ _ _ _ hj3 t1, by rw [hrec]; exact t2, t3.trans q2⟩⟩
  | goto t => exact hx.elim
  | panic c => exact hx.elim
  | outgrown => exact hx.elim
 ·-- behind the iterator
  rintro e' W2 ⟨⟨v, rfl⟩, N1, hN1, (⟨hj, hlW, hDW⟩ | ⟨k, hkm, c, hj, hlW, hDW⟩)⟩
  ·obtain ⟨t1, t2, t3⟩ := hput W2 _ (rec .exhausted none) hlW
   have hend := run_endLoop (P := P) hlW (by rw [hrec]; simp)
   rw [hrec] at hend t1 t2 t3
   exact ⟨none, _, hend, done D N1 _ hD (by omega) (hJ _ _ _ _ hj t1) (t3.trans hDW) _ ⟨ha.size, by simp [ha.defers], ha.at_⟩⟩
  ·obtain ⟨t1, t2, t3⟩ := hput W2 _ (rec .exhausted (some c)) hlW
   have hend := run_endLoop (P := P) hlW (by rw [hrec]; simp)
   rw [hrec] at hend t1 t2 t3
   exact ⟨some c, _, hend, stop D N1 k c _ hD (by omega) hkm (hJx _ _ _ _ _ hj t1) (t3.trans hDW) _ ⟨ha.size, by simp [ha.defers], ha.at_⟩⟩
end
section
variable {P : Program} {r : Option Nat} {n : Nat} {ds : List Deferred} {ops : Array Oper} {Q : Post} {act : Nat → Bool} {S : Nat → Prop} {w1 : World} {i : Nat} {l : List Nat} {e : Env} {w : World}
theorem GI_yield0 {R : Ending → World → Prop} (c : Call) (y : Nat) (args : Array Value) (d : Option Tmp) (h : site ops e i = some (d, .call c)) (hact : act i = true) (hn : need ops act i = false) (hc : yielder e c = some (y, args)) (hR : Yields P y args w R)
  (k : ∀ e' w', R e' w' → ∃ v, e' = .returned v ∧ GI P r n ds ops Q act S w1 l (putE n d v e) w') : GI P r n ds ops Q act S w1 (i :: l) e w :=
 GI_do0 d _ h hact hn fun o ho hd a ha he => by
  obtain ⟨f, tmps, assign, body, hy, hrd⟩ := hR
  refine does_round (by rw [he]; exact yield_run hc hy o ho) (RoundIn.mono hrd fun e' w' hr => ?_)
  obtain ⟨v, hv, hk⟩ := k e' w' hr
  exact ⟨v, hv, by rw [hd]; exact hk _ (ha.put d v)⟩
end
section
variable {P : Program} {fn : Func} {R : Ending → World → Prop} {n : Nat} {e : Env} {w : World}
end
section
variable {P : Program} {fn : Func} {R : Ending → World → Prop} {n : Nat} {e : Env} {w : World}
end
section
variable {P : Program} {fn : Func} {R : Ending → World → Prop} {n : Nat} {e : Env} {w : World}
theorem res_agg_tmp {t T u m : Nat} {b : Nat} {L : List Value} {v2 : Value} {T1 : TypeId} (hl : fn.results.toList = [.cell t T, .tmp u]) (h1 : look e t = some (.pointer (some ⟨b, 0, none⟩))) (h2 : look e u = some v2)
  (k1 : tk P T = some (true, m)) (hb : Blk w b L T1) (hm : L.length = m) : Res P fn n e w (.tuple #[.agg L.toArray, v2]) := fun tmps hs ht => by
 have hr := results_of_list hl
 have g1 := ht _ _ h1
 have g2 := ht _ _ h2
 have l1 := loads_agg' (P := P) (o := 0) (cs := L) hb k1 (by rw [List.drop_zero]; exact List.take_of_length_le (by omega)) hm
 unfold Loads Instr.loadAt Instr.sureAddr at l1
 unfold results
 simp [hr, Array.mapM_eq_foldlM, g1, g2, asAddr, Result.andThen] at l1 ⊢
 simp [l1]
end
theorem SlT.arg {α : Type} {w : World} {sz cap : Nat} {f : α → List Value} {A : Option Addr} {xs : List α} (h : SlT w sz f A cap xs) : ArgT w sz f A cap xs := by
 by_cases hx : xs = []
 ·exact .inl hx
 ·obtain ⟨b, o, L, T, rfl, hat⟩ := h.open_ (List.length_pos_iff.2 hx)
  exact .inr ⟨b, o, L, rfl, ⟨hat.blk.r, fun i e he => hat.elem' he, hat.sizes⟩⟩
def arrK (P : Program) (t : TypeId) : Option (Nat × TypeId × Nat) :=
 match P.underlying t with
 | some (.array n E) => (P.info? E).map fun inf => (n, E, inf.size)
 | _ => none
theorem arrK_spec {P : Program} {t E : TypeId} {n sz : Nat} (h : arrK P t = some (n, E, sz)) : P.underlying t = some (.array n E) ∧ ∃ inf, P.info? E = some inf ∧ inf.size = sz := by
 unfold arrK at h
 split at h
 ·rename_i n' E' hu
  cases hi : P.info? E' with
  | none => simp [hi] at h
  | some inf =>
   simp only [hi, Option.map_some, Option.some.injEq, Prod.mk.injEq] at h
   obtain ⟨rfl, rfl, h3⟩ := h
   exact ⟨hu, inf, hi, h3⟩
 ·cases h
section
variable {P : Program} {r : Option Nat} {n : Nat} {ds : List Deferred} {ops : Array Oper} {Q : Post} {act : Nat → Bool} {S : Nat → Prop} {w1 : World} {i : Nat} {l : List Nat} {e : Env} {w w' : World}
theorem pure_idxArr {t E : TypeId} {x y : Operand} {b o m sz : Nat} {kd : IntKind} {j : Nat} (hx : ev e x = .pointer (some ⟨b, o, none⟩)) (hy : ev e y = .int kd (j : Int)) (hs : arrK P t = some (m, E, sz)) (h1 : j < m) : PureOp P e (.indexAddr t x y) (.pointer (some ⟨b, o + j * sz, none⟩)) := fun op ho w => by
 obtain ⟨hu, inf, hi, hsz⟩ := arrK_spec hs
 have h0 : (0 : Int) ≤ (j : Int) ∧ (j : Int) < (m : Int) := by omega
 unfold execOp
 simp only [ho, hx, hy]
 unfold Instr.indexAt Instr.sureAddr
 simp only [Sem.run_bind, asIntOf, Sem.run_pure, Result.andThen, run_und hu, run_size hi, h0, and_self, if_true, add_plain, hsz, Int.toNat_natCast]
end
theorem app_many {α : Type} {w w' : World} {sz cap k : Nat} {A : Option Addr} {f : α → List Value} {xs ys : List α} {v : Value} (h : Appended w sz (.slice A xs.length cap) xs.length (xs.flatMap f) (ys.flatMap f) k v w') (hk : ys.length = k) (hf : ∀ x, (f x).length = sz) :
  ∃ A' cap', v = .slice A' (xs ++ ys).length cap' ∧ SlT w' sz f A' cap' (xs ++ ys) ∧ Keep (inA A) w w' ∧ (∀ k, inA A' k → inA A k ∨ w.heap.size ≤ k) := by
 obtain ⟨A', cap', hv, h1, h2⟩ := SlT.of (f := f) (xs := xs ++ ys) h.holds (by simp [hk]) (by simp) (fun y _ => hf y)
 refine ⟨A', cap', by rw [hv]; simp [hk], h1, h.keep.mono (fun k _ hk => blkOf_inA hk), fun k hk => (h.own k (h2 k hk)).imp blkOf_inA id⟩
end Go.Al
namespace Go.Al
open Go Go.RowKit
def partV (P : Program) (t : TypeId) (cs : Array Value) (off : Nat) : Option Value := match tk P t with
 | some (true, n) => some (.agg (cs.extract off (off + n)))
 | some (false, _) => cs[off]?
 | none => none
def eqB (P : Program) : Nat → TypeId → Value → Bool
 | 0, _, _ => false
 | m + 1, t, v => match P.underlying t, v with
  | some .bool, .bool _ => true
  | some (.int _), .int _ _ => true
  | some (.struct _), .agg cs => !P.stoodInHeld t && (P.fieldsOf t).toList.all fun f => match partV P f.type cs f.offset with | some u => eqB P m f.type u | none => false
  | some (.array n e), .agg cs => (P.info? e).isSome && (List.range n).all fun i => match partV P e cs (i * P.cellsOf e) with | some u => eqB P m e u | none => false
  | _, _ => false
section
variable {P : Program} {e : Env} {w : World}
theorem partV_run {t : TypeId} {cs : Array Value} {off : Nat} {v : Value} (h : partV P t cs off = some v) : (part t cs off).run P w = .ok v w := by
 unfold partV at h
 split at h
 ·rename_i n ht
  cases h
  obtain ⟨h1, h2⟩ := tk_agg ht w
  unfold part
  simp [Sem.run_bind, h1, h2, Result.andThen]
 ·rename_i n ht
  obtain ⟨h1, h2⟩ := tk_agg ht w
  unfold part
  simp [Sem.run_bind, h1, Result.andThen, h]
 ·cases h
theorem eqF_all {d : Nat} {cs : Array Value} : ∀ fs : List Field, (∀ f ∈ fs, ∃ u, partV P f.type cs f.offset = some u ∧ (Op.equalIn d f.type u u).run P w = .ok true w) → (Op.eqFields d cs cs fs).run P w = .ok true w
 | [], _ => rfl
 | f :: fs, h => by
  obtain ⟨u, h1, h2⟩ := h f (List.mem_cons_self ..)
  have ih := eqF_all (d := d) (cs := cs) fs (fun g hg => h g (List.mem_cons_of_mem _ hg))
  unfold Op.eqFields
  split
  ·simp only [Sem.run_bind, partV_run (w := w) h1, Result.andThen, h2, Bool.not_true, Bool.false_eq_true, if_false]
   exact ih
  ·exact ih
theorem eqI_all {d : Nat} {t : TypeId} {c : Nat} {cs : Array Value} : ∀ is : List Nat, (∀ i ∈ is, ∃ u, partV P t cs (i * c) = some u ∧ (Op.equalIn d t u u).run P w = .ok true w) → (Op.eqItems d t c cs cs is).run P w = .ok true w
 | [], _ => rfl
 | i :: is, h => by
  obtain ⟨u, h1, h2⟩ := h i (List.mem_cons_self ..)
  have ih := eqI_all (d := d) (t := t) (c := c) (cs := cs) is (fun g hg => h g (List.mem_cons_of_mem _ hg))
  unfold Op.eqItems
  simp only [Sem.run_bind, partV_run (w := w) h1, Result.andThen, h2, Bool.not_true, Bool.false_eq_true, if_false]
  exact ih
theorem eqB_run (d : Nat) : ∀ (m : Nat) (t : TypeId) (v : Value), eqB P m t v = true → (Op.equalIn (d + m) t v v).run P w = .ok true w
 | 0, _, _, h => by cases h
 | m + 1, t, v, h => by
  unfold eqB at h
  split at h
  ·rename_i b hu
   rw [show d + (m + 1) = (d + m) + 1 from rfl, run_equalIn_bool' w (d + m) t b b hu]; simp
  ·rename_i k k' n hu
   rw [show d + (m + 1) = (d + m) + 1 from rfl, run_equalIn_int w (d + m) t _ _ n n hu]; simp
  ·rename_i fs cs hu
   simp only [Bool.and_eq_true, Bool.not_eq_true', List.all_eq_true] at h
   obtain ⟨hs, hf⟩ := h
   have ht : P.underlying t = some (.struct (P.fieldsOf t)) := by unfold Program.fieldsOf; rw [hu]
   rw [show d + (m + 1) = (d + m) + 1 from rfl, run_equalIn_struct w (d + m) t cs cs ht hs]
   refine eqF_all _ (fun f hfm => ?_)
   have := hf f hfm
   split at this
   ·rename_i u hpu
    exact ⟨u, hpu, eqB_run d m f.type u this⟩
   ·cases this
  ·rename_i n el cs hu
   simp only [Bool.and_eq_true, List.all_eq_true] at h
   obtain ⟨hi, hf⟩ := h
   obtain ⟨i, hi⟩ := Option.isSome_iff_exists.1 hi
   rw [show d + (m + 1) = (d + m) + 1 from rfl, run_equalIn_array w (d + m) cs cs hu hi]
   refine eqI_all _ (fun j hj => ?_)
   have := hf j hj
   split at this
   ·rename_i u hpu
    exact ⟨u, hpu, eqB_run d m el u this⟩
   ·cases this
  ·cases h
theorem pure_eql_same {t z : TypeId} {x y : Operand} {xs : List Value} (hx : ev e x = .agg xs.toArray) (hy : ev e y = .agg xs.toArray) (hm : P.eqGuardType P.depth t = false) (hq : eqB P 8 t (.agg xs.toArray) = true) : PureOp P e (.binOp .eql t x y z) (.bool true) := fun op ho w => by
 have hr : (Op.equalIn 10000 t (.agg xs.toArray) (.agg xs.toArray)).run P w = .ok true w := eqB_run 9992 8 t _ hq
 unfold execOp
 simp only [ho, hx, hy, Sem.run_bind, run_eqGuard_agg w _ _ _ _ _ _ hm, Result.andThen, run_eql_struct, hr, Sem.run_pure]
theorem pure_neq_same {t z : TypeId} {x y : Operand} {xs : List Value} (hx : ev e x = .agg xs.toArray) (hy : ev e y = .agg xs.toArray) (hm : P.eqGuardType P.depth t = false) (hq : eqB P 8 t (.agg xs.toArray) = true) : PureOp P e (.binOp .neq t x y z) (.bool false) := fun op ho w => by
 have hr : (Op.equalIn 10000 t (.agg xs.toArray) (.agg xs.toArray)).run P w = .ok true w := eqB_run 9992 8 t _ hq
 unfold execOp
 simp only [ho, hx, hy, Sem.run_bind, run_eqGuard_agg w _ _ _ _ _ _ hm, Result.andThen, run_neq_struct, hr, Sem.run_pure, Bool.not_true]
end
theorem SlT.openA {α : Type} {w : World} {sz cap b o : Nat} {f : α → List Value} {xs : List α} (h : SlT w sz f (some ⟨b, o, none⟩) cap xs) (h0 : 0 < xs.length) : ∃ L T, At w b o L T sz cap (xs.map f) := by
 obtain ⟨b', o', L, T, e, hat⟩ := SlT.open_ h h0
 cases e
 exact ⟨L, T, hat⟩
end Go.Al
namespace Go.Al
open Go Go.RowKit
section
variable {P : Program} {r : Option Nat} {n : Nat} {ds : List Deferred} {ops : Array Oper} {Q : Post} {act : Nat → Bool} {S : Nat → Prop} {w1 : World} {i : Nat} {l : List Nat} {e : Env} {w w' : World} {op : Op}
theorem make_run {t E : TypeId} {m sz by_ : Nat} {kd : IntKind} {lo co : Operand} {zv : Value} (hl : ev e lo = .int kd (m : Int)) (hc : ev e co = .int kd (m : Int)) (hs : slk P t = some (E, sz, by_)) (hz : zeroV P E = some zv) (hb : by_ * m ≤ 281474976710656) (hm : m ≤ 9223372036854775807) (o : Oper) (ho : o.op = .makeSlice t lo co) :
  (execOp (ev e) o).run P w = .ok (.value (.slice (some ⟨w.heap.size, 0, none⟩) m m)) (laid w (.cells (madeCells zv.cells (m * sz)).toList.toArray E)) := by
 obtain ⟨hu, inf, hi, hsi, hby⟩ := slk_spec hs
 have hz' : inf.zero = some zv := by unfold zeroV at hz; rw [hi] at hz; exact hz
 have hb2 : (inf.bytes : Int) * (m : Int) ≤ 281474976710656 := by
  have h : ((by_ * m : Nat) : Int) ≤ 281474976710656 := by omega
  rw [Int.natCast_mul] at h
  rw [hby]; exact h
 have hr := run_make (P := P) w t E inf zv hu hi hz' kd kd m m (by omega) (Int.le_refl _) hb2 (by omega)
 simp only [Int.toNat_natCast, hsi] at hr
 unfold execOp
 simp only [ho, hl, hc, Sem.run_bind, hr, Result.andThen, Sem.run_pure, Array.toArray_toList]
 rfl
theorem OI_make {E : TypeId} {sz by_ m : Nat} {kd : IntKind} {zv : Value} (t : TypeId) (lo co : Operand) (L : List Value) (d : Option Tmp) (h : site ops e i = some (d, .makeSlice t lo co)) (hl : ev e lo = .int kd (m : Int)) (hc : ev e co = .int kd (m : Int)) (hs : slk P t = some (E, sz, by_)) (hz : zeroV P E = some zv) (hb : by_ * m ≤ 281474976710656) (hm : m ≤ 9223372036854775807) (hL : (madeCells zv.cells (m * sz)).toList = L)
  (k : ∀ b w', b = w.heap.size → Blk w' b L E → Keep none_ w w' → w'.heap.size = b + 1 → OI P r n ds ops Q (i + 1) (putE n d (.slice (some ⟨b, 0, none⟩) m m) e) w') : OI P r n ds ops Q i e w := by
 subst hL
 exact OI_laid d _ h (fun o ho => make_run hl hc hs hz hb hm o ho) (fun w' => k _ w' rfl)
theorem GI_make {E : TypeId} {sz by_ m : Nat} {kd : IntKind} {zv : Value} (t : TypeId) (lo co : Operand) (L : List Value) (d : Option Tmp) (h : site ops e i = some (d, .makeSlice t lo co)) (hact : act i = true) (hK : Keep S w1 w) (hl : ev e lo = .int kd (m : Int)) (hc : ev e co = .int kd (m : Int)) (hs : slk P t = some (E, sz, by_)) (hz : zeroV P E = some zv) (hb : by_ * m ≤ 281474976710656) (hm : m ≤ 9223372036854775807) (hL : (madeCells zv.cells (m * sz)).toList = L)
  (k : ∀ b w', b = w.heap.size → Blk w' b L E → Keep none_ w w' → w'.heap.size = b + 1 → Keep S w1 w' → GI P r n ds ops Q act S w1 l (putE n d (.slice (some ⟨b, 0, none⟩) m m) e) w') : GI P r n ds ops Q act S w1 (i :: l) e w := by
 subst hL
 exact GI_laid d _ h hact hK (fun o ho => make_run hl hc hs hz hb hm o ho) (fun w' => k _ w' rfl)
end
end Go.Al
namespace Go.Al
open Go Go.RowKit
abbrev pt (b : Nat) : Value := .pointer (some ⟨b, 0, none⟩)
abbrev nt (x : Int) : Value := .int .i64 x
end Go.Al
namespace Go.Al
open Go Go.RowKit
section
variable {P : Program} {e : Env}
end
section
variable {P : Program} {r : Option Nat} {n : Nat} {ds : List Deferred} {ops : Array Oper} {Q : Post} {act : Nat → Bool} {S : Nat → Prop} {w1 : World} {i : Nat} {l : List Nat} {e : Env} {w w' : World} {op : Op}
theorem GI_alloc (t : TypeId) (v : Value) (L : List Value) (d : Option Tmp) (h : site ops e i = some (d, .alloc t)) (hact : act i = true) (hK : Keep S w1 w) (hz : zeroV P t = some v) (hl : v.cells = L.toArray)
  (k : ∀ b w', b = w.heap.size → Blk w' b L t → Keep none_ w w' → w'.heap.size = b + 1 → Keep S w1 w' → GI P r n ds ops Q act S w1 l (putE n d (.pointer (some ⟨b, 0, none⟩)) e) w') : GI P r n ds ops Q act S w1 (i :: l) e w :=
 GI_laid d _ h hact hK (fun o ho => by
  unfold execOp
  simp only [ho]
  unfold Instr.alloc
  simp only [Sem.run_bind, zeroV_run hz, Result.andThen]
  unfold newVar newRow newObj
  simp only [hl]
  rfl) (fun w' => k _ w' rfl)
end
end Go.Al
namespace Go.Al
open Go Go.RowKit
section
variable {P : Program} {e : Env}
end
theorem Blk.eqL {w : World} {b : Nat} {L L' : List Value} {t : TypeId} (e : L = L') (h : Blk w b L t) : Blk w b L' t := e ▸ h
end Go.Al
namespace Go.Al
open Go Go.RowKit
theorem At.sub {w : World} {sz cap b o i k n : Nat} {L e c : List Value} {T : TypeId} {es : List (List Value)} (h : At w b o L T sz cap es) (hi : es[i]? = some e) (hk : k + n ≤ sz) (hc : (e.drop k).take n = c) : (L.drop (o + i * sz + k)).take n = c := by
 have h1 := h.elem' hi
 rw [← hc, ← h1, List.drop_take, List.drop_drop, List.take_take]
 congr 1
 omega
theorem over_midN {X Y Z vs : List Value} {k : Nat} (hk : k + vs.length ≤ Y.length) : over (X ++ (Y ++ Z)) (X.length + k) vs = X ++ (over Y k vs ++ Z) := by
 obtain ⟨Y1, Ym, Y2, rfl, hY1, hYm⟩ : ∃ Y1 Ym Y2, Y = Y1 ++ (Ym ++ Y2) ∧ Y1.length = k ∧ Ym.length = vs.length :=
  ⟨Y.take k, (Y.drop k).take vs.length, (Y.drop k).drop vs.length, by rw [List.take_append_drop, List.take_append_drop], by rw [List.length_take]; omega, by rw [List.length_take, List.length_drop]; omega⟩
 have e1 : over (Y1 ++ (Ym ++ Y2)) k vs = Y1 ++ (vs ++ Y2) := over_app' rfl hY1.symm hYm
 rw [e1]
 have e2 : over (X ++ ((Y1 ++ (Ym ++ Y2)) ++ Z)) (X.length + k) vs = (X ++ Y1) ++ (vs ++ (Y2 ++ Z)) := over_app' (Y := Ym) (by simp) (by simp [hY1]) hYm
 rw [e2]
 simp
theorem At.setN {α : Type} {w w' : World} {b o sz cap i k : Nat} {L : List Value} {T : TypeId} {f : α → List Value} {xs : List α} {x y : α} {vs : List Value} (h : At w b o L T sz cap (xs.map f)) (hx : xs[i]? = some x) (hk : k + vs.length ≤ sz) (hy : over (f x) k vs = f y) (hB : Blk w' b (over L (o + i * sz + k) vs) T) :
  At w' b o (over L (o + i * sz + k) vs) T sz cap ((xs.set i y).map f) := by
 obtain ⟨hi, rfl⟩ := List.getElem?_eq_some_iff.1 hx
 have hlen : (f xs[i]).length = sz := h.sizes _ (List.mem_map.2 ⟨_, List.getElem_mem hi, rfl⟩)
 have hylen : (f y).length = sz := by rw [← hy, over_length (by omega), hlen]
 obtain ⟨pre, C, hp, hL, hA, hB', hC⟩ := h.split i (by simp; omega)
 have hd : (xs.map f).drop i = f xs[i] :: (xs.map f).drop (i + 1) := by rw [List.drop_eq_getElem_cons (by simpa using hi)]; simp
 rw [hd, List.flatten_cons] at hL
 have eL : over L (o + i * sz + k) vs = (pre ++ ((xs.map f).take i).flatten) ++ (f y ++ (((xs.map f).drop (i + 1)).flatten ++ C)) := by
  rw [hL, ← hy, show pre ++ (((xs.map f).take i).flatten ++ (f xs[i] ++ ((xs.map f).drop (i + 1)).flatten ++ C)) = (pre ++ ((xs.map f).take i).flatten) ++ (f xs[i] ++ (((xs.map f).drop (i + 1)).flatten ++ C)) by simp]
  rw [show o + i * sz + k = (pre ++ ((xs.map f).take i).flatten).length + k by rw [List.length_append, hA, hp]]
  exact over_midN (by omega)
 have hset : (xs.set i y).map f = (xs.map f).take i ++ f y :: (xs.map f).drop (i + 1) := by
  rw [List.set_eq_take_append_cons_drop, if_pos hi]; simp [List.map_take, List.map_drop]
 have hsz : ∀ e ∈ (xs.set i y).map f, e.length = sz := by
  intro e he
  rw [hset] at he
  rcases List.mem_append.1 he with he | he
  ·exact h.sizes e (List.mem_of_mem_take he)
  ·rcases List.mem_cons.1 he with rfl | he
   ·exact hylen
   ·exact h.sizes e (List.mem_of_mem_drop he)
 have hle := h.le
 have hro := h.room
 have hbound : (i + 1) * sz ≤ xs.length * sz := Nat.mul_le_mul_right _ hi
 have hcap : (xs.map f).length * sz ≤ cap * sz := Nat.mul_le_mul_right _ hle
 rw [List.length_map] at hcap hle
 rw [Nat.add_mul] at hbound
 refine ⟨hB, by simpa using hle, by rw [over_length (by omega)]; exact hro, ?_, hsz⟩
 have hfl : ((xs.set i y).map f).flatten.length = xs.length * sz := by rw [flatten_len hsz]; simp
 rw [List.length_map, List.length_set, eL, List.append_assoc, drop_app' rfl hp.symm, hset]
 rw [hset] at hfl
 rw [show ((xs.map f).take i).flatten ++ (f y ++ (((xs.map f).drop (i + 1)).flatten ++ C)) = ((xs.map f).take i ++ f y :: (xs.map f).drop (i + 1)).flatten ++ C by simp]
 exact take_app' rfl hfl.symm
section
variable {P : Program} {fn : Func} {R : Ending → World → Prop} {n : Nat} {e : Env} {w : World}
theorem res_agg1 {t T m : Nat} {b : Nat} {L : List Value} {T1 : TypeId} (hl : fn.results.toList = [.cell t T]) (h1 : look e t = some (.pointer (some ⟨b, 0, none⟩)))
  (k1 : tk P T = some (true, m)) (hb : Blk w b L T1) (hm : L.length = m) : Res P fn n e w (.agg L.toArray) := fun tmps hs ht => by
 have hr := results_of_list hl
 have g1 := ht _ _ h1
 have l1 := loads_agg' (P := P) (o := 0) (cs := L) hb k1 (by rw [List.drop_zero]; exact List.take_of_length_le (by omega)) hm
 unfold Loads Instr.loadAt Instr.sureAddr at l1
 unfold results
 simp [hr, Array.mapM_eq_foldlM, g1, asAddr] at l1 ⊢
 simp [l1]
end
end Go.Al
namespace Go.Al
open Go Go.RowKit
def dstAt (ops : Array Oper) (i : Nat) : Option Tmp := match ops[i]? with | some o => o.dst | none => none
def callAt (ops : Array Oper) (i : Nat) : Call := match ops[i]? with | some o => (match o.op with | .call c => c | _ => ⟨.value (.const (.bool true)), #[], #[]⟩) | none => ⟨.value (.const (.bool true)), #[], #[]⟩
def tyAt (ops : Array Oper) (i : Nat) : TypeId := match ops[i]? with | some o => (match o.op with | .load t _ => t | .store t _ _ => t | .box t _ => t | .alloc t => t | _ => 0) | none => 0
def xAt (ops : Array Oper) (i : Nat) : Operand := match ops[i]? with | some o => (match o.op with | .load _ x => x | .store _ x _ => x | .box _ x => x | _ => .const (.bool true)) | none => .const (.bool true)
def yAt (ops : Array Oper) (i : Nat) : Operand := match ops[i]? with | some o => (match o.op with | .store _ _ y => y | _ => .const (.bool true)) | none => .const (.bool true)
section
variable {P : Program} {r : Option Nat} {n : Nat} {ds : List Deferred} {ops ops2 : Array Oper} {Q : Post} {i : Nat} {e : Env} {w : World} {y z : Code} {id : Nat} {act : Nat → Bool} {S : Nat → Prop} {w1 : World} {l : List Nat}
theorem Os (j : Nat) (e' : Env) (k : OI P r n ds ops Q j e' w) (h : statE P ops n i j e (e'.map (·.1)) = some e' := by kernel_rfl) : OI P r n ds ops Q i e w := OI_static j e' h k
theorem Gs (l' : List Nat) (e' : Env) (k : GI P r n ds ops Q act S w1 l' e' w) (h : statG P ops n act l l' e (e'.map (·.1)) = some e' := by kernel_rfl) : GI P r n ds ops Q act S w1 l e w := GI_static l' e' h k
theorem Op_ (e' : Env) (k : OI P r n ds ops Q i e' w) (h : pick (e'.map (·.1)) e = some e' := by kernel_rfl) : OI P r n ds ops Q i e w := OI_pick e' h k
theorem Gp_ (e' : Env) (k : GI P r n ds ops Q act S w1 l e' w) (h : pick (e'.map (·.1)) e = some e' := by kernel_rfl) : GI P r n ds ops Q act S w1 l e w := GI_pick e' h k
theorem Vr (h : OI P r n ds ops (Exit.then (fun a w => W P r y Q a w) Q) 0 e w) : V P r n ds (.seq (.region id ops false) y) Q e w := V_seq (V_region h)
theorem Oe (k : V P r n ds y Q e w) (h : ops.size = i := by rfl) : OI P r n ds ops (Exit.then (fun a w => W P r y Q a w) Q) i e w := OI_end h (X_then k)
theorem Oer (k : OI P r n ds ops2 (Exit.then (fun a w => W P r z Q a w) Q) 0 e w) (h : ops.size = i := by rfl) : OI P r n ds ops (Exit.then (fun a w => W P r (.seq (.region id ops2 false) z) Q a w) Q) i e w := Oe (Vr k) h
theorem Oc {T : TypeId} {b : Nat} {l : List Value} (t : TypeId) (x : Operand) (o : Nat) (v : Value) (d : Option Tmp) (hb : Blk w b l T) (hv : l[o]? = some v) (k : OI P r n ds ops Q (i + 1) (putE n d v e) w) (h : site ops e i = some (d, .load t x) := by kernel_rfl) (hx : ev e x = .pointer (some ⟨b, o, none⟩) := by kernel_rfl) (ht : tk P t = some (false, 1) := by kernel_rfl) : OI P r n ds ops Q i e w := OI_cell t x o v d h hx hb ht hv k
theorem Gc {T : TypeId} {b : Nat} {L : List Value} (t : TypeId) (x : Operand) (o : Nat) (v : Value) (d : Option Tmp) (hb : Blk w1 b L T) (hS : ¬ S b) (hv : L[o]? = some v) (k : GI P r n ds ops Q act S w1 l (putE n d v e) w) (h : site ops e i = some (d, .load t x) := by kernel_rfl) (hact : act i = false := by kernel_rfl) (hx : ev e x = .pointer (some ⟨b, o, none⟩) := by kernel_rfl) (ht : tk P t = some (false, 1) := by kernel_rfl) : GI P r n ds ops Q act S w1 (i :: l) e w := GI_cell t x o v d h hact hx hb hS ht hv k
theorem Gc0 {T : TypeId} {b : Nat} {L : List Value} (t : TypeId) (x : Operand) (o : Nat) (v : Value) (d : Option Tmp) (hb : Blk w1 b L T) (hv : L[o]? = some v) (k : GI P r n ds ops Q act none_ w1 l (putE n d v e) w) (h : site ops e i = some (d, .load t x) := by kernel_rfl) (hact : act i = false := by kernel_rfl) (hx : ev e x = .pointer (some ⟨b, o, none⟩) := by kernel_rfl) (ht : tk P t = some (false, 1) := by kernel_rfl) : GI P r n ds ops Q act none_ w1 (i :: l) e w := GI_cell t x o v d h hact hx hb (fun f => f) ht hv k
theorem Oa {T : TypeId} {b : Nat} {l : List Value} (t : TypeId) (x : Operand) (o : Nat) (cs : List Value) (d : Option Tmp) (m : Nat) (hb : Blk w b l T) (hv : (l.drop o).take m = cs) (hm : cs.length = m) (k : OI P r n ds ops Q (i + 1) (putE n d (.agg cs.toArray) e) w) (h : site ops e i = some (d, .load t x) := by kernel_rfl) (hx : ev e x = .pointer (some ⟨b, o, none⟩) := by kernel_rfl) (ht : tk P t = some (true, m) := by kernel_rfl) : OI P r n ds ops Q i e w := OI_agg t x o cs d h hx hb ht hv hm k
theorem Ga {T : TypeId} {b : Nat} {L : List Value} (t : TypeId) (x : Operand) (o : Nat) (cs : List Value) (d : Option Tmp) (m : Nat) (hb : Blk w1 b L T) (hS : ¬ S b) (hv : (L.drop o).take m = cs) (hm : cs.length = m) (k : GI P r n ds ops Q act S w1 l (putE n d (.agg cs.toArray) e) w) (h : site ops e i = some (d, .load t x) := by kernel_rfl) (hact : act i = false := by kernel_rfl) (hx : ev e x = .pointer (some ⟨b, o, none⟩) := by kernel_rfl) (ht : tk P t = some (true, m) := by kernel_rfl) : GI P r n ds ops Q act S w1 (i :: l) e w := GI_agg t x o cs d h hact hx hb hS ht hv hm k
theorem Ok {R : Ending → World → Prop} (c : Call) (f : FuncId) (args : Array Value) (d : Option Tmp) (hR : Calls P f args w R) (k : ∀ e' w', R e' w' → ∃ v, e' = .returned v ∧ OI P r n ds ops Q (i + 1) (putE n d v e) w') (h : site ops e i = some (d, .call c) := by kernel_rfl) (hc : callee e c = some (f, args) := by kernel_rfl) (hf : bodied P f = true := by kernel_rfl) : OI P r n ds ops Q i e w := OI_call c f args d h hc hf hR k
theorem Gk0 {R : Ending → World → Prop} (c : Call) (f : FuncId) (args : Array Value) (d : Option Tmp) (hR : Calls P f args w R) (k : ∀ e' w', R e' w' → ∃ v, e' = .returned v ∧ GI P r n ds ops Q act S w1 l (putE n d v e) w') (h : site ops e i = some (d, .call c) := by kernel_rfl) (hact : act i = true := by kernel_rfl) (hn : need ops act i = false := by kernel_rfl) (hc : callee e c = some (f, args) := by kernel_rfl) (hf : bodied P f = true := by kernel_rfl) : GI P r n ds ops Q act S w1 (i :: l) e w := GI_call0 c f args d h hact hn hc hf hR k
theorem Gk {R : Ending → World → Prop} (c : Call) (f : FuncId) (args : Array Value) (d : Option Tmp) (hR : Calls P f args w R) (k : ∀ e' w', R e' w' → ∃ v, e' = .returned v ∧ Keep S w1 w' ∧ GI P r n ds ops Q act S w1 l (putE n d v e) w') (h : site ops e i = some (d, .call c) := by kernel_rfl) (hact : act i = true := by kernel_rfl) (hc : callee e c = some (f, args) := by kernel_rfl) (hf : bodied P f = true := by kernel_rfl) : GI P r n ds ops Q act S w1 (i :: l) e w := GI_call c f args d h hact hc hf hR k
end
section
variable {α : Type} {w w' : World} {b o sz cap i k : Nat} {L : List Value} {T : TypeId} {f : α → List Value} {xs : List α} {x y z : α} {v : Value} {vs : List Value}
theorem At.st1 (h : At w b o L T sz cap (xs.map f)) (hx : xs[i]? = some x) (hk : k < sz) (hy : over (f x) k [v] = f y) (hB : Blk w' b (over L (o + i * sz + k) [v]) T) :
  At w' b o (over L (o + i * sz + k) [v]) T sz cap ((xs.set i y).map f) ∧ (xs.set i y).length = xs.length ∧ (xs.set i y)[i]? = some y :=
 ⟨At.set h hx hk hy hB, List.length_set, List.getElem?_set_self (List.getElem?_eq_some_iff.1 hx).1⟩
theorem set_in (hx : (xs.set i z)[i]? = some x) : i < xs.length := by
 have h := (List.getElem?_eq_some_iff.1 hx).1
 rwa [List.length_set] at h
theorem At.stN (h : At w b o L T sz cap (xs.map f)) (hx : xs[i]? = some x) (hk : k + vs.length ≤ sz) (hy : over (f x) k vs = f y) (hB : Blk w' b (over L (o + i * sz + k) vs) T) :
  At w' b o (over L (o + i * sz + k) vs) T sz cap ((xs.set i y).map f) ∧ (xs.set i y).length = xs.length ∧ (xs.set i y)[i]? = some y :=
 ⟨At.setN h hx hk hy hB, List.length_set, List.getElem?_set_self (List.getElem?_eq_some_iff.1 hx).1⟩
theorem st_fits (h : At w b o L T sz cap (xs.map f)) (hx : xs[i]? = some x) {m : Nat} (hk : k + m ≤ sz) : o + i * sz + k + m ≤ L.length := by
 have h1 := At.room h
 have h2 := At.le h
 rw [List.length_map] at h2
 have h3 := (List.getElem?_eq_some_iff.1 hx).1
 have h4 : (i + 1) * sz ≤ cap * sz := Nat.mul_le_mul_right _ (by omega)
 rw [Nat.add_mul, Nat.one_mul] at h4
 omega
end
section
variable {P : Program} {r : Option Nat} {n : Nat} {ds : List Deferred} {ops : Array Oper} {Q : Post} {i : Nat} {e : Env} {w : World} {α : Type} {T : TypeId} {b o sz cap j : Nat} {L : List Value} {f : α → List Value} {xs : List α} {x z : α}
theorem Ts1 (y : α) (k : Nat) (v : Value) (ha : At w b o L T sz cap (xs.map f)) (hx : xs[j]? = some x) (ho : over (f x) k [v] = f y)
  (c : ∀ w', At w' b o (over L (o + j * sz + k) [v]) T sz cap ((xs.set j y).map f) → Keep (only b) w w' → w'.heap.size = w.heap.size → (xs.set j y).length = xs.length → (xs.set j y)[j]? = some y → OI P r n ds ops Q (i + 1) e w')
  (hs : site ops e i = some (none, .store (tyAt ops i) (xAt ops i) (yAt ops i)) := by kernel_rfl) (hp : ev e (xAt ops i) = .pointer (some ⟨b, o + j * sz + k, none⟩) := by kernel_rfl) (hy : ev e (yAt ops i) = v := by kernel_rfl)
  (ht : tk P (tyAt ops i) = some (false, 1) := by kernel_rfl) (hv : v.cells = [v].toArray := by kernel_rfl) (hk : Nat.blt k sz = true := by rfl) (h1 : v.oneCell' = true := by rfl) : OI P r n ds ops Q i e w :=
 OI_set _ _ _ _ v [v] none hs hp hy (At.blk ha) ht hv rfl (st_fits ha hx (Nat.le_of_ble_eq_true hk)) (fun u hu => by rw [List.mem_singleton.1 hu]; exact h1)
  (fun w' hB hK hz => have h := At.st1 ha hx (Nat.le_of_ble_eq_true hk) ho hB; c w' h.1 hK hz h.2.1 h.2.2)
theorem Tss1 (y : α) (k : Nat) (v : Value) (ha : At w b o L T sz cap ((xs.set j z).map f)) (hx : (xs.set j z)[j]? = some x) (ho : over (f x) k [v] = f y)
  (c : ∀ w', At w' b o (over L (o + j * sz + k) [v]) T sz cap ((xs.set j y).map f) → Keep (only b) w w' → w'.heap.size = w.heap.size → (xs.set j y).length = xs.length → (xs.set j y)[j]? = some y → OI P r n ds ops Q (i + 1) e w')
  (hs : site ops e i = some (none, .store (tyAt ops i) (xAt ops i) (yAt ops i)) := by kernel_rfl) (hp : ev e (xAt ops i) = .pointer (some ⟨b, o + j * sz + k, none⟩) := by kernel_rfl) (hy : ev e (yAt ops i) = v := by kernel_rfl)
  (ht : tk P (tyAt ops i) = some (false, 1) := by kernel_rfl) (hv : v.cells = [v].toArray := by kernel_rfl) (hk : Nat.blt k sz = true := by rfl) (h1 : v.oneCell' = true := by rfl) : OI P r n ds ops Q i e w :=
 Ts1 y k v ha hx ho (fun w' h hK hz _ _ => c w' (by rw [List.set_set] at h; exact h) hK hz List.length_set (List.getElem?_set_self (set_in hx))) hs hp hy ht hv hk h1
theorem TsN {m : Nat} (y : α) (k : Nat) (cs : List Value) (ha : At w b o L T sz cap (xs.map f)) (hx : xs[j]? = some x) (ho : over (f x) k cs = f y) (hn : cs.length = m) (h1 : ∀ u ∈ cs, u.oneCell' = true)
  (c : ∀ w', At w' b o (over L (o + j * sz + k) cs) T sz cap ((xs.set j y).map f) → Keep (only b) w w' → w'.heap.size = w.heap.size → (xs.set j y).length = xs.length → (xs.set j y)[j]? = some y → OI P r n ds ops Q (i + 1) e w')
  (hs : site ops e i = some (none, .store (tyAt ops i) (xAt ops i) (yAt ops i)) := by kernel_rfl) (hp : ev e (xAt ops i) = .pointer (some ⟨b, o + j * sz + k, none⟩) := by kernel_rfl) (hy : ev e (yAt ops i) = .agg cs.toArray := by kernel_rfl)
  (ht : tk P (tyAt ops i) = some (true, m) := by kernel_rfl) (hk : Nat.ble (k + m) sz = true := by rfl) : OI P r n ds ops Q i e w :=
 OI_set _ _ _ _ (.agg cs.toArray) cs none hs hp hy (At.blk ha) ht rfl hn (st_fits ha hx (Nat.le_of_ble_eq_true hk)) h1
  (fun w' hB hK hz => have h := At.stN ha hx (by rw [hn]; exact Nat.le_of_ble_eq_true hk) ho hB; c w' h.1 hK hz h.2.1 h.2.2)
theorem TssN {m : Nat} (y : α) (k : Nat) (cs : List Value) (ha : At w b o L T sz cap ((xs.set j z).map f)) (hx : (xs.set j z)[j]? = some x) (ho : over (f x) k cs = f y) (hn : cs.length = m) (h1 : ∀ u ∈ cs, u.oneCell' = true)
  (c : ∀ w', At w' b o (over L (o + j * sz + k) cs) T sz cap ((xs.set j y).map f) → Keep (only b) w w' → w'.heap.size = w.heap.size → (xs.set j y).length = xs.length → (xs.set j y)[j]? = some y → OI P r n ds ops Q (i + 1) e w')
  (hs : site ops e i = some (none, .store (tyAt ops i) (xAt ops i) (yAt ops i)) := by kernel_rfl) (hp : ev e (xAt ops i) = .pointer (some ⟨b, o + j * sz + k, none⟩) := by kernel_rfl) (hy : ev e (yAt ops i) = .agg cs.toArray := by kernel_rfl)
  (ht : tk P (tyAt ops i) = some (true, m) := by kernel_rfl) (hk : Nat.ble (k + m) sz = true := by rfl) : OI P r n ds ops Q i e w :=
 TsN y k cs ha hx ho hn h1 (fun w' h hK hz _ _ => c w' (by rw [List.set_set] at h; exact h) hK hz List.length_set (List.getElem?_set_self (set_in hx))) hs hp hy ht hk
theorem wrp {a b : Int} (h : -9223372036854775808 ≤ a ∧ a ≤ 9223372036854775807 ∧ a = b := by omega) : i64.wrap a = b := (wrap64_id h.1 h.2.1).trans h.2.2
theorem SlT.opn {A : Option Addr} (h : SlT w sz f A cap xs) (hi : 0 < xs.length := by first | omega | (simp only [List.length_map]; omega) | (simp; done) | (simp; omega)) : ∃ b o L T, A = some ⟨b, o, none⟩ ∧ At w b o L T sz cap (xs.map f) := SlT.open_ h hi
theorem exAt (h : i < xs.length := by first | omega | (simp only [List.length_map]; omega)) : ∃ x, xs[i]? = some x := ⟨_, List.getElem?_eq_getElem h⟩
end
end Go.Al
namespace Go.Al
open Go Go.RowKit
section
variable {P : Program} {r : Option Nat} {n : Nat} {ds : List Deferred} {ops : Array Oper} {Q : Post} {i : Nat} {e : Env} {w : World} {act : Nat → Bool} {S : Nat → Prop} {w1 : World} {l : List Nat}
theorem On (j : Nat) (ks : List Nat) (k : OI P r n ds ops Q j ((statE P ops n i j e ks).getD []) w) (h : (statE P ops n i j e ks).isSome = true := by kernel_rfl) : OI P r n ds ops Q i e w := by
  cases hs : statE P ops n i j e ks with
  | none => rw [hs] at h; cases h
  | some e' =>
    rw [hs] at k
    simp only [Option.getD_some] at k
    unfold statE at hs
    cases hij : Nat.ble i j with
    | false => rw [hij] at hs; cases hs
    | true =>
      rw [hij] at hs
      simp only [cond_true] at hs
      cases hr : runE P ops n (j - i) i e with
      | none => rw [hr] at hs; cases hs
      | some e2 =>
        rw [hr] at hs
        simp only [Option.bind_some] at hs
        refine runE_sound (j - i) i e e2 hr ?_
        rw [show i + (j - i) = j by have := Nat.le_of_ble_eq_true hij; omega]
        exact fun a ha => k a (ha.weaken (pick_look ks e2 e' hs))
theorem Gn (l' : List Nat) (ks : List Nat) (k : GI P r n ds ops Q act S w1 l' ((statG P ops n act l l' e ks).getD []) w) (h : (statG P ops n act l l' e ks).isSome = true := by kernel_rfl) : GI P r n ds ops Q act S w1 l e w := by
  cases hs : statG P ops n act l l' e ks with
  | none => rw [hs] at h; cases h
  | some e' =>
    rw [hs] at k
    simp only [Option.getD_some] at k
    unfold statG at hs
    cases hij : sameList l (l.take (l.length - l'.length) ++ l') with
    | false => rw [hij] at hs; cases hs
    | true =>
      rw [hij] at hs
      simp only [cond_true] at hs
      cases hr : runG P ops n act (l.take (l.length - l'.length)) e with
      | none => rw [hr] at hs; cases hs
      | some e2 =>
        rw [hr] at hs
        simp only [Option.bind_some] at hs
        rw [sameList_eq _ _ hij]
        exact runG_sound _ l' e e2 hr (fun a ha => k a (ha.weaken (pick_look ks e2 e' hs)))
theorem Oq {u v : Value} (t : Nat) (huv : u = v) (k : OI P r n ds ops Q i (putE n (some t) v e) w) (h : look e t = some u := by kernel_rfl) (ht : Nat.blt t n = true := by kernel_rfl) : OI P r n ds ops Q i e w := by
  subst huv
  refine fun a ha => k a (ha.weaken fun i v hi => ?_)
  unfold putE at hi
  simp only [ht, cond_true] at hi
  unfold look at hi
  cases hb : Nat.beq t i with
  | false => rw [hb] at hi; exact hi
  | true =>
    rw [hb] at hi
    rw [← Nat.eq_of_beq_eq_true hb, ← (show some u = some v from hi)]; exact h
theorem Ose {y : Code} (e' : Env) (k : V P r n ds y Q e' w) (h : statE P ops n i ops.size e (e'.map (·.1)) = some e' := by kernel_rfl) : OI P r n ds ops (Exit.then (fun a w => W P r y Q a w) Q) i e w := OI_static ops.size e' h (Oe k rfl)
theorem Vs {y : Code} {id : Nat} (e' : Env) (k : V P r n ds y Q e' w) (h : statE P ops n 0 ops.size e (e'.map (·.1)) = some e' := by kernel_rfl) : V P r n ds (.seq (.region id ops false) y) Q e w := Vr (Ose e' k h)
theorem Ot {T : TypeId} {b : Nat} {l : List Value} (t : TypeId) (x y : Operand) (o : Nat) (v : Value) (hb : Blk w b l T)
    (k : ∀ w', Blk w' b (over l o [v]) T → Keep (only b) w w' → w'.heap.size = w.heap.size → OI P r n ds ops Q (i + 1) e w') (h : site ops e i = some (none, .store t x y) := by kernel_rfl) (hx : ev e x = .pointer (some ⟨b, o, none⟩) := by kernel_rfl) (hy : ev e y = v := by kernel_rfl)
    (ht : tk P t = some (false, 1) := by kernel_rfl) (hv : v.cells = [v].toArray := by kernel_rfl) (hl : Nat.ble (o + 1) l.length = true := by kernel_rfl) (h1 : v.oneCell' = true := by rfl) : OI P r n ds ops Q i e w :=
  OI_set t x y o v [v] none h hx hy hb ht hv rfl (Nat.le_of_ble_eq_true hl) (fun u hu => by rw [List.mem_singleton.1 hu]; exact h1) k
theorem Otg {T : TypeId} {b m : Nat} {l : List Value} (t : TypeId) (x y : Operand) (o : Nat) (cs : List Value) (hb : Blk w b l T) (hn : cs.length = m) (h1 : ∀ u ∈ cs, u.oneCell' = true)
    (k : ∀ w', Blk w' b (over l o cs) T → Keep (only b) w w' → w'.heap.size = w.heap.size → OI P r n ds ops Q (i + 1) e w') (h : site ops e i = some (none, .store t x y) := by kernel_rfl) (hx : ev e x = .pointer (some ⟨b, o, none⟩) := by kernel_rfl) (hy : ev e y = .agg cs.toArray := by kernel_rfl)
    (ht : tk P t = some (true, m) := by kernel_rfl) (hl : Nat.ble (o + m) l.length = true := by kernel_rfl) : OI P r n ds ops Q i e w :=
  OI_set t x y o (.agg cs.toArray) cs none h hx hy hb ht rfl hn (Nat.le_of_ble_eq_true hl) h1 k
theorem Vd {id : Nat} (act : Nat → Bool) (S : Nat → Prop) (Ls : List (List Nat)) (k : ∀ w1, Keep none_ w w1 → w1.heap = w.heap → ∀ L, L ∈ Ls → GI P r n ds ops Q act S w1 L e w1)
    (hQ : Sure Q := by repeat first | exact sure_body (by rintro _ _ ⟨h, _⟩; exact ⟨_, h⟩) | exact sure_body (by rintro _ _ ⟨_, _, h, _⟩; exact ⟨_, h⟩) | refine sure_then ?_ | refine sure_block ?_ | refine sure_join ?_) (hm : P.follows .mixedOrders = true := by kernel_rfl) (hk : drawOk ops act Ls = true := by kernel_rfl) : V P r n ds (.region id ops true) Q e w := V_draws act S Ls hm hQ hk k
theorem Oi {b o len cap j : Nat} (d : Option Tmp) (t : TypeId) (x y : Operand) (E sz by_ : Nat) (kd : IntKind) (k : OI P r n ds ops Q (i + 1) (putE n d (.pointer (some ⟨b, o + j * sz, none⟩)) e) w) (h1 : j < len := by omega) (h : site ops e i = some (d, .indexAddr t x y) := by kernel_rfl) (hx : ev e x = .slice (some ⟨b, o, none⟩) len cap := by kernel_rfl) (hy : ev e y = .int kd (j : Int) := by kernel_rfl) (hs : slk P t = some (E, sz, by_) := by kernel_rfl) : OI P r n ds ops Q i e w :=
  OI_pure d (.indexAddr t x y) h (pure_idxN hx hy hs h1) k
end
theorem nk {F : Nat → Prop} : ∀ q, F q → ¬ none_ q := fun _ _ f => f
abbrev sl_ (b o n c : Nat) : Value := .slice (some ⟨b, o, none⟩) n c
abbrev po_ (b o : Nat) : Value := .pointer (some ⟨b, o, none⟩)
abbrev rk_ (w : World) (v : Value) : Ending → World → Prop := fun e w' => e = .returned v ∧ Keep none_ w w'
theorem Keep.tn {S : Nat → Prop} {a b c : World} (h : Keep S a b) (k : Keep none_ b c) : Keep S a c := Keep.tr h (Keep.ofNone k)
abbrev kL (f : FuncId) (a : Array Operand) (t : Array TypeId) : Call := { callee := (Callee.value (Operand.func f)), args := a, argTypes := t }
theorem Keep.fr {S0 : Nat → Prop} {b : Nat} {w w1 w2 : World} (h : Keep S0 w w1) (k : Keep (only b) w1 w2) (hf : ∀ i, i < w.heap.size → only b i → S0 i := by intro i hi hs; first | exact hs | exact Or.inl hs | exact Or.inr hs | (exfalso; have hs2 : i = _ := hs; omega)) : Keep S0 w w2 := Keep.fresh h k hf
theorem Blk.k1 {w w' : World} {b c : Nat} {l : List Value} {t : TypeId} (h : Blk w b l t) (k : Keep (only c) w w') (hne : b ≠ c := by omega) : Blk w' b l t := h.keep k hne
theorem At.k0 {w w' : World} {sz cap b o : Nat} {L : List Value} {T : TypeId} {es : List (List Value)} (h : At w b o L T sz cap es) (hk : Keep none_ w w') : At w' b o L T sz cap es := h.keep hk (fun f => f)
theorem At.k1 {w w' : World} {sz cap b c o : Nat} {L : List Value} {T : TypeId} {es : List (List Value)} (h : At w b o L T sz cap es) (hk : Keep (only c) w w') (hne : b ≠ c := by omega) : At w' b o L T sz cap es := h.keep hk hne
theorem AtR.k0 {w w' : World} {sz cap b o : Nat} {L : List Value} {es : List (List Value)} (h : AtR w b o L sz cap es) (hk : Keep none_ w w') : AtR w' b o L sz cap es := h.keep hk (fun f => f)
theorem AtR.k1 {w w' : World} {sz cap b c o : Nat} {L : List Value} {es : List (List Value)} (h : AtR w b o L sz cap es) (hk : Keep (only c) w w') (hne : b ≠ c := by omega) : AtR w' b o L sz cap es := h.keep hk hne
theorem BlkR.k0 {w w' : World} {b : Nat} {L : List Value} (h : BlkR w b L) (hk : Keep none_ w w') : BlkR w' b L := h.keep hk (fun f => f)
theorem BlkR.k1 {w w' : World} {b c : Nat} {L : List Value} (h : BlkR w b L) (hk : Keep (only c) w w') (hne : b ≠ c := by omega) : BlkR w' b L := h.keep hk hne
theorem Blk.k0 {w w' : World} {b : Nat} {l : List Value} {t : TypeId} (h : Blk w b l t) (k : Keep none_ w w') : Blk w' b l t := h.keep k (fun f => f)
end Go.Al
namespace Go.Al
open Go Go.RowKit
abbrev Env0 := Env
section
variable {P : Program} {r : Option Nat} {n : Nat} {ds : List Deferred} {ops : Array Oper} {Q : Post} {i : Nat} {e : Env} {w : World} {x y z : Code} {act : Nat → Bool} {S : Nat → Prop} {w1 : World} {l : List Nat} {f : FuncId} {args : Array Value} {v : Value}
theorem Kx {R : World → Prop} (hR : Calls P f args w fun e w' => e = .returned v ∧ R w') (k : ∀ w', R w' → OI P r n ds ops Q (i + 1) (putE n (dstAt ops i) v e) w') (h : site ops e i = some (dstAt ops i, .call (callAt ops i)) := by kernel_rfl) (hc : callee e (callAt ops i) = some (f, args) := by kernel_rfl) (hf : bodied P f = true := by kernel_rfl) : OI P r n ds ops Q i e w :=
  Ok _ f args _ hR (by rintro _ w' ⟨rfl, hw⟩; exact ⟨_, rfl, k w' hw⟩) h hc hf
theorem Kq (hR : Calls P f args w fun e w' => e = .returned v ∧ w' = w) (k : OI P r n ds ops Q (i + 1) (putE n (dstAt ops i) v e) w) (h : site ops e i = some (dstAt ops i, .call (callAt ops i)) := by kernel_rfl) (hc : callee e (callAt ops i) = some (f, args) := by kernel_rfl) (hf : bodied P f = true := by kernel_rfl) : OI P r n ds ops Q i e w :=
  Kx hR (by rintro _ rfl; exact k) h hc hf
theorem Kk {S : Nat → Prop} (hR : Calls P f args w fun e w' => e = .returned v ∧ Keep S w w') (k : ∀ w', Keep S w w' → w.heap.size ≤ w'.heap.size → OI P r n ds ops Q (i + 1) (putE n (dstAt ops i) v e) w') (h : site ops e i = some (dstAt ops i, .call (callAt ops i)) := by kernel_rfl) (hc : callee e (callAt ops i) = some (f, args) := by kernel_rfl) (hf : bodied P f = true := by kernel_rfl) : OI P r n ds ops Q i e w :=
  Kx hR (fun w' hw => k w' hw hw.size) h hc hf
theorem Kg {R : Ending → World → Prop} (hR : Calls P f args w R) (k : ∀ e' w', R e' w' → ∃ v, e' = .returned v ∧ OI P r n ds ops Q (i + 1) (putE n (dstAt ops i) v e) w') (h : site ops e i = some (dstAt ops i, .call (callAt ops i)) := by kernel_rfl) (hc : callee e (callAt ops i) = some (f, args) := by kernel_rfl) (hf : bodied P f = true := by kernel_rfl) : OI P r n ds ops Q i e w :=
  Ok _ f args _ hR k h hc hf
theorem Jx {R : World → Prop} (hR : Calls P f args w fun e w' => e = .returned v ∧ R w') (k : ∀ w', R w' → GI P r n ds ops Q act S w1 l (putE n (dstAt ops i) v e) w') (h : site ops e i = some (dstAt ops i, .call (callAt ops i)) := by kernel_rfl) (hact : act i = true := by kernel_rfl) (hn : need ops act i = false := by kernel_rfl) (hc : callee e (callAt ops i) = some (f, args) := by kernel_rfl) (hf : bodied P f = true := by kernel_rfl) : GI P r n ds ops Q act S w1 (i :: l) e w :=
  Gk0 _ f args _ hR (by rintro _ w' ⟨rfl, hw⟩; exact ⟨_, rfl, k w' hw⟩) h hact hn hc hf
theorem Jq (hR : Calls P f args w fun e w' => e = .returned v ∧ w' = w) (k : GI P r n ds ops Q act S w1 l (putE n (dstAt ops i) v e) w) (h : site ops e i = some (dstAt ops i, .call (callAt ops i)) := by kernel_rfl) (hact : act i = true := by kernel_rfl) (hn : need ops act i = false := by kernel_rfl) (hc : callee e (callAt ops i) = some (f, args) := by kernel_rfl) (hf : bodied P f = true := by kernel_rfl) : GI P r n ds ops Q act S w1 (i :: l) e w :=
  Jx hR (by rintro _ rfl; exact k) h hact hn hc hf
theorem Jk {S' : Nat → Prop} (hR : Calls P f args w fun e w' => e = .returned v ∧ Keep S' w w') (k : ∀ w', Keep S' w w' → w.heap.size ≤ w'.heap.size → GI P r n ds ops Q act S w1 l (putE n (dstAt ops i) v e) w') (h : site ops e i = some (dstAt ops i, .call (callAt ops i)) := by kernel_rfl) (hact : act i = true := by kernel_rfl) (hn : need ops act i = false := by kernel_rfl) (hc : callee e (callAt ops i) = some (f, args) := by kernel_rfl) (hf : bodied P f = true := by kernel_rfl) : GI P r n ds ops Q act S w1 (i :: l) e w :=
  Jx hR (fun w' hw => k w' hw hw.size) h hact hn hc hf
theorem Jg {R : Ending → World → Prop} (hR : Calls P f args w R) (k : ∀ e' w', R e' w' → ∃ v, e' = .returned v ∧ GI P r n ds ops Q act S w1 l (putE n (dstAt ops i) v e) w') (h : site ops e i = some (dstAt ops i, .call (callAt ops i)) := by kernel_rfl) (hact : act i = true := by kernel_rfl) (hn : need ops act i = false := by kernel_rfl) (hc : callee e (callAt ops i) = some (f, args) := by kernel_rfl) (hf : bodied P f = true := by kernel_rfl) : GI P r n ds ops Q act S w1 (i :: l) e w :=
  Gk0 _ f args _ hR k h hact hn hc hf
theorem Hq (K : Keep S w1 w) (hR : Calls P f args w fun e w' => e = .returned v ∧ w' = w) (k : GI P r n ds ops Q act S w1 l (putE n (dstAt ops i) v e) w) (h : site ops e i = some (dstAt ops i, .call (callAt ops i)) := by kernel_rfl) (hact : act i = true := by kernel_rfl) (hc : callee e (callAt ops i) = some (f, args) := by kernel_rfl) (hf : bodied P f = true := by kernel_rfl) : GI P r n ds ops Q act S w1 (i :: l) e w :=
  Gk _ f args _ hR (by rintro _ w' ⟨rfl, rfl⟩; exact ⟨_, rfl, K, k⟩) h hact hc hf
theorem Hg {R : Ending → World → Prop} (hR : Calls P f args w R) (k : ∀ e' w', R e' w' → ∃ v, e' = .returned v ∧ Keep S w1 w' ∧ GI P r n ds ops Q act S w1 l (putE n (dstAt ops i) v e) w') (h : site ops e i = some (dstAt ops i, .call (callAt ops i)) := by kernel_rfl) (hact : act i = true := by kernel_rfl) (hc : callee e (callAt ops i) = some (f, args) := by kernel_rfl) (hf : bodied P f = true := by kernel_rfl) : GI P r n ds ops Q act S w1 (i :: l) e w :=
  Gk _ f args _ hR k h hact hc hf
theorem Lc {T : TypeId} {b : Nat} {L : List Value} (o : Nat) (v : Value) (hb : Blk w b L T) (hv : L[o]? = some v) (k : OI P r n ds ops Q (i + 1) (putE n (dstAt ops i) v e) w) (h : site ops e i = some (dstAt ops i, .load (tyAt ops i) (xAt ops i)) := by kernel_rfl) (hx : ev e (xAt ops i) = .pointer (some ⟨b, o, none⟩) := by kernel_rfl) (ht : tk P (tyAt ops i) = some (false, 1) := by kernel_rfl) : OI P r n ds ops Q i e w := Oc _ _ o v _ hb hv k h hx ht
theorem Lr {T : TypeId} {b : Nat} {L : List Value} (o : Nat) (v : Value) (hb : Blk w b L T) (k : OI P r n ds ops Q (i + 1) (putE n (dstAt ops i) v e) w) (hv : L[o]? = some v := by kernel_rfl) (h : site ops e i = some (dstAt ops i, .load (tyAt ops i) (xAt ops i)) := by kernel_rfl) (hx : ev e (xAt ops i) = .pointer (some ⟨b, o, none⟩) := by kernel_rfl) (ht : tk P (tyAt ops i) = some (false, 1) := by kernel_rfl) : OI P r n ds ops Q i e w := Oc _ _ o v _ hb hv k h hx ht
theorem Mc {T : TypeId} {b : Nat} {L : List Value} (o : Nat) (v : Value) (hb : Blk w1 b L T) (hS : ¬ S b) (hv : L[o]? = some v) (k : GI P r n ds ops Q act S w1 l (putE n (dstAt ops i) v e) w) (h : site ops e i = some (dstAt ops i, .load (tyAt ops i) (xAt ops i)) := by kernel_rfl) (hact : act i = false := by kernel_rfl) (hx : ev e (xAt ops i) = .pointer (some ⟨b, o, none⟩) := by kernel_rfl) (ht : tk P (tyAt ops i) = some (false, 1) := by kernel_rfl) : GI P r n ds ops Q act S w1 (i :: l) e w := Gc _ _ o v _ hb hS hv k h hact hx ht
theorem Mr {T : TypeId} {b : Nat} {L : List Value} (o : Nat) (v : Value) (hb : Blk w1 b L T) (k : GI P r n ds ops Q act none_ w1 l (putE n (dstAt ops i) v e) w) (hv : L[o]? = some v := by kernel_rfl) (h : site ops e i = some (dstAt ops i, .load (tyAt ops i) (xAt ops i)) := by kernel_rfl) (hact : act i = false := by kernel_rfl) (hx : ev e (xAt ops i) = .pointer (some ⟨b, o, none⟩) := by kernel_rfl) (ht : tk P (tyAt ops i) = some (false, 1) := by kernel_rfl) : GI P r n ds ops Q act none_ w1 (i :: l) e w := Gc0 _ _ o v _ hb hv k h hact hx ht
theorem Mc0 {T : TypeId} {b : Nat} {L : List Value} (o : Nat) (v : Value) (hb : Blk w1 b L T) (hv : L[o]? = some v) (k : GI P r n ds ops Q act none_ w1 l (putE n (dstAt ops i) v e) w) (h : site ops e i = some (dstAt ops i, .load (tyAt ops i) (xAt ops i)) := by kernel_rfl) (hact : act i = false := by kernel_rfl) (hx : ev e (xAt ops i) = .pointer (some ⟨b, o, none⟩) := by kernel_rfl) (ht : tk P (tyAt ops i) = some (false, 1) := by kernel_rfl) : GI P r n ds ops Q act none_ w1 (i :: l) e w := Gc0 _ _ o v _ hb hv k h hact hx ht
theorem La {T : TypeId} {b : Nat} {L : List Value} (o : Nat) (cs : List Value) (m : Nat) (hb : Blk w b L T) (hv : (L.drop o).take m = cs) (hm : cs.length = m) (k : OI P r n ds ops Q (i + 1) (putE n (dstAt ops i) (.agg cs.toArray) e) w) (h : site ops e i = some (dstAt ops i, .load (tyAt ops i) (xAt ops i)) := by kernel_rfl) (hx : ev e (xAt ops i) = .pointer (some ⟨b, o, none⟩) := by kernel_rfl) (ht : tk P (tyAt ops i) = some (true, m) := by kernel_rfl) : OI P r n ds ops Q i e w := Oa _ _ o cs _ m hb hv hm k h hx ht
theorem Ma {T : TypeId} {b : Nat} {L : List Value} (o : Nat) (cs : List Value) (m : Nat) (hb : Blk w1 b L T) (hS : ¬ S b) (hv : (L.drop o).take m = cs) (hm : cs.length = m) (k : GI P r n ds ops Q act S w1 l (putE n (dstAt ops i) (.agg cs.toArray) e) w) (h : site ops e i = some (dstAt ops i, .load (tyAt ops i) (xAt ops i)) := by kernel_rfl) (hact : act i = false := by kernel_rfl) (hx : ev e (xAt ops i) = .pointer (some ⟨b, o, none⟩) := by kernel_rfl) (ht : tk P (tyAt ops i) = some (true, m) := by kernel_rfl) : GI P r n ds ops Q act S w1 (i :: l) e w := Ga _ _ o cs _ m hb hS hv hm k h hact hx ht
theorem Bx (t : TypeId) (L : List Value) (k : ∀ b w', b = w.heap.size → Blk w' b L t → Keep none_ w w' → w'.heap.size = b + 1 → OI P r n ds ops Q (i + 1) (putE n (dstAt ops i) (.pointer (some ⟨b, 0, none⟩)) e) w') (h : site ops e i = some (dstAt ops i, .box t (xAt ops i)) := by kernel_rfl) (hl : (ev e (xAt ops i)).cells = L.toArray := by kernel_rfl) : OI P r n ds ops Q i e w := OI_box t _ _ L _ h rfl hl k
theorem Alc_ (t : TypeId) (v : Value) (L : List Value) (k : ∀ b w', b = w.heap.size → Blk w' b L t → Keep none_ w w' → w'.heap.size = b + 1 → OI P r n ds ops Q (i + 1) (putE n (dstAt ops i) (.pointer (some ⟨b, 0, none⟩)) e) w') (h : site ops e i = some (dstAt ops i, .alloc t) := by kernel_rfl) (hz : zeroV P t = some v := by kernel_rfl) (hl : v.cells = L.toArray := by kernel_rfl) : OI P r n ds ops Q i e w := OI_alloc t v L _ h hz hl k
theorem St_ {T : TypeId} {b : Nat} {L : List Value} (o : Nat) (v : Value) (hb : Blk w b L T)
    (k : ∀ w', Blk w' b (over L o [v]) T → Keep (only b) w w' → w'.heap.size = w.heap.size → OI P r n ds ops Q (i + 1) e w') (h : site ops e i = some (none, .store (tyAt ops i) (xAt ops i) (yAt ops i)) := by kernel_rfl) (hx : ev e (xAt ops i) = .pointer (some ⟨b, o, none⟩) := by kernel_rfl) (hy : ev e (yAt ops i) = v := by kernel_rfl)
    (ht : tk P (tyAt ops i) = some (false, 1) := by kernel_rfl) (hv : v.cells = [v].toArray := by kernel_rfl) (hl : Nat.ble (o + 1) L.length = true := by kernel_rfl) (h1 : v.oneCell' = true := by rfl) : OI P r n ds ops Q i e w := Ot _ _ _ o v hb k h hx hy ht hv hl h1
theorem Sg {T : TypeId} {b m : Nat} {L : List Value} (o : Nat) (cs : List Value) (hb : Blk w b L T) (hn : cs.length = m) (h1 : ∀ u ∈ cs, u.oneCell' = true)
    (k : ∀ w', Blk w' b (over L o cs) T → Keep (only b) w w' → w'.heap.size = w.heap.size → OI P r n ds ops Q (i + 1) e w') (h : site ops e i = some (none, .store (tyAt ops i) (xAt ops i) (yAt ops i)) := by kernel_rfl) (hx : ev e (xAt ops i) = .pointer (some ⟨b, o, none⟩) := by kernel_rfl) (hy : ev e (yAt ops i) = .agg cs.toArray := by kernel_rfl)
    (ht : tk P (tyAt ops i) = some (true, m) := by kernel_rfl) (hl : Nat.ble (o + m) L.length = true := by kernel_rfl) : OI P r n ds ops Q i e w := Otg _ _ _ o cs hb hn h1 k h hx hy ht hl
theorem weak_put {u : Value} {t : Nat} {e : Env} (h : look e t = some u) (ht : Nat.blt t n = true) : ∀ j v, look (putE n (some t) u e) j = some v → look e j = some v := by
  intro j v hj
  unfold putE at hj
  simp only [ht, cond_true] at hj
  unfold look at hj
  cases hb : Nat.beq t j with
  | false => rw [hb] at hj; exact hj
  | true => rw [hb] at hj; rw [← Nat.eq_of_beq_eq_true hb, ← (show some u = some v from hj)]; exact h
theorem Gq_ {u v : Value} (t : Nat) (huv : u = v) (k : GI P r n ds ops Q act S w1 l (putE n (some t) v e) w) (h : look e t = some u := by kernel_rfl) (ht : Nat.blt t n = true := by kernel_rfl) : GI P r n ds ops Q act S w1 l e w := by
  subst huv; exact fun a ha => k a (ha.weaken (weak_put h ht))
theorem Vq {u v : Value} (t : Nat) (huv : u = v) (k : V P r n ds x Q (putE n (some t) v e) w) (h : look e t = some u := by kernel_rfl) (ht : Nat.blt t n = true := by kernel_rfl) : V P r n ds x Q e w := by
  subst huv; exact fun a ha => k a (ha.weaken (weak_put h ht))
theorem Dt {p : Prop} [Decidable p] (t : Nat) (hp : p) (k : OI P r n ds ops Q i (putE n (some t) (.bool true) e) w) (h : look e t = some (.bool (decide p)) := by kernel_rfl) (ht : Nat.blt t n = true := by kernel_rfl) : OI P r n ds ops Q i e w := Oq t (by rw [decide_eq_true hp]) k h ht
theorem Df {p : Prop} [Decidable p] (t : Nat) (hp : ¬ p) (k : OI P r n ds ops Q i (putE n (some t) (.bool false) e) w) (h : look e t = some (.bool (decide p)) := by kernel_rfl) (ht : Nat.blt t n = true := by kernel_rfl) : OI P r n ds ops Q i e w := Oq t (by rw [decide_eq_false hp]) k h ht
theorem Nt {p : Prop} [Decidable p] (t : Nat) (hp : p) (k : OI P r n ds ops Q i (putE n (some t) (.bool false) e) w) (h : look e t = some (.bool (!(decide p))) := by kernel_rfl) (ht : Nat.blt t n = true := by kernel_rfl) : OI P r n ds ops Q i e w := Oq t (by rw [decide_eq_true hp]; rfl) k h ht
theorem Nf {p : Prop} [Decidable p] (t : Nat) (hp : ¬ p) (k : OI P r n ds ops Q i (putE n (some t) (.bool true) e) w) (h : look e t = some (.bool (!(decide p))) := by kernel_rfl) (ht : Nat.blt t n = true := by kernel_rfl) : OI P r n ds ops Q i e w := Oq t (by rw [decide_eq_false hp]; rfl) k h ht
theorem Et {p : Prop} [Decidable p] (t : Nat) (hp : p) (k : GI P r n ds ops Q act S w1 l (putE n (some t) (.bool true) e) w) (h : look e t = some (.bool (decide p)) := by kernel_rfl) (ht : Nat.blt t n = true := by kernel_rfl) : GI P r n ds ops Q act S w1 l e w := Gq_ t (by rw [decide_eq_true hp]) k h ht
theorem Ef {p : Prop} [Decidable p] (t : Nat) (hp : ¬ p) (k : GI P r n ds ops Q act S w1 l (putE n (some t) (.bool false) e) w) (h : look e t = some (.bool (decide p)) := by kernel_rfl) (ht : Nat.blt t n = true := by kernel_rfl) : GI P r n ds ops Q act S w1 l e w := Gq_ t (by rw [decide_eq_false hp]) k h ht
theorem Oen (ks : List Nat) (k : V P r n ds y Q ((statE P ops n i ops.size e ks).getD []) w) (h : (statE P ops n i ops.size e ks).isSome = true := by kernel_rfl) : OI P r n ds ops (Exit.then (fun a w => W P r y Q a w) Q) i e w := On ops.size ks (Oe k rfl) h
theorem Vn {id : Nat} (ks : List Nat) (k : V P r n ds y Q ((statE P ops n 0 ops.size e ks).getD []) w) (h : (statE P ops n 0 ops.size e ks).isSome = true := by kernel_rfl) : V P r n ds (.seq (.region id ops false) y) Q e w := Vr (Oen ks k h)
theorem Vi {t : Nat} (p : Prop) [Decidable p] (ht : p → V P r n ds x Q e w) (hf : ¬ p → V P r n ds y Q e w) (h : look e t = some (.bool (decide p)) := by kernel_rfl) : V P r n ds (.cond (.tmp t) x y) Q e w := V_if p h ht hf
theorem Vb {t : Nat} (b : Bool) (ht : b = true → V P r n ds x Q e w) (hf : b = false → V P r n ds y Q e w) (h : look e t = some (.bool b) := by kernel_rfl) : V P r n ds (.cond (.tmp t) x y) Q e w := V_ifb b h ht hf
theorem Vo {t : Nat} (k : V P r n ds x Q e w) (h : look e t = some (.bool true) := by kernel_rfl) : V P r n ds (.cond (.tmp t) x y) Q e w := V_true h k
theorem Vf {t : Nat} (k : V P r n ds y Q e w) (h : look e t = some (.bool false) := by kernel_rfl) : V P r n ds (.cond (.tmp t) x y) Q e w := V_false h k
theorem Vp (e' : Env) (k : V P r n ds x Q e' w) (h : pick (e'.map (·.1)) e = some e' := by kernel_rfl) : V P r n ds x Q e w := V_pick e' h k
theorem Vsk (h : V P r n ds y Q e w) : V P r n ds .skip (Exit.then (fun a w => W P r y Q a w) Q) e w := V_skip (X_then h)
theorem Rt (h : XV n ds .ret Q e w) {K : Act → World → Prop} : V P r n ds .ret (Exit.then K Q) e w := V_ret (X_ret_then h)
theorem Xr {fn : Func} {R : Ending → World → Prop} (v : Value) (hR : R (.returned v) w) (h : resE fn e = some v := by kernel_rfl) : XV n [] .ret (bodyPost P fn R) e w := X_return v h hR
theorem Rr {fn : Func} {R : Ending → World → Prop} (v : Value) (hR : R (.returned v) w) (h : resE fn e = some v := by kernel_rfl) : V P r n [] .ret (bodyPost P fn R) e w := V_ret (X_return v h hR)
theorem Vd1 {id : Nat} (act : Nat → Bool) (S : Nat → Prop) (L : List Nat) (k : ∀ w1, Keep none_ w w1 → w1.heap = w.heap → Keep S w1 w1 → w.heap.size ≤ w1.heap.size → GI P r n ds ops Q act S w1 L e w1)
    (hQ : Sure Q := by repeat first | exact sure_body (by rintro _ _ ⟨h, _⟩; exact ⟨_, h⟩) | exact sure_body (by rintro _ _ ⟨_, _, h, _⟩; exact ⟨_, h⟩) | refine sure_then ?_ | refine sure_block ?_ | refine sure_join ?_) (hm : P.follows .mixedOrders = true := by kernel_rfl) (hk : drawOk ops act [L] = true := by kernel_rfl) : V P r n ds (.region id ops true) Q e w :=
  Vd act S [L] (fun w1 h1 h2 L' hL => by obtain rfl := List.mem_singleton.1 hL; exact k w1 h1 h2 (Keep.refl _ _) h1.size) hQ hm hk
end
theorem eV {P : Program} {f : FuncId} {fn : Func} {c : Code} {l : List Value} {n : Nat} {w : World} {R : Ending → World → Prop} (h : V P none n [] c (bodyPost P fn R) (zipE 0 l) w) (hf : P.funcs[f]? = some fn := by rfl) (hb : fn.body = some c := by rfl) (hn : fn.ntmps = n := by rfl) (hle : Nat.ble l.length n = true := by rfl) : Calls P f l.toArray w R := enterV hf hb l n rfl hn hle h
def zT_ (ops : Array Oper) (i : Nat) : TypeId := match ops[i]? with | some o => (match o.op with | .indexAddr t _ _ => t | .slice t _ _ _ _ => t | _ => 0) | none => 0
def zX_ (ops : Array Oper) (i : Nat) : Operand := match ops[i]? with | some o => (match o.op with | .indexAddr _ x _ => x | .slice _ x _ _ _ => x | _ => .const (.bool true)) | none => .const (.bool true)
def zY_ (ops : Array Oper) (i : Nat) : Operand := match ops[i]? with | some o => (match o.op with | .indexAddr _ _ y => y | .slice _ _ (some y) _ _ => y | .slice _ _ none (some y) _ => y | _ => .const (.bool true)) | none => .const (.bool true)
section
variable {P : Program} {r : Option Nat} {n : Nat} {ds : List Deferred} {ops : Array Oper} {Q : Post} {i : Nat} {e : Env} {w : World} {act : Nat → Bool} {S : Nat → Prop} {w1 : World} {l : List Nat}
theorem Gi {b o len cap j : Nat} (E sz by_ : Nat) (kd : IntKind) (k : GI P r n ds ops Q act S w1 l (putE n (dstAt ops i) (.pointer (some ⟨b, o + j * sz, none⟩)) e) w) (h1 : j < len := by omega) (h : site ops e i = some (dstAt ops i, .indexAddr (zT_ ops i) (zX_ ops i) (zY_ ops i)) := by kernel_rfl) (ha : act i = false := by kernel_rfl)
    (hx : ev e (zX_ ops i) = .slice (some ⟨b, o, none⟩) len cap := by kernel_rfl) (hy : ev e (zY_ ops i) = .int kd (j : Int) := by kernel_rfl) (hs : slk P (zT_ ops i) = some (E, sz, by_) := by kernel_rfl) : GI P r n ds ops Q act S w1 (i :: l) e w :=
  GI_pure _ _ h ha (pure_idxN hx hy hs h1) k
theorem Osf {b o len cap j : Nat} (E sz by_ : Nat) (k : OI P r n ds ops Q (i + 1) (putE n (dstAt ops i) (.slice (some ⟨b, o + j * sz, none⟩) (len - j) (cap - j)) e) w) (h1 : j ≤ len := by omega) (h2 : len ≤ cap := by omega) (h3 : j < cap := by omega) (h : site ops e i = some (dstAt ops i, .slice (zT_ ops i) (zX_ ops i) (some (zY_ ops i)) none none) := by kernel_rfl)
    (hx : ev e (zX_ ops i) = .slice (some ⟨b, o, none⟩) len cap := by kernel_rfl) (hs : slk P (zT_ ops i) = some (E, sz, by_) := by kernel_rfl) (hy : ev e (zY_ ops i) = .int .i64 (j : Int) := by kernel_rfl) : OI P r n ds ops Q i e w :=
  OI_pure _ _ h (pure_sliceFrom hx hs hy h1 h2 h3) k
theorem Gsf {b o len cap j : Nat} (E sz by_ : Nat) (k : GI P r n ds ops Q act S w1 l (putE n (dstAt ops i) (.slice (some ⟨b, o + j * sz, none⟩) (len - j) (cap - j)) e) w) (h1 : j ≤ len := by omega) (h2 : len ≤ cap := by omega) (h3 : j < cap := by omega) (h : site ops e i = some (dstAt ops i, .slice (zT_ ops i) (zX_ ops i) (some (zY_ ops i)) none none) := by kernel_rfl) (ha : act i = false := by kernel_rfl)
    (hx : ev e (zX_ ops i) = .slice (some ⟨b, o, none⟩) len cap := by kernel_rfl) (hs : slk P (zT_ ops i) = some (E, sz, by_) := by kernel_rfl) (hy : ev e (zY_ ops i) = .int .i64 (j : Int) := by kernel_rfl) : GI P r n ds ops Q act S w1 (i :: l) e w :=
  GI_pure _ _ h ha (pure_sliceFrom hx hs hy h1 h2 h3) k
theorem Ost {base : Option Addr} {len cap j : Nat} (E sz by_ : Nat) (k : OI P r n ds ops Q (i + 1) (putE n (dstAt ops i) (.slice base j cap) e) w) (h1 : j ≤ cap := by omega) (h : site ops e i = some (dstAt ops i, .slice (zT_ ops i) (zX_ ops i) none (some (zY_ ops i)) none) := by kernel_rfl)
    (hx : ev e (zX_ ops i) = .slice base len cap := by kernel_rfl) (hs : slk P (zT_ ops i) = some (E, sz, by_) := by kernel_rfl) (hy : ev e (zY_ ops i) = .int .i64 (j : Int) := by kernel_rfl) : OI P r n ds ops Q i e w :=
  OI_pure _ _ h (pure_sliceTo hx hs hy h1) k
end
section
variable {S T F G : Nat → Prop} {a b c : World} {m x : Nat}
theorem frr (h : Keep S a b) (k : Keep T b c) (r : ∀ q, T q → S q ∨ m ≤ q) (hm : a.heap.size ≤ m := by omega) : Keep S a c :=
  Keep.fresh h k (fun i hi hs => by rcases r i hs with h | h; exact h; (exfalso; omega))
theorem frl (h : Keep (fun q => F q ∨ G q) a b) (k : Keep T b c) (r : ∀ q, T q → F q ∨ m ≤ q) (hm : a.heap.size ≤ m := by omega) : Keep (fun q => F q ∨ G q) a c :=
  Keep.fresh h k (fun i hi hs => by rcases r i hs with h | h; exact .inl h; (exfalso; omega))
theorem frR (h : Keep (fun q => F q ∨ G q) a b) (k : Keep T b c) (r : ∀ q, T q → G q ∨ m ≤ q) (hm : a.heap.size ≤ m := by omega) : Keep (fun q => F q ∨ G q) a c :=
  Keep.fresh h k (fun i hi hs => by rcases r i hs with h | h; exact .inr h; (exfalso; omega))
theorem fro (h : Keep S a b) (k : Keep (only x) b c) (hx : S x) : Keep S a c :=
  Keep.fresh h k (fun i hi hs => by have hs2 : i = x := hs; rw [hs2]; exact hx)
theorem frn (h : Keep S a b) (k : Keep (only x) b c) (hx : a.heap.size ≤ x := by omega) : Keep S a c :=
  Keep.fresh h k (fun i hi hs => by have hs2 : i = x := hs; exfalso; omega)
theorem nb1 {p : Prop} : ¬ (x ≠ x ∧ p) := fun h => h.1 rfl
theorem nb2 {p : Prop} : ¬ (p ∧ x ≠ x) := fun h => h.2 rfl
theorem ltm {n k : Nat} (h : ∀ q, F q → q < n) (hk : n ≤ k := by omega) : ∀ q, F q → q < k := fun q hq => Nat.lt_of_lt_of_le (h q hq) hk
end
end Go.Al
namespace Go.Al
open Go Go.RowKit Go.Proofs
theorem isNaN_spec (x : Int) (w : World) : Calls Tryz.prog 109 #[nt x] w fun e w' => e = .returned (.bool false) ∧ w' = w := by
 refine eV ?_
 refine Vr <| On 1 [0] <| Oer <| Ose [(2, .bool (!(decide (x = x))))] <| V_ret ?_
 exact X_return _ rfl ⟨by simp, rfl⟩
def cmpI (x y : Int) : Int := if x < y then -1 else if x > y then 1 else 0
theorem compare_spec (x y : Int) (w : World) : Calls Tryz.prog 94 #[nt x, nt y] w fun e w' => e = .returned (nt (cmpI x y)) ∧ w' = w := by
 refine eV ?_
 refine Vr <| On 1 [0, 1] <| Oer <| On 1 [0, 1, 7] <| Kq (isNaN_spec x _) <| On 3 [0, 1, 5] <| Oer <| On 1 [0, 1, 5, 9] <| Kq (isNaN_spec y _) <| On 3 [0, 1, 5, 6] <| Oe <| V_seq <| Vn [0, 1, 6, 11] <| Vf <| Vsk <| V_seq <| Vn [0, 1, 13] <| Vf <| Vsk <| V_seq <| Vn [0, 1, 16] <| Vi (x < y) (fun hc3 => ?_) (fun hc3 => ?_)
 ·
  exact Vn [4] <| Rt <| Xr (nt (-1)) ⟨by unfold cmpI; simp [*], rfl⟩
 refine Vsk <| V_seq <| Vn [19] <| Vi (x > y) (fun hc4 => ?_) (fun hc4 => ?_)
 ·
  exact Vn [4] <| Rt <| Xr (nt 1) ⟨by unfold cmpI; simp [*], rfl⟩
 exact Vsk <| Vn [4] <| Rr (nt 0) ⟨by unfold cmpI; simp [*], rfl⟩
def orI : List Int → Int
  | [] => 0
  | x :: l => if x ≠ 0 then x else orI l
def intc (x : Int) : List Value := [nt x]
theorem intc_len (x : Int) : (intc x).length = 1 := rfl
theorem intc_one (x : Int) : ∀ u ∈ intc x, u.oneCell' = true := by
  intro u hu
  rw [List.mem_singleton.1 hu]
  rfl
theorem orI_drop {xs : List Int} {i : Nat} {x : Int} (hx : xs[i]? = some x) : orI (xs.drop i) = if x ≠ 0 then x else orI (xs.drop (i + 1)) := by
  obtain ⟨h, rfl⟩ := List.getElem?_eq_some_iff.1 hx
  rw [List.drop_eq_getElem_cons h]; rfl
theorem or_spec (A : Option Addr) (cap : Nat) (xs : List Int) (w : World) (hA : SlT w 1 intc A cap xs) (hn : xs.length ≤ 1000000) : Calls Tryz.prog 93 #[.slice A xs.length cap] w fun e w' => e = .returned (nt (orI xs)) ∧ w' = w := by
 refine eV ?_
 refine Vr <| On 1 [0] <| Oer <| On 1 [0, 3] <| Oe <| V_seq <| Vn [3, 6, 7, 8] <| V_block <| Vp [(3, nt 0),(6, .slice A xs.length cap),(7, nt (xs.length : Int)),(8, nt 0)] <| V_loop (fun k wI e => ∃ i : Nat, (k + i = xs.length) ∧ (orI (xs.drop i) = orI xs) ∧ w = wI ∧ e = [(3, nt 0),(6, .slice A xs.length cap),(7, nt (xs.length : Int)),(8, nt (i : Int))]) xs.length ⟨0, rfl, rfl, rfl, rfl⟩ ?_
 rintro k2 _ _ ⟨i, hki, ho, rfl, rfl⟩
 refine Vn [3, 6, 7, 8, 9] <| V_seq <| Vi ((i : Int) < (xs.length : Int)) (fun hc3 => ?_) (fun hc3 => ?_)
 ·
  refine Vsk <| V_seq <| V_block <| Vr ?_
  obtain ⟨b4, o4, L4, T4, rfl, hat4⟩ := SlT.opn hA
  have hb4lt := hat4.blk.lt
  refine Oi (b := b4) (o := o4) (len := xs.length) (cap := cap) (j := i) (some 10) 49 (.tmp 6) (.tmp 8) 3 1 8 .i64 ?_
  obtain ⟨x5, hx6⟩ := exAt (xs := xs) (i := i)
  refine Lc (o4 + i * 1) (nt x5) hat4.blk (At.cell0 hat4 (es_at hx6) rfl) <| On 3 [3, 5, 6, 7, 8] <| Oer <| Oen [3, 5, 6, 7, 8, 14] <| V_not (x5 = 0) (by kernel_rfl) (fun hc7 => ?_) (fun hc7 => ?_)
  ·
   refine Vs [(2, nt x5)] <| V_ret <| X_ret_block <| X_ret_then <| X_ret_then <| X_ret_block <| X_ret_then ?_
   have hz : orI xs = x5 := by rw [← ho, orI_drop hx6, if_pos hc7]
   exact X_return _ rfl ⟨by rw [hz], rfl⟩
  refine V_skip <| X_block <| X_then <| V_region ?_
  have hw8 : i64.wrap ((i : Int) + 1) = ((i + 1 : Nat) : Int) := wrp
  refine On 1 [3, 6, 7, 16] <| Oq (u := nt (i64.wrap ((i : Int) + 1))) (v := nt ((i + 1 : Nat) : Int)) 16 (by rw [hw8]) <| Os 2 [(3, nt 0),(6, sl_ b4 o4 xs.length cap),(7, nt (xs.length : Int)),(8, nt ((i + 1 : Nat) : Int))] <| OI_end rfl ?_
  exact V_again (k2 - 1) (by omega) [(3, nt 0),(6, sl_ b4 o4 xs.length cap),(7, nt (xs.length : Int)),(8, nt ((i + 1 : Nat) : Int))] rfl ⟨i + 1, by omega, by rw [← ho, orI_drop hx6, if_neg (by simpa using hc7)], rfl, rfl⟩
 refine V_exit <| X_exit_then <| X_exit_then <| X_exit_here <| X_then <| Vs [(2, nt 0)] <| V_ret ?_
 have he : i = xs.length := by omega
 have hz : orI xs = 0 := by rw [← ho, he, List.drop_length]; rfl
 exact X_return _ rfl ⟨by rw [hz], rfl⟩
end Go.Al
namespace Go.Al
open Go Go.RowKit Go.Proofs
structure Vt where
  kind : Int
  aye : Bool
  level : Int
  a : Int
  n : Int
  s : Int
  deriving DecidableEq
def Vt.cells (x : Vt) : List Value := [nt x.kind, .bool x.aye, nt x.level, nt x.a, nt x.n, nt x.s]
theorem Vt.len (x : Vt) : x.cells.length = 6 := rfl
def Vt.zero : Vt := ⟨0, false, 0, 0, 0, 0⟩
structure Wgt where
  v : Int
  c : Int
  deriving DecidableEq
def Wgt.cells (x : Wgt) : List Value := [nt x.v, nt x.c]
theorem Wgt.len (x : Wgt) : x.cells.length = 2 := rfl
structure Tly where
  a : Int
  n : Int
  s : Int
  deriving DecidableEq
def Tly.cells (x : Tly) : List Value := [nt x.a, nt x.n, nt x.s]
theorem Tly.len (x : Tly) : x.cells.length = 3 := rfl
theorem Tly.one (x : Tly) : ∀ u ∈ x.cells, u.oneCell' = true := one_all' rfl
def Tly.zero : Tly := ⟨0, 0, 0⟩
abbrev w64 (x : Int) : Int := i64.wrap x
def okV (x : Vt) : Prop := (0 ≤ x.a ∧ x.a ≤ 1073741824 ∧ 0 ≤ x.n ∧ x.n ≤ 1073741824 ∧ 0 ≤ x.s ∧ x.s ≤ 1073741824 ∧ x.a + x.n + x.s ≤ 1073741824) ∧
  ((x.kind = 1 ∧ 0 ≤ x.level ∧ x.level ≤ 6 ∧ x.n = 0 ∧ x.s = 0) ∨ (x.kind = 2 ∧ x.aye = false ∧ x.level = 0 ∧ x.s = 0) ∨ (x.kind = 3 ∧ x.aye = false ∧ x.level = 0))
instance (x : Vt) : Decidable (okV x) := by unfold okV; infer_instance
end Go.Al
namespace Go.Al
open Go Go.RowKit Go.Proofs
structure Crv where
  k : Int
  a : Int
  b : Int
  c : Int
  d : Int
def Crv.cells (x : Crv) : List Value := [nt x.k, nt x.a, nt x.b, nt x.c, nt x.d]
theorem Crv.len (x : Crv) : x.cells.length = 5 := rfl
theorem Crv.one (x : Crv) : ∀ u ∈ x.cells, u.oneCell' = true := one_all' rfl
structure Trk where
  most : Int
  deposit : Int
  prepare : Int
  decision : Int
  confirm : Int
  enact : Int
  app : Crv
  sup : Crv
  cap : Int
  rank : Int
def Trk.cells (x : Trk) : List Value := [nt x.most, nt x.deposit, nt x.prepare, nt x.decision, nt x.confirm, nt x.enact, nt x.app.k, nt x.app.a, nt x.app.b, nt x.app.c, nt x.app.d, nt x.sup.k, nt x.sup.a, nt x.sup.b, nt x.sup.c, nt x.sup.d, nt x.cap, nt x.rank]
theorem Trk.len (x : Trk) : x.cells.length = 18 := rfl
theorem Trk.one (x : Trk) : ∀ u ∈ x.cells, u.oneCell' = true := one_all' rfl
structure Rfm where
  state : Int
  track : Int
  sum : Nat → Int
  after : Int
  sub : Int
  by_ : Int
  put : Bool
  backer : Int
  since : Int
  till : Int
  stop : Int
  t : Tly
def Rfm.cells (x : Rfm) : List Value := [nt x.state, nt x.track, .int .u8 (x.sum 0), .int .u8 (x.sum 1), .int .u8 (x.sum 2), .int .u8 (x.sum 3), .int .u8 (x.sum 4), .int .u8 (x.sum 5), .int .u8 (x.sum 6), .int .u8 (x.sum 7), .int .u8 (x.sum 8), .int .u8 (x.sum 9), .int .u8 (x.sum 10), .int .u8 (x.sum 11), .int .u8 (x.sum 12), .int .u8 (x.sum 13), .int .u8 (x.sum 14), .int .u8 (x.sum 15), .int .u8 (x.sum 16), .int .u8 (x.sum 17), .int .u8 (x.sum 18), .int .u8 (x.sum 19), .int .u8 (x.sum 20), .int .u8 (x.sum 21), .int .u8 (x.sum 22), .int .u8 (x.sum 23), .int .u8 (x.sum 24), .int .u8 (x.sum 25), .int .u8 (x.sum 26), .int .u8 (x.sum 27), .int .u8 (x.sum 28), .int .u8 (x.sum 29), .int .u8 (x.sum 30), .int .u8 (x.sum 31), nt x.after, nt x.sub, nt x.by_, .bool x.put, nt x.backer, nt x.since, nt x.till, nt x.stop, nt x.t.a, nt x.t.n, nt x.t.s]
theorem Rfm.len (x : Rfm) : x.cells.length = 45 := rfl
theorem Rfm.one (x : Rfm) : ∀ u ∈ x.cells, u.oneCell' = true := one_all' rfl
def hshc (h : Nat → Int) : List Value := [.int .u8 (h 0), .int .u8 (h 1), .int .u8 (h 2), .int .u8 (h 3), .int .u8 (h 4), .int .u8 (h 5), .int .u8 (h 6), .int .u8 (h 7), .int .u8 (h 8), .int .u8 (h 9), .int .u8 (h 10), .int .u8 (h 11), .int .u8 (h 12), .int .u8 (h 13), .int .u8 (h 14), .int .u8 (h 15), .int .u8 (h 16), .int .u8 (h 17), .int .u8 (h 18), .int .u8 (h 19), .int .u8 (h 20), .int .u8 (h 21), .int .u8 (h 22), .int .u8 (h 23), .int .u8 (h 24), .int .u8 (h 25), .int .u8 (h 26), .int .u8 (h 27), .int .u8 (h 28), .int .u8 (h 29), .int .u8 (h 30), .int .u8 (h 31)]
theorem hshc_len (h : Nat → Int) : (hshc h).length = 32 := rfl
theorem Rfm.over (x y : Rfm) : over x.cells 0 y.cells = y.cells := over_whole rfl
theorem Trk.over (x y : Trk) : over x.cells 0 y.cells = y.cells := over_whole rfl
def z0 : Nat → Int := fun _ => 0
def Rfm.zero : Rfm := ⟨0, 0, fun _ => 0, 0, 0, 0, false, 0, 0, 0, 0, Tly.zero⟩
structure Evt where
  k : Int
  a : Int
  b : Int
  deriving DecidableEq
def Evt.cells (x : Evt) : List Value := [nt x.k, nt x.a, nt x.b]
theorem Evt.len (x : Evt) : x.cells.length = 3 := rfl
theorem Evt.one (x : Evt) : ∀ u ∈ x.cells, u.oneCell' = true := one_all' rfl
end Go.Al
