/-
  Ranges over functions: what an iterator does with its yield; a loop over one; a function that holds such a loop.
-/
import Derived.Test.YtijhhcnahepdlaaArg
import Derived.RangeFuncNested
namespace Go.Al
open Go Go.RowKit

/-- Blocks of book-keeping: from N on, and no cells. -/
def lb (N : Nat) (W : World) : Nat → Prop := fun k => N ≤ k ∧ ∀ c t f, W.heap[k]? ≠ some (Obj.cells c t f)
/-- What abides whatever is turned in blocks of book-keeping, and whatever is laid anew. -/
def Quiet (N : Nat) (J : World → Prop) : Prop := ∀ W W', J W → Keep (lb N W) W W' → J W'
theorem lb_mono {N N' : Nat} {W : World} {k : Nat} (hN : N ≤ N') (h : lb N' W k) : lb N W k := ⟨Nat.le_trans hN h.1, h.2⟩
theorem Quiet.mono {N N' : Nat} {J : World → Prop} (h : Quiet N J) (hN : N ≤ N') : Quiet N' J := fun W W' hj hk => h W W' hj (hk.mono fun _ _ hs => lb_mono hN hs)
theorem lb_blk {N : Nat} {W : World} {b : Nat} {l : List Value} {T : TypeId} (h : Blk W b l T) : ¬ lb N W b := fun hs => hs.2 _ _ _ h
theorem lb_blkR {N : Nat} {W : World} {b : Nat} {l : List Value} (h : BlkR W b l) : ¬ lb N W b := fun hs => by obtain ⟨T, f, h⟩ := h; exact hs.2 _ _ _ h
theorem Blk.quiet {N : Nat} {W W' : World} {b : Nat} {l : List Value} {T : TypeId} (h : Blk W b l T) (k : Keep (lb N W) W W') : Blk W' b l T := h.keep k (lb_blk h)
theorem SlT.quiet {α : Type} {N : Nat} {W W' : World} {sz cap : Nat} {f : α → List Value} {A : Option Addr} {xs : List α} (h : SlT W sz f A cap xs) (k : Keep (lb N W) W W') : SlT W' sz f A cap xs := by
  rcases h with h | ⟨b, o, L, T, rfl, hb, h1, h2, h3, h4⟩
  · exact .inl h
  · exact .inr ⟨b, o, L, T, rfl, hb.quiet k, h1, h2, h3, h4⟩
theorem ArgT.quiet {α : Type} {N : Nat} {W W' : World} {sz cap : Nat} {f : α → List Value} {A : Option Addr} {xs : List α} (h : ArgT W sz f A cap xs) (k : Keep (lb N W) W W') : ArgT W' sz f A cap xs := by
  rcases h with h | ⟨b, o, L, h1, h2⟩
  · exact .inl h
  · exact .inr ⟨b, o, L, h1, h2.keep k (lb_blkR h2.blk)⟩
theorem Keep.quiet {S : Nat → Prop} {N : Nat} {w W W' : World} (h : Keep S w W) (k : Keep (lb N W) W W') (hN : w.heap.size ≤ N) : Keep S w W' := h.fresh k (fun i hi hs => absurd hs.1 (by omega))

/-! ### Yield -/
def Yields (P : Program) (l : Nat) (args : Array Value) (W : World) (R : Ending → World → Prop) : Prop :=
  ∃ f tmps assign body, (Instr.yield l args).run P W = .ok (.round l f tmps assign body) W ∧ RoundIn (FR none) 0 P l f tmps assign body W R
def yielder (e : Env) (c : Call) : Option (Nat × Array Value) :=
  match c.callee with
  | .value f => match ev e f with | .func (.yield l) first _ => some (l, first ++ c.args.map (ev e)) | _ => none
  | _ => none
/-- What an iterator does: it hands on m things, one behind the other, till it is told to stop. -/
def Iter (P : Program) (gf : FuncId) (caps : Array Value) (m : Nat) (enc : Nat → Array Value) (Pre Ok : World → Prop) : Prop :=
  ∀ (l : Nat) (J Jx : Nat → World → Prop) (W : World), Pre W → (∀ k, Quiet W.heap.size (J k)) → (∀ k, Quiet W.heap.size (Jx k)) →
    (∀ k W1, k < m → J k W1 → Yields P l (enc k) W1 fun e W' => (e = .returned (.bool true) ∧ J (k + 1) W') ∨ (e = .returned (.bool false) ∧ Jx (k + 1) W')) →
    (∀ k W1, J k W1 → Ok W1) → J 0 W →
    Calls P gf (#[.func (.yield l) #[] #[]] ++ caps) W fun e W' => (∃ v, e = .returned v) ∧ (J m W' ∨ ∃ k, k ≤ m ∧ Jx k W')

section
variable {P : Program} {r : Option Nat} {n : Nat} {ds : List Deferred} {ops : Array Oper} {Q : Post} {i : Nat} {e : Env} {w : World}
theorem yield_run {c : Call} {l : Nat} {args : Array Value} {x : Next} (h : yielder e c = some (l, args)) (hy : (Instr.yield l args).run P w = .ok x w) (o : Oper) (ho : o.op = .call c) : (execOp (ev e) o).run P w = .ok x w := by
  unfold yielder at h
  unfold execOp
  simp only [ho]
  unfold resolve
  split at h
  · rename_i g hg
    split at h
    · rename_i l' first cap hv
      simp only [Option.some.injEq, Prod.mk.injEq] at h
      obtain ⟨rfl, rfl⟩ := h
      simp only [hg, hv, Deferred.ofValue, Sem.run_bind, Sem.run_pure, Result.andThen, invoke]
      exact hy
    · cases h
  · cases h
theorem OI_yield {R : Ending → World → Prop} (c : Call) (l : Nat) (args : Array Value) (d : Option Tmp) (h : site ops e i = some (d, .call c)) (hc : yielder e c = some (l, args)) (hR : Yields P l args w R)
    (k : ∀ e' w', R e' w' → ∃ v, e' = .returned v ∧ OI P r n ds ops Q (i + 1) (putE n d v e) w') : OI P r n ds ops Q i e w :=
  OI_do h fun o _ ho hd a ha he => by
    obtain ⟨f, tmps, assign, body, hy, hrd⟩ := hR
    refine does_round (by rw [he]; exact yield_run hc hy o ho) (RoundIn.mono hrd fun e' w' hr => ?_)
    obtain ⟨v, hv, hk⟩ := k e' w' hr
    exact ⟨v, hv, by rw [hd]; exact hk _ (ha.put d v)⟩
end

/-! ### A loop over an iterator -/
def putPs (n : Nat) : List Tmp → List Value → Env → Env
  | p :: ps, v :: vs, e => putPs n ps vs (putE n (some p) v e)
  | _, _, e => e
theorem putPs_has {n : Nat} : ∀ (ps : List Tmp) (vs : List Value) (e : Env) (t : Array Value), Has n [] e { tmps := t, defers := [] } →
    Has n [] (putPs n ps vs e) { tmps := ((ps.zip vs).foldl (fun t (p, v) => t.setIfInBounds p v) t), defers := [] }
  | [], _, _, _, h => by simpa [putPs] using h
  | _ :: _, [], _, _, h => by simpa [putPs] using h
  | p :: ps, v :: vs, e, t, h => by
    simp only [putPs, List.zip_cons_cons, List.foldl_cons]
    exact putPs_has ps vs _ _ (h.put (some p) v)
/-- The blocks l and D lie as they lay. -/
def same2 (l D : Nat) (W W' : World) : Prop := W'.heap[l]? = W.heap[l]? ∧ W'.heap[D]? = W.heap[D]?
theorem Keep.same2 {S : Nat → Prop} {W W' : World} {l D : Nat} (h : Keep S W W') (hl : l < W.heap.size) (hD : D < W.heap.size) (h1 : ¬ S l) (h2 : ¬ S D) : same2 l D W W' := ⟨h.block l hl h1, h.block D hD h2⟩
/-- How a round's body may be left. -/
def rQ (l D : Nat) (J : Nat → World → Prop) (Jx : Code → Nat → World → Prop) (k : Nat) (W : World) : Post := fun x _ W' =>
  match x with
  | .normal => same2 l D W W' ∧ J (k + 1) W'
  | .ret => same2 l D W W' ∧ Jx .ret (k + 1) W'
  | .exit id => same2 l D W W' ∧ Jx (.exit id) (k + 1) W'
  | _ => False
theorem sure_rQ {l D k : Nat} {J : Nat → World → Prop} {Jx : Code → Nat → World → Prop} {W : World} : Sure (rQ l D J Jx k W) := ⟨fun _ _ _ h => h.elim, fun _ _ h => h.elim⟩
/-- Between a round's assignments and its body. -/
def beginK (P : Program) (N l D : Nat) (body : Code) (J : Nat → World → Prop) (Jx : Code → Nat → World → Prop) (k : Nat) (W : World) (a1 : Act) (W1 : World) : Prop :=
  same2 l D W W1 ∧ ∀ W2, Keep (lb N W1) W1 W2 → (∃ r, W2.heap[l]? = some (.loop r)) → W2.heap[D]? = W1.heap[D]? → Al.W P (some l) body (rQ l D J Jx k W2) a1 W2
def noPost : Post := fun _ _ _ => False
theorem sure_no : Sure noPost := ⟨fun _ _ _ h => h.elim, fun _ _ h => h.elim⟩
def mark (D : Nat) : Deferred := { target := .collected D, args := #[] }

section
variable {P : Program} {n : Nat} {ds : List Deferred} {Q : Post} {e : Env} {w : World} {assign body : Code}
theorem X_begin {N l D k : Nat} {J : Nat → World → Prop} {Jx : Code → Nat → World → Prop} {W W1 : World} (hs : same2 l D W W1) (h : ∀ W2, Keep (lb N W1) W1 W2 → (∃ r, W2.heap[l]? = some (.loop r)) → W2.heap[D]? = W1.heap[D]? → V P (some l) n [] body (rQ l D J Jx k W2) e W2) :
    XV n [] .normal (Exit.then (beginK P N l D body J Jx k W) noPost) e W1 := fun a ha => ⟨hs, fun W2 h1 h2 h3 => h W2 h1 h2 h3 a ha⟩
theorem V_range {g : Operand} {ps : Array Tmp} {gf : FuncId} {caps : Array Value} {m : Nat} {enc : Nat → Array Value} {Pre Ok : World → Prop} (hg : ev e g = .func (.func gf) #[] caps) (hr : readable e g = true) (hb : bodied P gf = true) (hit : Iter P gf caps m enc Pre Ok) (hPre : Pre w) (hPq : Quiet w.heap.size Pre) (hps : ∀ k, (enc k).size = ps.size)
    (J : Nat → World → Prop) (Jx : Code → Nat → World → Prop) (hJ : ∀ k, Quiet w.heap.size (J k)) (hJx : ∀ c k, Quiet w.heap.size (Jx c k)) (h0 : J 0 w) (hOk : ∀ k W, J k W → Ok W)
    (round : ∀ (l D k : Nat) (W : World), D = w.heap.size → l = w.heap.size + 1 → l < W.heap.size → k < m → J k W → (∃ r, W.heap[l]? = some (.loop r)) → W.heap[D]? = some (.deferred (some [])) →
      V P (some l) n [] assign (Exit.then (beginK P w.heap.size l D body J Jx k W) noPost) (putPs n ps.toList (enc k).toList e) W)
    (done : ∀ (D : Nat) (W : World), D = w.heap.size → J m W → W.heap[D]? = some (.deferred (some [])) → XV n (mark D :: ds) .normal Q e W)
    (stop : ∀ (D k : Nat) (c : Code) (W : World), D = w.heap.size → k ≤ m → Jx c k W → W.heap[D]? = some (.deferred (some [])) → V P none n (mark D :: ds) c Q e W) :
    V P none n ds (.rangeFunc g ps assign body) Q e w := by
  intro a ha
  show (Code.rangeFunc g ps assign body).wpIn (FR none) 0 P Q a w
  refine wpIn_rangeFunc ?_
  intro fn hfn
  obtain ⟨rec, hrec⟩ : ∃ rec : LoopState → Option Code → Loop, rec = fun st pe => { state := st, pending := pe, fn := fn, tmps := a.tmps, params := ps, assign := assign, body := body, defers := w.heap.size } := ⟨_, rfl⟩
  obtain ⟨D, hD⟩ : ∃ D, D = w.heap.size := ⟨_, rfl⟩
  obtain ⟨l, hl⟩ : ∃ l, l = w.heap.size + 1 := ⟨_, rfl⟩
  obtain ⟨W0, hW0⟩ : ∃ W0, laid w (.deferred (some [])) = W0 := ⟨_, rfl⟩
  obtain ⟨W1, hW1⟩ : ∃ W1, laid W0 (.loop (rec .ready none)) = W1 := ⟨_, rfl⟩
  have hs0 : W0.heap.size = w.heap.size + 1 := by rw [← hW0]; exact laid_size _ _
  have hs1 : W1.heap.size = w.heap.size + 2 := by rw [← hW1, laid_size, hs0]
  have k0 : Keep none_ w W0 := by rw [← hW0]; exact laid_keep _ _ (by intro c t f h; cases h)
  have k1 : Keep none_ W0 W1 := by rw [← hW1]; exact laid_keep _ _ (by intro c t f h; cases h)
  have hD0 : W0.heap[D]? = some (.deferred (some [])) := by rw [← hW0, hD]; show (w.heap.push _)[w.heap.size]? = _; exact Array.getElem?_push_size
  have hD1 : W1.heap[D]? = some (.deferred (some [])) := (k1.block D (by omega) (fun f => f)).trans hD0
  have hL1 : W1.heap[l]? = some (.loop (rec .ready none)) := by rw [← hW1, hl, ← hs0]; show (W0.heap.push _)[W0.heap.size]? = _; exact Array.getElem?_push_size
  have hJ1 : J 0 W1 := hJ 0 w W1 h0 (k0.tr k1).ofNone
  -- a turn of the record
  have hput : ∀ (W : World) (o o' : Loop), W.heap[l]? = some (.loop o) → Keep (lb w.heap.size W) W (turned W l (.loop o')) ∧ (turned W l (.loop o')).heap[l]? = some (.loop o') ∧ (turned W l (.loop o')).heap[D]? = W.heap[D]? := by
    intro W o o' h
    have hlt : l < W.heap.size := (Array.getElem?_eq_some_iff.1 h).1
    refine ⟨(turned_keep (by intro c t f h; cases h)).mono (fun i _ hi => ?_), by simp [turned, hlt], by simp only [turned]; exact Array.getElem?_setIfInBounds_ne (by omega)⟩
    rw [show i = l from hi]
    exact ⟨by omega, fun c t f hh => by rw [h] at hh; cases hh⟩
  refine ⟨l, [mark D], W1, { target := .fn (.func gf) caps, args := #[.func (.yield l) #[] #[]] }, W1, gf, #[.func (.yield l) #[] #[]] ++ caps, W1, ?_, ?_, ?_, ?_, fun h => by simp [FR, Fence.wide] at h, ?_⟩
  · rw [hl, hD, ← hW1, ← hW0, hrec]
    exact run_enterLoop_outer _ _ _ _ _
  · have := ha.eval hr
    simp only [resolve, this, hg]
    simp [go_sem]
  · intro f' _; trivial
  · have := callFunc_run hb (#[.func (.yield l) #[] #[]] ++ caps) W1
    simp only [invoke]
    exact this
  refine calls_to_FR (Calls.mono (hit l (fun k W => J k W ∧ W.heap[l]? = some (.loop (rec .ready none)) ∧ W.heap[D]? = some (.deferred (some [])))
    (fun k W => ∃ c, Jx c k W ∧ W.heap[l]? = some (.loop (rec .done (some c))) ∧ W.heap[D]? = some (.deferred (some []))) W1 (hPq w W1 hPre (k0.tr k1).ofNone) ?_ ?_ ?_ (fun k W h => hOk k W h.1) ⟨hJ1, hL1, hD1⟩) ?_)
  · rintro k W W' ⟨h1, h2, h3⟩ hk
    have e1 : l < W.heap.size := (Array.getElem?_eq_some_iff.1 h2).1
    have e2 : D < W.heap.size := (Array.getElem?_eq_some_iff.1 h3).1
    exact ⟨(hJ k).mono (by omega) W W' h1 hk, (hk.block l e1 (fun h => by have := h.1; omega)).trans h2, (hk.block D e2 (fun h => by have := h.1; omega)).trans h3⟩
  · rintro k W W' ⟨c, h1, h2, h3⟩ hk
    have e1 : l < W.heap.size := (Array.getElem?_eq_some_iff.1 h2).1
    have e2 : D < W.heap.size := (Array.getElem?_eq_some_iff.1 h3).1
    exact ⟨c, (hJx c k).mono (by omega) W W' h1 hk, (hk.block l e1 (fun h => by have := h.1; omega)).trans h2, (hk.block D e2 (fun h => by have := h.1; omega)).trans h3⟩
  · -- one round
    rintro k W hkm ⟨hj, hlW, hDW⟩
    have hy := run_yield (P := P) (args := enc k) hlW (by rw [hrec]; exact hps k)
    rw [hrec] at hy
    refine ⟨fn, _, assign, body, hy, roundIn_of_wpIn hfn ?_⟩
    have hV := round l D k W hD hl (Array.getElem?_eq_some_iff.1 hlW).1 hkm hj ⟨_, hlW⟩ hDW
    have hHas : Has n [] e { tmps := a.tmps, defers := [] } := ⟨ha.size, rfl, ha.at_⟩
    have hact := putPs_has ps.toList (enc k).toList e a.tmps hHas
    have hfold : ((ps.zip (enc k)).foldl (fun t (x : Tmp × Value) => t.setIfInBounds x.1 x.2) a.tmps) = ((ps.toList.zip (enc k).toList).foldl (fun t (x : Tmp × Value) => t.setIfInBounds x.1 x.2) a.tmps) := by
      rw [← Array.foldl_toList, Array.toList_zip]
    have hW := hV _ hact
    show Al.W P (some l) assign _ { tmps := ((ps.zip (enc k)).foldl (fun t (x : Tmp × Value) => t.setIfInBounds x.1 x.2) a.tmps), defers := [] } W
    rw [hfold]
    refine W_mono hW ?_
    intro x a1 W2 hx
    cases x <;> try exact hx.elim
    obtain ⟨⟨hl2, hD2⟩, hbody⟩ := hx
    have hlW2 : W2.heap[l]? = some (.loop (rec .ready none)) := hl2.trans hlW
    obtain ⟨p1, p2, p3⟩ := hput W2 _ { rec .ready none with state := .busy } hlW2
    refine ⟨_, run_beginRound hlW2 (by rw [hrec]), ?_⟩
    refine W_mono (hbody _ p1 ⟨_, p2⟩ p3) ?_
    intro x a3 W3 hx
    have hDW3 : same2 l D (turned W2 l (.loop { rec .ready none with state := .busy })) W3 → W3.heap[l]? = some (.loop { rec .ready none with state := .busy }) ∧ W3.heap[D]? = some (.deferred (some [])) :=
      fun h => ⟨h.1.trans p2, h.2.trans (p3.trans (hD2.trans hDW))⟩
    cases x with
    | normal =>
      obtain ⟨hs, hj3⟩ := hx
      obtain ⟨q1, q2⟩ := hDW3 hs
      obtain ⟨t1, t2, t3⟩ := hput W3 _ (rec .ready none) q1
      have hend := run_endRound (P := P) none q1
      rw [hrec] at hend t1 t2 t3
      exact ⟨_, _, hend, .inl ⟨rfl, hJ _ _ _ hj3 t1, by rw [hrec]; exact t2, t3.trans q2⟩⟩
    | ret =>
      obtain ⟨hs, hj3⟩ := hx
      obtain ⟨q1, q2⟩ := hDW3 hs
      obtain ⟨t1, t2, t3⟩ := hput W3 _ (rec .done (some .ret)) q1
      have hend := run_endRound (P := P) (some .ret) q1
      rw [hrec] at hend t1 t2 t3
      exact ⟨_, _, hend, .inr ⟨rfl, .ret, hJx _ _ _ _ hj3 t1, by rw [hrec]; exact t2, t3.trans q2⟩⟩
    | exit id =>
      obtain ⟨hs, hj3⟩ := hx
      obtain ⟨q1, q2⟩ := hDW3 hs
      obtain ⟨t1, t2, t3⟩ := hput W3 _ (rec .done (some (.exit id))) q1
      have hend := run_endRound (P := P) (some (.exit id)) q1
      rw [hrec] at hend t1 t2 t3
      exact ⟨_, _, hend, .inr ⟨rfl, .exit id, hJx _ _ _ _ hj3 t1, by rw [hrec]; exact t2, t3.trans q2⟩⟩
    | goto t => exact hx.elim
    | panic c => exact hx.elim
    | outgrown => exact hx.elim
  · -- behind the iterator
    rintro e' W2 ⟨⟨v, rfl⟩, (⟨hj, hlW, hDW⟩ | ⟨k, hkm, c, hj, hlW, hDW⟩)⟩
    · obtain ⟨t1, t2, t3⟩ := hput W2 _ (rec .exhausted none) hlW
      have hend := run_endLoop (P := P) hlW (by rw [hrec]; simp)
      rw [hrec] at hend t1 t2 t3
      exact ⟨none, _, hend, done D _ hD (hJ _ _ _ hj t1) (t3.trans hDW) _ ⟨ha.size, by simp [ha.defers], ha.at_⟩⟩
    · obtain ⟨t1, t2, t3⟩ := hput W2 _ (rec .exhausted (some c)) hlW
      have hend := run_endLoop (P := P) hlW (by rw [hrec]; simp)
      rw [hrec] at hend t1 t2 t3
      exact ⟨some c, _, hend, stop D k c _ hD hkm (hJx _ _ _ _ hj t1) (t3.trans hDW) _ ⟨ha.size, by simp [ha.defers], ha.at_⟩⟩
/-- The same within a round of loop l0. -/
theorem V_rangeIn {l0 : Nat} {r0 : Loop} {g : Operand} {ps : Array Tmp} {gf : FuncId} {caps : Array Value} {m : Nat} {enc : Nat → Array Value} {Pre Ok : World → Prop} (hl0 : w.heap[l0]? = some (.loop r0)) (hg : ev e g = .func (.func gf) #[] caps) (hr : readable e g = true) (hb : bodied P gf = true) (hit : Iter P gf caps m enc Pre Ok) (hPre : Pre w) (hPq : Quiet w.heap.size Pre) (hps : ∀ k, (enc k).size = ps.size)
    (J : Nat → World → Prop) (Jx : Code → Nat → World → Prop) (hJ : ∀ k, Quiet w.heap.size (J k)) (hJx : ∀ c k, Quiet w.heap.size (Jx c k)) (h0 : J 0 w) (hOk : ∀ k W, J k W → Ok W)
    (round : ∀ (l k : Nat) (W : World), l = w.heap.size → l < W.heap.size → k < m → J k W → (∃ r, W.heap[l]? = some (.loop r)) → W.heap[l0]? = some (.loop r0) →
      V P (some l) n [] assign (Exit.then (beginK P w.heap.size l l0 body J Jx k W) noPost) (putPs n ps.toList (enc k).toList e) W)
    (done : ∀ (W : World), J m W → W.heap[l0]? = some (.loop r0) → XV n ds .normal Q e W)
    (stop : ∀ (k : Nat) (c : Code) (W : World), k ≤ m → Jx c k W → W.heap[l0]? = some (.loop r0) → V P (some l0) n ds c Q e W) :
    V P (some l0) n ds (.rangeFunc g ps assign body) Q e w := by
  intro a ha
  show (Code.rangeFunc g ps assign body).wpIn (FR (some l0)) 0 P Q a w
  refine wpIn_rangeFunc ?_
  intro fn hfn
  obtain ⟨rec, hrec⟩ : ∃ rec : LoopState → Option Code → Loop, rec = fun st pe => { state := st, pending := pe, fn := fn, tmps := a.tmps, params := ps, assign := assign, body := body, defers := r0.defers } := ⟨_, rfl⟩
  obtain ⟨l, hl⟩ : ∃ l, l = w.heap.size := ⟨_, rfl⟩
  obtain ⟨W1, hW1⟩ : ∃ W1, laid w (.loop (rec .ready none)) = W1 := ⟨_, rfl⟩
  have hs1 : W1.heap.size = w.heap.size + 1 := by rw [← hW1]; exact laid_size _ _
  have k1 : Keep none_ w W1 := by rw [← hW1]; exact laid_keep _ _ (by intro c t f h; cases h)
  have hL1 : W1.heap[l]? = some (.loop (rec .ready none)) := by rw [← hW1, hl]; show (w.heap.push _)[w.heap.size]? = _; exact Array.getElem?_push_size
  have hlt0 : l0 < w.heap.size := (Array.getElem?_eq_some_iff.1 hl0).1
  have hD1 : W1.heap[l0]? = some (.loop r0) := (k1.block l0 hlt0 (fun f => f)).trans hl0
  have hJ1 : J 0 W1 := hJ 0 w W1 h0 k1.ofNone
  have hput : ∀ (W : World) (o o' : Loop), W.heap[l]? = some (.loop o) → Keep (lb w.heap.size W) W (turned W l (.loop o')) ∧ (turned W l (.loop o')).heap[l]? = some (.loop o') ∧ (turned W l (.loop o')).heap[l0]? = W.heap[l0]? := by
    intro W o o' h
    have hlt : l < W.heap.size := (Array.getElem?_eq_some_iff.1 h).1
    refine ⟨(turned_keep (by intro c t f h; cases h)).mono (fun i _ hi => ?_), by simp [turned, hlt], by simp only [turned]; exact Array.getElem?_setIfInBounds_ne (by omega)⟩
    rw [show i = l from hi]
    exact ⟨by omega, fun c t f hh => by rw [h] at hh; cases hh⟩
  refine ⟨l, [], W1, { target := .fn (.func gf) caps, args := #[.func (.yield l) #[] #[]] }, W1, gf, #[.func (.yield l) #[] #[]] ++ caps, W1, ?_, ?_, ?_, ?_, fun h => by simp [FR, Fence.wide] at h, ?_⟩
  · rw [hl, ← hW1, hrec]
    exact run_enterLoop_inner hl0 _ _ _ _ _
  · have := ha.eval hr
    simp only [resolve, this, hg]
    simp [go_sem]
  · intro f' _; trivial
  · have := callFunc_run hb (#[.func (.yield l) #[] #[]] ++ caps) W1
    simp only [invoke]
    exact this
  refine calls_to_FR (Calls.mono (hit l (fun k W => J k W ∧ W.heap[l]? = some (.loop (rec .ready none)) ∧ W.heap[l0]? = some (.loop r0))
    (fun k W => ∃ c, Jx c k W ∧ W.heap[l]? = some (.loop (rec .done (some c))) ∧ W.heap[l0]? = some (.loop r0)) W1 (hPq w W1 hPre k1.ofNone) ?_ ?_ ?_ (fun k W h => hOk k W h.1) ⟨hJ1, hL1, hD1⟩) ?_)
  · rintro k W W' ⟨h1, h2, h3⟩ hk
    have e1 : l < W.heap.size := (Array.getElem?_eq_some_iff.1 h2).1
    exact ⟨(hJ k).mono (by omega) W W' h1 hk, (hk.block l e1 (fun h => by have := h.1; omega)).trans h2, (hk.block l0 (by omega) (fun h => by have := h.1; omega)).trans h3⟩
  · rintro k W W' ⟨c, h1, h2, h3⟩ hk
    have e1 : l < W.heap.size := (Array.getElem?_eq_some_iff.1 h2).1
    exact ⟨c, (hJx c k).mono (by omega) W W' h1 hk, (hk.block l e1 (fun h => by have := h.1; omega)).trans h2, (hk.block l0 (by omega) (fun h => by have := h.1; omega)).trans h3⟩
  · -- one round
    rintro k W hkm ⟨hj, hlW, hDW⟩
    have hy := run_yield (P := P) (args := enc k) hlW (by rw [hrec]; exact hps k)
    rw [hrec] at hy
    refine ⟨fn, _, assign, body, hy, roundIn_of_wpIn hfn ?_⟩
    have hV := round l k W hl (Array.getElem?_eq_some_iff.1 hlW).1 hkm hj ⟨_, hlW⟩ hDW
    have hHas : Has n [] e { tmps := a.tmps, defers := [] } := ⟨ha.size, rfl, ha.at_⟩
    have hact := putPs_has ps.toList (enc k).toList e a.tmps hHas
    have hfold : ((ps.zip (enc k)).foldl (fun t (x : Tmp × Value) => t.setIfInBounds x.1 x.2) a.tmps) = ((ps.toList.zip (enc k).toList).foldl (fun t (x : Tmp × Value) => t.setIfInBounds x.1 x.2) a.tmps) := by
      rw [← Array.foldl_toList, Array.toList_zip]
    have hW := hV _ hact
    show Al.W P (some l) assign _ { tmps := ((ps.zip (enc k)).foldl (fun t (x : Tmp × Value) => t.setIfInBounds x.1 x.2) a.tmps), defers := [] } W
    rw [hfold]
    refine W_mono hW ?_
    intro x a1 W2 hx
    cases x <;> try exact hx.elim
    obtain ⟨⟨hl2, hD2⟩, hbody⟩ := hx
    have hlW2 : W2.heap[l]? = some (.loop (rec .ready none)) := hl2.trans hlW
    obtain ⟨p1, p2, p3⟩ := hput W2 _ { rec .ready none with state := .busy } hlW2
    refine ⟨_, run_beginRound hlW2 (by rw [hrec]), ?_⟩
    refine W_mono (hbody _ p1 ⟨_, p2⟩ p3) ?_
    intro x a3 W3 hx
    have hDW3 : same2 l l0 (turned W2 l (.loop { rec .ready none with state := .busy })) W3 → W3.heap[l]? = some (.loop { rec .ready none with state := .busy }) := fun h => h.1.trans p2
    have hDW4 : same2 l l0 (turned W2 l (.loop { rec .ready none with state := .busy })) W3 → W3.heap[l0]? = some (.loop r0) := fun h => h.2.trans (p3.trans (hD2.trans hDW))
    cases x with
    | normal =>
      obtain ⟨hs, hj3⟩ := hx
      obtain ⟨t1, t2, t3⟩ := hput W3 _ (rec .ready none) (hDW3 hs)
      have hend := run_endRound (P := P) none (hDW3 hs)
      rw [hrec] at hend t1 t2 t3
      exact ⟨_, _, hend, .inl ⟨rfl, hJ _ _ _ hj3 t1, by rw [hrec]; exact t2, t3.trans (hDW4 hs)⟩⟩
    | ret =>
      obtain ⟨hs, hj3⟩ := hx
      obtain ⟨t1, t2, t3⟩ := hput W3 _ (rec .done (some .ret)) (hDW3 hs)
      have hend := run_endRound (P := P) (some .ret) (hDW3 hs)
      rw [hrec] at hend t1 t2 t3
      exact ⟨_, _, hend, .inr ⟨rfl, .ret, hJx _ _ _ _ hj3 t1, by rw [hrec]; exact t2, t3.trans (hDW4 hs)⟩⟩
    | exit id =>
      obtain ⟨hs, hj3⟩ := hx
      obtain ⟨t1, t2, t3⟩ := hput W3 _ (rec .done (some (.exit id))) (hDW3 hs)
      have hend := run_endRound (P := P) (some (.exit id)) (hDW3 hs)
      rw [hrec] at hend t1 t2 t3
      exact ⟨_, _, hend, .inr ⟨rfl, .exit id, hJx _ _ _ _ hj3 t1, by rw [hrec]; exact t2, t3.trans (hDW4 hs)⟩⟩
    | goto t => exact hx.elim
    | panic c => exact hx.elim
    | outgrown => exact hx.elim
  · -- behind the iterator
    rintro e' W2 ⟨⟨v, rfl⟩, (⟨hj, hlW, hDW⟩ | ⟨k, hkm, c, hj, hlW, hDW⟩)⟩
    · obtain ⟨t1, t2, t3⟩ := hput W2 _ (rec .exhausted none) hlW
      have hend := run_endLoop (P := P) hlW (by rw [hrec]; simp)
      rw [hrec] at hend t1 t2 t3
      exact ⟨none, _, hend, done _ (hJ _ _ _ hj t1) (t3.trans hDW) _ ⟨ha.size, by simp [ha.defers], ha.at_⟩⟩
    · obtain ⟨t1, t2, t3⟩ := hput W2 _ (rec .exhausted (some c)) hlW
      have hend := run_endLoop (P := P) hlW (by rw [hrec]; simp)
      rw [hrec] at hend t1 t2 t3
      exact ⟨some c, _, hend, stop k c _ hkm (hJx _ _ _ _ hj t1) (t3.trans hDW) _ ⟨ha.size, by simp [ha.defers], ha.at_⟩⟩
end

/-! ### A function that holds such a loop -/
def postM (P : Program) (fn : Func) (R : Ending → World → Prop) : Post := fun x a w =>
  match x with
  | .normal => LeavesInM (FR none) 0 P fn a.tmps R a.defers .returning w
  | .ret => LeavesInM (FR none) 0 P fn a.tmps R a.defers .returning w
  | _ => False
section
variable {P : Program} {fn : Func} {R : Ending → World → Prop} {n : Nat} {e : Env} {w : World}
theorem enterM {f : FuncId} {c : Code} {args : Array Value} (hf : P.funcs[f]? = some fn) (hb : fn.body = some c) (l : List Value) (n : Nat)
    (hl : args = l.toArray) (hn : fn.ntmps = n) (hle : Nat.ble l.length n = true) (h : V P none n [] c (postM P fn R) (zipE 0 l) w) : Calls P f args w R := by
  subst hl
  replace hle := Nat.le_of_ble_eq_true hle
  refine calls_of_FR (r := none) (n := 0) (callsIn_of_wp_marks hf hb trivial (W_mono (h _ ⟨?_, rfl, ?_⟩) (fun x a w hx => by cases x <;> first | exact hx | exact hx.elim)))
  · simp; omega
  · intro i v hi
    obtain ⟨_, h2⟩ := look_zipE l 0 i v hi
    rw [Nat.sub_zero] at h2
    have hlt := (List.getElem?_eq_some_iff.1 h2).1
    simp only [Array.getElem?_append, List.size_toArray, hlt, if_true]
    simpa using h2
/-- What a function hands back, its results in cells or in temporaries. -/
def Res (P : Program) (fn : Func) (n : Nat) (e : Env) (w : World) (v : Value) : Prop := ∀ tmps : Array Value, tmps.size = n → (∀ i u, look e i = some u → tmps[i]? = some u) → (results fn tmps).run P w = .ok v w
theorem res_tmps {v : Value} (h : resE fn e = some v) : Res P fn n e w v := fun tmps hs ht => resE_run (a := { tmps := tmps, defers := [] }) (ds := []) ⟨hs, rfl, ht⟩ h w
theorem leave0 {x : Exit} (v : Value) (hx : x = .ret ∨ x = .normal) (h : Res P fn n e w v) (hR : R (.returned v) w) : XV n [] x (postM P fn R) e w := fun a ha => by
  have h1 := h a.tmps ha.size ha.at_
  rcases hx with rfl | rfl
  · show LeavesInM (FR none) 0 P fn a.tmps R a.defers .returning w
    rw [ha.defers]; exact ⟨v, h1, hR⟩
  · show LeavesInM (FR none) 0 P fn a.tmps R a.defers .returning w
    rw [ha.defers]; exact ⟨v, h1, hR⟩
theorem leave1 {x : Exit} {D : Nat} (v : Value) (hx : x = .ret ∨ x = .normal) (hD : w.heap[D]? = some (.deferred (some []))) (h : ∀ w', Keep (lb D w) w w' → Res P fn n e w' v ∧ R (.returned v) w') : XV n [mark D] x (postM P fn R) e w := fun a ha => by
  have hlt : D < w.heap.size := (Array.getElem?_eq_some_iff.1 hD).1
  have hk : Keep (lb D w) w (turned w D (.deferred none)) := (turned_keep (by intro c t f h; cases h)).mono (fun i _ hi => by
    rw [show i = D from hi]
    exact ⟨Nat.le_refl _, fun c t f hh => by rw [hD] at hh; cases hh⟩)
  obtain ⟨h1, hR⟩ := h _ hk
  have h2 := h1 a.tmps ha.size ha.at_
  have key : LeavesInM (FR none) 0 P fn a.tmps R a.defers .returning w := by
    rw [ha.defers]
    exact ⟨by simp, .inl ⟨D, _, rfl, run_takeDeferred hD, v, h2, hR⟩⟩
  rcases hx with rfl | rfl
  · exact key
  · exact key
theorem res_cells2 {t T u U n1 n2 : Nat} {b1 b2 : Nat} {v1 v2 : Value} {T1 T2 : TypeId} (hl : fn.results.toList = [.cell t T, .cell u U]) (h1 : look e t = some (.pointer (some ⟨b1, 0, none⟩))) (h2 : look e u = some (.pointer (some ⟨b2, 0, none⟩)))
    (k1 : tk P T = some (false, n1)) (k2 : tk P U = some (false, n2)) (hb1 : Blk w b1 [v1] T1) (hb2 : Blk w b2 [v2] T2) : Res P fn n e w (.tuple #[v1, v2]) := fun tmps hs ht => by
  have hr := results_of_list hl
  have g1 := ht _ _ h1
  have g2 := ht _ _ h2
  have l1 := loads_cell (P := P) (o := 0) hb1 k1 rfl
  have l2 := loads_cell (P := P) (o := 0) hb2 k2 rfl
  unfold Loads Instr.loadAt Instr.sureAddr at l1 l2
  unfold results
  simp [hr, Array.mapM_eq_foldlM, Sem.run_bind, g1, g2, asAddr, Result.andThen] at l1 l2 ⊢
  simp [l1, l2]
theorem res_cell1 {t T n1 : Nat} {b1 : Nat} {v1 : Value} {T1 : TypeId} (hl : fn.results.toList = [.cell t T]) (h1 : look e t = some (.pointer (some ⟨b1, 0, none⟩))) (k1 : tk P T = some (false, n1)) (hb1 : Blk w b1 [v1] T1) : Res P fn n e w v1 := fun tmps hs ht => by
  have hr := results_of_list hl
  have g1 := ht _ _ h1
  have l1 := loads_cell (P := P) (o := 0) hb1 k1 rfl
  unfold Loads Instr.loadAt Instr.sureAddr at l1
  unfold results
  simp [hr, Array.mapM_eq_foldlM, g1, asAddr] at l1 ⊢
  simp [l1]
theorem sure_postM : Sure (postM P fn R) := ⟨fun _ _ _ h => h.elim, fun _ _ h => h.elim⟩
end

/-! ### What changes cells alone -/
def cl (W : World) : Nat → Prop := fun k => ∃ c t f, W.heap[k]? = some (Obj.cells c t f)
theorem cl_back {W W1 : World} {i : Nat} (h : Keep (cl W) W W1) (hi : i < W.heap.size) (hc : cl W1 i) : cl W i := by
  by_cases hn : cl W i
  · exact hn
  · have e := h.block i hi hn
    obtain ⟨c, t, f, hc⟩ := hc
    exact ⟨c, t, f, e.symm.trans hc⟩
theorem Keep.cl_one {W W1 W2 : World} {b : Nat} {l : List Value} {T : TypeId} (h : Keep (cl W) W W1) (k : Keep (only b) W1 W2) (hb : Blk W1 b l T) : Keep (cl W) W W2 :=
  h.fresh k (fun i hi hs => cl_back h hi (by rw [show i = b from hs]; exact ⟨_, _, _, hb⟩))
theorem Keep.cl_slt {α : Type} {W W1 W2 : World} {sz cap : Nat} {f : α → List Value} {A : Option Addr} {xs : List α} (h : Keep (cl W) W W1) (k : Keep (inA A) W1 W2) (hA : SlT W1 sz f A cap xs) : Keep (cl W) W W2 :=
  h.fresh k (fun i hi hs => cl_back h hi (by
    rcases hA with ⟨rfl, _, _⟩ | ⟨b, o, L, T, rfl, hb, _⟩
    · exact (inA_none hs).elim
    · rw [inA_some hs]; exact ⟨_, _, _, hb⟩))
theorem Keep.cl_same {W W1 : World} {l D : Nat} {r : Loop} {d : Option (List Deferred)} (h : Keep (cl W) W W1) (hl : W.heap[l]? = some (.loop r)) (hD : W.heap[D]? = some (.deferred d)) : Al.same2 l D W W1 :=
  h.same2 (Array.getElem?_eq_some_iff.1 hl).1 (Array.getElem?_eq_some_iff.1 hD).1 (fun ⟨c, t, f, hc⟩ => by rw [hl] at hc; cases hc) (fun ⟨c, t, f, hc⟩ => by rw [hD] at hc; cases hc)
theorem Keep.cl_same0 {W W1 : World} {l l0 : Nat} {r r0 : Loop} (h : Keep (cl W) W W1) (hl : W.heap[l]? = some (.loop r)) (hD : W.heap[l0]? = some (.loop r0)) : Al.same2 l l0 W W1 :=
  h.same2 (Array.getElem?_eq_some_iff.1 hl).1 (Array.getElem?_eq_some_iff.1 hD).1 (fun ⟨c, t, f, hc⟩ => by rw [hl] at hc; cases hc) (fun ⟨c, t, f, hc⟩ => by rw [hD] at hc; cases hc)
end Go.Al
