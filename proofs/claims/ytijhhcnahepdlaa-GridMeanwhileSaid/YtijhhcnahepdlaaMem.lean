/-
  Memory, for this claim's walks: blocks of cells, worlds that keep what they held, and one rule for each kind of operation of a region.
-/
import Derived.Test.YtijhhcnahepdlaaBase
import Derived.Laws.Cells
import Derived.Laws.CopyRow
namespace Go.Al
open Go Go.RowKit

/-! ### Blocks; worlds that keep -/

def Blk (w : World) (b : Nat) (l : List Value) (t : TypeId) : Prop := w.heap[b]? = some (.cells l.toArray t (0, 0))

abbrev none_ : Nat → Prop := fun _ => False
abbrev only (b : Nat) : Nat → Prop := fun k => k = b

/-- Whatever lay in w lies as it lay, but for the blocks of S; nothing new is frozen. -/
structure Keep (S : Nat → Prop) (w w' : World) : Prop where
  os : w'.os = w.os
  tape : w'.tape = w.tape
  output : w'.output = w.output
  size : w.heap.size ≤ w'.heap.size
  block : ∀ k, k < w.heap.size → ¬ S k → w'.heap[k]? = w.heap[k]?
  fz : ∀ (k : Nat) (c : Array Value) (t : TypeId) (f : Nat × Nat), w'.heap[k]? = some (Obj.cells c t f) → f = (0, 0) ∨ ∃ c' : Array Value, w.heap[k]? = some (Obj.cells c' t f)

theorem Blk.lt {w : World} {b : Nat} {l : List Value} {t : TypeId} (h : Blk w b l t) : b < w.heap.size := (Array.getElem?_eq_some_iff.1 h).1
theorem Keep.refl (S : Nat → Prop) (w : World) : Keep S w w := ⟨rfl, rfl, rfl, Nat.le_refl _, fun _ _ _ => rfl, fun _ c _ _ h => .inr ⟨c, h⟩⟩
theorem Keep.trans {S T U : Nat → Prop} {a b c : World} (h : Keep S a b) (k : Keep T b c) (hS : ∀ i, i < a.heap.size → S i → U i) (hT : ∀ i, i < a.heap.size → T i → U i) : Keep U a c := by
  refine ⟨k.os.trans h.os, k.tape.trans h.tape, k.output.trans h.output, Nat.le_trans h.size k.size, ?_, ?_⟩
  · intro i hi hU
    have h1 := h.block i hi (fun hs => hU (hS i hi hs))
    have h2 := k.block i (Nat.lt_of_lt_of_le hi h.size) (fun ht => hU (hT i hi ht))
    exact h2.trans h1
  · intro i cs t f hi
    rcases k.fz i cs t f hi with hf | ⟨c', hc⟩
    · exact .inl hf
    · exact h.fz i c' t f hc
theorem Keep.tr {S : Nat → Prop} {a b c : World} (h : Keep S a b) (k : Keep S b c) : Keep S a c := h.trans k (fun _ _ h => h) (fun _ _ h => h)
theorem Keep.mono {S T : Nat → Prop} {a b : World} (h : Keep S a b) (hT : ∀ i, i < a.heap.size → S i → T i) : Keep T a b :=
  ⟨h.os, h.tape, h.output, h.size, fun i hi ht => h.block i hi (fun hs => ht (hT i hi hs)), h.fz⟩
theorem Keep.ofNone {S : Nat → Prop} {a b : World} (h : Keep none_ a b) : Keep S a b := h.mono (fun _ _ f => f.elim)
/-- What is kept of a block laid since the start goes unsaid. -/
theorem Keep.fresh {S T : Nat → Prop} {a b c : World} (h : Keep S a b) (k : Keep T b c) (hT : ∀ i, i < a.heap.size → T i → S i) : Keep S a c := h.trans k (fun _ _ h => h) hT
theorem Blk.keep {S : Nat → Prop} {w w' : World} {b : Nat} {l : List Value} {t : TypeId} (h : Blk w b l t) (k : Keep S w w') (hS : ¬ S b) : Blk w' b l t := (k.block b h.lt hS).trans h
theorem Keep.drew {S : Nat → Prop} {a b : World} (h : Keep S a b) (n : Nat) : Keep S a { b with drawn := n } := ⟨h.os, h.tape, h.output, h.size, h.block, h.fz⟩
theorem Blk.inj {w : World} {b : Nat} {l l' : List Value} {t t' : TypeId} (h : Blk w b l t) (h' : Blk w b l' t') : l = l' ∧ t = t' := by
  unfold Blk at h h'
  rw [h] at h'
  simp only [Option.some.injEq, Obj.cells.injEq] at h'
  exact ⟨List.toArray_inj h'.1, h'.2.1⟩
theorem Keep.grown {w w' : World} (h : Keep none_ w w') : Grown w w' := by
  have hb : Below w.heap.size w w' := ⟨h.os, h.tape, h.output, h.size, fun k hk => h.block k hk (fun f => f)⟩
  refine ⟨hb.frame _, fun a => ?_, h.size⟩
  by_cases ha : a.block < w.heap.size
  · exact hb.frozen (p := a) ha
  · have hn : w.heap[a.block]? = none := Array.getElem?_eq_none (by omega)
    have h1 : w.frozen? a = false := by simp [World.frozen?, hn]
    rw [h1]
    unfold World.frozen?
    split
    · rename_i c t lo hi he
      rcases h.fz _ _ _ _ he with hf | ⟨c', hc⟩
      · simp only [Prod.mk.injEq] at hf
        obtain ⟨rfl, rfl⟩ := hf
        simp
      · rw [hn] at hc; cases hc
    · rfl
theorem Keep.below {w w' : World} (h : Keep none_ w w') : Below w.heap.size w w' := ⟨h.os, h.tape, h.output, h.size, fun k hk => h.block k hk (fun f => f)⟩

def laid (w : World) (o : Obj) : World := { w with heap := w.heap.push o }
def turned (w : World) (b : Nat) (o : Obj) : World := { w with heap := w.heap.setIfInBounds b o }

theorem laid_blk (w : World) (l : List Value) (t : TypeId) : Blk (laid w (.cells l.toArray t)) w.heap.size l t := by
  show (w.heap.push _)[w.heap.size]? = _
  exact Array.getElem?_push_size
theorem laid_size (w : World) (o : Obj) : (laid w o).heap.size = w.heap.size + 1 := by
  show (w.heap.push _).size = _
  simp
theorem laid_keep (w : World) (o : Obj) (ho : ∀ c t f, o = Obj.cells c t f → f = (0, 0)) : Keep none_ w (laid w o) := by
  refine ⟨rfl, rfl, rfl, by rw [laid_size]; omega, ?_, ?_⟩
  · intro k hk _
    simp only [laid]
    rw [Array.getElem?_push, if_neg (by omega)]
  · intro k c t f hk
    simp only [laid] at hk
    rw [Array.getElem?_push] at hk
    split at hk
    · simp only [Option.some.injEq] at hk; exact .inl (ho c t f hk)
    · exact .inr ⟨c, hk⟩
theorem turned_size (w : World) (b : Nat) (o : Obj) : (turned w b o).heap.size = w.heap.size := by simp [turned]
theorem turned_blk {w : World} {b : Nat} (l : List Value) (t : TypeId) (hb : b < w.heap.size) : Blk (turned w b (.cells l.toArray t)) b l t := by simp [Blk, turned, hb]
theorem turned_keep {w : World} {b : Nat} {o : Obj} (ho : ∀ c t f, o = Obj.cells c t f → f = (0, 0)) : Keep (only b) w (turned w b o) := by
  refine ⟨rfl, rfl, rfl, by simp [turned], ?_, ?_⟩
  · intro k hk hne
    simp only [turned]
    exact Array.getElem?_setIfInBounds_ne (Ne.symm hne)
  · intro k c t f hk
    simp only [turned] at hk
    rw [Array.getElem?_setIfInBounds] at hk
    split at hk
    · split at hk
      · simp only [Option.some.injEq] at hk; exact .inl (ho c t f hk)
      · cases hk
    · exact .inr ⟨c, hk⟩

/-! ### Loads and stores -/

/-- A type: is it a struct or an array, and how many cells has it? -/
def tk (P : Program) (t : TypeId) : Option (Bool × Nat) :=
  match P.underlying t, P.info? t with
  | some (.struct _), some i => some (true, i.size)
  | some (.array _ _), some i => some (true, i.size)
  | some _, some i => some (false, i.size)
  | _, _ => none

theorem tk_agg {P : Program} {t : TypeId} {b : Bool} {n : Nat} (h : tk P t = some (b, n)) (w : World) : (isAgg t).run P w = .ok b w ∧ (sizeOf t).run P w = .ok n w := by
  unfold tk at h
  unfold isAgg sizeOf typeInfo underlying
  cases hu : P.underlying t with
  | none => simp [hu] at h
  | some d =>
    cases hi : P.info? t with
    | none => cases d <;> simp [hu, hi] at h
    | some i =>
      simp only [hu, hi] at h
      cases d <;> simp at h <;> obtain ⟨rfl, rfl⟩ := h <;> simp [Sem.run_bind, program, Sem.run, hu, hi, Result.andThen]

def Loads (P : Program) (w : World) (t : TypeId) (p : Addr) (v : Value) : Prop := (Instr.loadAt t (.pointer (some p))).run P w = .ok v w
def Stores (P : Program) (w : World) (t : TypeId) (p : Addr) (v : Value) (w' : World) : Prop := (Instr.storeAt t (.pointer (some p)) v).run P w = .ok () w'

theorem blk_cell {w : World} {b : Nat} {l : List Value} {t : TypeId} (h : Blk w b l t) (o : Nat) : w.cell? ⟨b, o, none⟩ = l[o]? := by
  unfold Blk at h
  simp [World.cell?, h]

theorem add_plain (b o j : Nat) : (⟨b, o, none⟩ : Addr).add j = ⟨b, o + j, none⟩ := by
  unfold Addr.add
  split
  · rename_i h; simp [h]
  · rfl

theorem loads_cell {P : Program} {w : World} {t T : TypeId} {b o n : Nat} {l : List Value} {v : Value} (h : Blk w b l T) (ht : tk P t = some (false, n)) (hv : l[o]? = some v) : Loads P w t ⟨b, o, none⟩ v := by
  unfold Loads Instr.loadAt Instr.sureAddr loadVar load
  have hc := blk_cell h o
  rw [hv] at hc
  simp [Sem.run_bind, (tk_agg ht w).1, Result.andThen, Sem.run, hc]
theorem loads_agg {P : Program} {w : World} {t T : TypeId} {b o n : Nat} {l : List Value} (h : Blk w b l T) (ht : tk P t = some (true, n)) (hn : o + n ≤ l.length) : Loads P w t ⟨b, o, none⟩ (.agg ((l.drop o).take n).toArray) := by
  have hlen : ((l.drop o).take n).length = n := by simp; omega
  have hl : (loadCells ⟨b, o, none⟩ ((l.drop o).take n).length).run P w = .ok ((l.drop o).take n).toArray w :=
    run_loadCells_list (P := P) w ⟨b, o, none⟩ _ (fun j v hv => by
      rw [add_plain, blk_cell h]
      rw [List.getElem?_take] at hv
      split at hv
      · rw [List.getElem?_drop] at hv; exact hv
      · cases hv)
  rw [hlen] at hl
  unfold Loads Instr.loadAt Instr.sureAddr loadVar
  simp [Sem.run_bind, (tk_agg ht w).1, (tk_agg ht w).2, Result.andThen, hl]
theorem loads_agg' {P : Program} {w : World} {t T : TypeId} {b o n : Nat} {l cs : List Value} (h : Blk w b l T) (ht : tk P t = some (true, n)) (hc : (l.drop o).take n = cs) (hn : cs.length = n) : Loads P w t ⟨b, o, none⟩ (.agg cs.toArray) := by
  subst hc
  by_cases h0 : n = 0
  · subst h0
    have hl : (loadCells ⟨b, o, none⟩ 0).run P w = .ok #[] w := rfl
    unfold Loads Instr.loadAt Instr.sureAddr loadVar
    simp [Sem.run_bind, (tk_agg ht w).1, (tk_agg ht w).2, Result.andThen, hl]
  · exact loads_agg h ht (by simp at hn; omega)

/-- The cells cs put in place from o on. -/
def over (l : List Value) (o : Nat) (cs : List Value) : List Value := l.take o ++ cs ++ l.drop (o + cs.length)
theorem over_length {l cs : List Value} {o : Nat} (h : o + cs.length ≤ l.length) : (over l o cs).length = l.length := by simp [over]; omega

theorem over_over {l vs : List Value} {o i : Nat} {v : Value} (h : o + i < l.length) : over (over l (o + i) [v]) (o + (i + 1)) vs = over l (o + i) (v :: vs) := by
  simp only [over, List.length_cons, List.length_nil, Nat.zero_add]
  have e1 : List.take (o + (i + 1)) (List.take (o + i) l ++ [v] ++ List.drop (o + i + 1) l) = List.take (o + i) l ++ [v] := by
    rw [List.take_append_of_le_length (by simp; omega)]
    rw [List.take_of_length_le (by simp; omega)]
  have e2 : List.drop (o + (i + 1) + vs.length) (List.take (o + i) l ++ [v] ++ List.drop (o + i + 1) l) = List.drop (o + i + (vs.length + 1)) l := by
    rw [List.drop_append, List.drop_of_length_le (by simp; omega), List.nil_append, List.drop_drop]
    congr 1
    simp; omega
  rw [e1, e2]
  simp

theorem run_storeCells {P : Program} {b : Nat} {t : TypeId} : ∀ (vs : List Value) (o i : Nat) (l : List Value) (w : World), Blk w b l t → o + i + vs.length ≤ l.length → (∀ v ∈ vs, v.oneCell' = true) →
    (storeCells ⟨b, o, none⟩ vs i).run P w = .ok () (turned w b (.cells (over l (o + i) vs).toArray t))
  | [], o, i, l, w, h, hn, h1 => by
    simp only [storeCells, over, List.append_nil, List.length_nil, Nat.add_zero, List.take_append_drop]
    show Result.ok () w = _
    congr 1
    cases w with | mk heap tape drawn os output =>
    simp only [turned, World.mk.injEq, and_true]
    unfold Blk at h
    apply Array.ext
    · simp
    · intro j hj _
      by_cases hjb : b = j
      · subst hjb
        simp only [Array.getElem_setIfInBounds_self]
        have := (Array.getElem?_eq_some_iff.1 h).2
        exact this
      · rw [Array.getElem_setIfInBounds_ne _ hjb]
  | v :: vs, o, i, l, w, h, hn, h1 => by
    have hlen : o + i < l.length := by simp at hn; omega
    have hc : w.cell? ⟨b, o + i, none⟩ = some l[o + i] := by rw [blk_cell h]; simp [hlen]
    have hf : w.frozen? ⟨b, o + i, none⟩ = false := by unfold Blk at h; simp [World.frozen?, h]
    have hset : w.setCell ⟨b, o + i, none⟩ v = turned w b (.cells (over l (o + i) [v]).toArray t) := by
      unfold Blk at h
      cases w with | mk heap tape drawn os output =>
      simp only [World.setCell, turned, World.mk.injEq, and_true]
      simp only at h
      obtain ⟨hb, hb2⟩ := Array.getElem?_eq_some_iff.1 h
      apply Array.ext
      · simp
      · intro j hj _
        rw [Array.getElem_modify]
        by_cases hjb : b = j
        · subst hjb
          rw [if_pos rfl, Array.getElem_setIfInBounds_self, hb2]
          simp only [Option.isSome_none, Bool.false_eq_true, if_false, Obj.cells.injEq, and_true]
          apply Array.ext'
          simp only [Array.toList_setIfInBounds, over]
          rw [List.set_eq_take_append_cons_drop, if_pos hlen]
          simp
        · rw [if_neg hjb, Array.getElem_setIfInBounds_ne _ hjb]
    have h' : Blk (turned w b (.cells (over l (o + i) [v]).toArray t)) b (over l (o + i) [v]) t := turned_blk _ _ h.lt
    have ih := run_storeCells (P := P) vs o (i + 1) _ _ h' (by rw [over_length (by simp; omega)]; simp at hn; omega) (fun u hu => h1 u (List.mem_cons_of_mem _ hu))
    simp only [storeCells]
    rw [add_plain, Sem.run_bind]
    rw [run_store P w ⟨b, o + i, none⟩ v .plain (h1 v (List.mem_cons_self ..)), hc]
    simp only [hf, Bool.false_eq_true, if_false, Result.andThen, hset, ih]
    congr 1
    simp only [turned, Array.setIfInBounds_setIfInBounds]
    rw [over_over (by omega)]

theorem stores {P : Program} {w : World} {t T : TypeId} {b o n : Nat} {k : Bool} {l cs : List Value} {v : Value} (h : Blk w b l T) (ht : tk P t = some (k, n)) (hv : v.cells = cs.toArray) (hn : cs.length = n) (hl : o + n ≤ l.length) (h1 : ∀ u ∈ cs, u.oneCell' = true) :
    Stores P w t ⟨b, o, none⟩ v (turned w b (.cells (over l o cs).toArray T)) := by
  have hs := run_storeCells (P := P) cs o 0 l w h (by omega) h1
  unfold Stores Instr.storeAt Instr.sureAddr storeVar
  simp only [Sem.run_bind, Sem.run_pure, Result.andThen, (tk_agg ht w).2, hv]
  simp only [List.size_toArray, hn, ne_eq, not_true_eq_false, if_false]
  simpa using hs

end Go.Al
