/-
  Slices of elements, each of sz cells; numbers that are never negative.
-/
import Derived.Test.YtijhhcnahepdlaaMore
namespace Go.Al
open Go Go.RowKit

/-- The slice at A, with room for cap, holds the elements es. -/
def SlC (w : World) (sz : Nat) (A : Option Addr) (cap : Nat) (es : List (List Value)) : Prop :=
  (A = none ∧ cap = 0 ∧ es = []) ∨
  ∃ b o L T, A = some ⟨b, o, none⟩ ∧ Blk w b L T ∧ es.length ≤ cap ∧ o + cap * sz ≤ L.length ∧ (L.drop o).take (es.length * sz) = es.flatten ∧ (∀ e ∈ es, e.length = sz)
def inA (A : Option Addr) (k : Nat) : Prop := ∃ a, A = some a ∧ k = a.block
theorem inA_some {b o k : Nat} (h : inA (some ⟨b, o, none⟩) k) : k = b := by
  obtain ⟨a, h, rfl⟩ := h; cases h; rfl
theorem inA_none {k : Nat} (h : inA none k) : False := by obtain ⟨a, h, _⟩ := h; cases h
theorem SlC.nil (w : World) (sz : Nat) : SlC w sz none 0 [] := .inl ⟨rfl, rfl, rfl⟩
theorem SlC.keep {w w' : World} {S : Nat → Prop} {sz cap : Nat} {A : Option Addr} {es : List (List Value)} (h : SlC w sz A cap es) (hk : Keep S w w') (hS : ∀ k, inA A k → ¬ S k) : SlC w' sz A cap es := by
  rcases h with h | ⟨b, o, L, T, rfl, hb, h1, h2, h3, h4⟩
  · exact .inl h
  · exact .inr ⟨b, o, L, T, rfl, hb.keep hk (hS b ⟨_, rfl, rfl⟩), h1, h2, h3, h4⟩
theorem SlC.keep0 {w w' : World} {sz cap : Nat} {A : Option Addr} {es : List (List Value)} (h : SlC w sz A cap es) (hk : Keep none_ w w') : SlC w' sz A cap es := h.keep hk (fun _ _ f => f)
theorem SlC.lt {w : World} {sz cap : Nat} {A : Option Addr} {es : List (List Value)} (h : SlC w sz A cap es) : ∀ k, inA A k → k < w.heap.size := by
  intro k hk
  rcases h with ⟨rfl, _, _⟩ | ⟨b, o, L, T, rfl, hb, h1, h2, h3, h4⟩
  · exact (inA_none hk).elim
  · rw [inA_some hk]; exact hb.lt
theorem SlC.slr {w : World} {sz cap : Nat} {A : Option Addr} {es : List (List Value)} (h : SlC w sz A cap es) : SlR w sz (.slice A es.length cap) es.length es.flatten := by
  rcases h with ⟨rfl, rfl, rfl⟩ | ⟨b, o, L, T, rfl, hb, h1, h2, h3, h4⟩
  · exact .inl ⟨rfl, rfl, rfl⟩
  · exact .inr ⟨b, o, cap, L, T, rfl, hb, h1, h2, h3⟩
theorem SlC.of {w : World} {sz m : Nat} {v : Value} {cells : List Value} {es : List (List Value)} (h : SlR w sz v m cells) (hm : es.length = m) (hc : es.flatten = cells) (hl : ∀ e ∈ es, e.length = sz) : ∃ A cap, v = .slice A m cap ∧ SlC w sz A cap es ∧ (∀ k, inA A k → blkOf v k) := by
  subst hm; subst hc
  rcases h with ⟨rfl, hm, _⟩ | ⟨b, o, cap, L, T, rfl, hb, h1, h2, h3⟩
  · exact ⟨none, 0, by rw [hm], .inl ⟨rfl, rfl, List.length_eq_zero_iff.1 hm⟩, fun k hk => (inA_none hk).elim⟩
  · exact ⟨_, cap, rfl, .inr ⟨b, o, L, T, rfl, hb, h1, h2, h3, hl⟩, fun k hk => inA_some hk⟩
theorem SlC.sizes {w : World} {sz cap : Nat} {A : Option Addr} {es : List (List Value)} (h : SlC w sz A cap es) : ∀ e ∈ es, e.length = sz := by
  rcases h with ⟨rfl, rfl, rfl⟩ | ⟨b, o, L, T, rfl, hb, h1, h2, h3, h4⟩
  · intro e he; cases he
  · exact h4
theorem SlC.cap_le {w : World} {sz cap : Nat} {A : Option Addr} {es : List (List Value)} (h : SlC w sz A cap es) : es.length ≤ cap := by
  rcases h with ⟨rfl, rfl, rfl⟩ | ⟨b, o, L, T, rfl, hb, h1, h2, h3, h4⟩
  · simp
  · exact h1
theorem flatten_len {es : List (List Value)} {sz : Nat} (h : ∀ e ∈ es, e.length = sz) : es.flatten.length = es.length * sz := by
  induction es with
  | nil => simp
  | cons e es ih =>
    simp only [List.flatten_cons, List.length_append, List.length_cons]
    rw [ih (fun x hx => h x (List.mem_cons_of_mem _ hx)), h e (List.mem_cons_self ..), Nat.add_mul]
    omega
theorem flatten_drop {es : List (List Value)} {sz : Nat} (h : ∀ e ∈ es, e.length = sz) : ∀ i, es.flatten.drop (i * sz) = (es.drop i).flatten := by
  induction es with
  | nil => intro i; simp
  | cons e es ih =>
    intro i
    cases i with
    | zero => simp
    | succ i =>
      have he := h e (List.mem_cons_self ..)
      simp only [List.flatten_cons, List.drop_succ_cons]
      rw [show (i + 1) * sz = e.length + i * sz by rw [he, Nat.add_mul]; omega, List.drop_append]
      simp only [List.drop_of_length_le (Nat.le_add_right e.length (i * sz)), List.nil_append, Nat.add_sub_cancel_left]
      exact ih (fun x hx => h x (List.mem_cons_of_mem _ hx)) i
theorem flatten_take {es : List (List Value)} {sz : Nat} (h : ∀ e ∈ es, e.length = sz) : ∀ i, es.flatten.take (i * sz) = (es.take i).flatten := by
  induction es with
  | nil => intro i; simp
  | cons e es ih =>
    intro i
    cases i with
    | zero => simp
    | succ i =>
      have he := h e (List.mem_cons_self ..)
      simp only [List.flatten_cons, List.take_succ_cons]
      rw [show (i + 1) * sz = e.length + i * sz by rw [he, Nat.add_mul]; omega, List.take_append]
      simp only [List.take_of_length_le (Nat.le_add_right e.length (i * sz)), Nat.add_sub_cancel_left]
      rw [ih (fun x hx => h x (List.mem_cons_of_mem _ hx)) i]
theorem flatten_at {es : List (List Value)} {sz i : Nat} (h : ∀ e ∈ es, e.length = sz) (hi : i < es.length) : (es.flatten.drop (i * sz)).take sz = es[i] := by
  rw [flatten_drop h]
  have h1 : es.drop i = es[i] :: es.drop (i + 1) := by rw [List.drop_eq_getElem_cons hi]
  rw [h1, List.flatten_cons, List.take_append_of_le_length (by rw [h _ (List.getElem_mem hi)]; exact Nat.le_refl _), List.take_of_length_le (by rw [h _ (List.getElem_mem hi)]; exact Nat.le_refl _)]
/-- A slice that holds something, opened. -/
structure At (w : World) (b o : Nat) (L : List Value) (T : TypeId) (sz cap : Nat) (es : List (List Value)) : Prop where
  blk : Blk w b L T
  le : es.length ≤ cap
  room : o + cap * sz ≤ L.length
  cells : (L.drop o).take (es.length * sz) = es.flatten
  sizes : ∀ e ∈ es, e.length = sz
theorem SlC.open_ {w : World} {sz cap : Nat} {A : Option Addr} {es : List (List Value)} (h : SlC w sz A cap es) (hi : 0 < es.length) : ∃ b o L T, A = some ⟨b, o, none⟩ ∧ At w b o L T sz cap es := by
  rcases h with ⟨rfl, rfl, rfl⟩ | ⟨b, o, L, T, rfl, hb, h1, h2, h3, h4⟩
  · simp at hi
  · exact ⟨b, o, L, T, rfl, hb, h1, h2, h3, h4⟩
theorem At.slc {w : World} {sz cap b o : Nat} {L : List Value} {T : TypeId} {es : List (List Value)} (h : At w b o L T sz cap es) : SlC w sz (some ⟨b, o, none⟩) cap es := .inr ⟨b, o, L, T, rfl, h.blk, h.le, h.room, h.cells, h.sizes⟩
theorem At.keep {w w' : World} {S : Nat → Prop} {sz cap b o : Nat} {L : List Value} {T : TypeId} {es : List (List Value)} (h : At w b o L T sz cap es) (hk : Keep S w w') (hS : ¬ S b) : At w' b o L T sz cap es := ⟨h.blk.keep hk hS, h.le, h.room, h.cells, h.sizes⟩
theorem At.elem {w : World} {sz cap b o i : Nat} {L : List Value} {T : TypeId} {es : List (List Value)} (h : At w b o L T sz cap es) (hi : i < es.length) : (L.drop (o + i * sz)).take sz = es[i] := by
  rw [← flatten_at h.sizes hi, ← h.cells]
  have : (i + 1) * sz ≤ es.length * sz := Nat.mul_le_mul_right _ hi
  rw [cells_slice (by rw [Nat.add_mul] at this; omega)]
theorem At.elem' {w : World} {sz cap b o i : Nat} {L e : List Value} {T : TypeId} {es : List (List Value)} (h : At w b o L T sz cap es) (hi : es[i]? = some e) : (L.drop (o + i * sz)).take sz = e := by
  obtain ⟨h1, rfl⟩ := List.getElem?_eq_some_iff.1 hi
  exact h.elem h1
theorem At.cell {w : World} {sz cap b o i f : Nat} {L e : List Value} {T : TypeId} {v : Value} {es : List (List Value)} (h : At w b o L T sz cap es) (hi : es[i]? = some e) (hf : e[f]? = some v) : L[o + i * sz + f]? = some v := by
  have h1 := h.elem' hi
  have hl := h.sizes e (List.mem_of_getElem? hi)
  have hf' : f < sz := by rw [← hl]; exact (List.getElem?_eq_some_iff.1 hf).1
  rw [← h1, List.getElem?_take, if_pos hf', List.getElem?_drop] at hf
  exact hf
theorem At.cell0 {w : World} {sz cap b o i : Nat} {L e : List Value} {T : TypeId} {v : Value} {es : List (List Value)} (h : At w b o L T sz cap es) (hi : es[i]? = some e) (hf : e[0]? = some v) : L[o + i * sz]? = some v := h.cell hi hf
theorem At.len {w : World} {sz cap b o i : Nat} {L e : List Value} {T : TypeId} {es : List (List Value)} (h : At w b o L T sz cap es) (hi : es[i]? = some e) : e.length = sz := h.sizes e (List.mem_of_getElem? hi)

/-- A slice of things that f lays in cells. -/
def SlT {α : Type} (w : World) (sz : Nat) (f : α → List Value) (A : Option Addr) (cap : Nat) (xs : List α) : Prop := SlC w sz A cap (xs.map f)
section
variable {α : Type} {w w' : World} {sz cap i : Nat} {f : α → List Value} {A : Option Addr} {xs : List α} {x : α}
theorem SlT.open_ (h : SlT w sz f A cap xs) (hi : 0 < xs.length) : ∃ b o L T, A = some ⟨b, o, none⟩ ∧ At w b o L T sz cap (xs.map f) := SlC.open_ h (by simpa using hi)
theorem SlT.keep {S : Nat → Prop} (h : SlT w sz f A cap xs) (hk : Keep S w w') (hS : ∀ k, inA A k → ¬ S k) : SlT w' sz f A cap xs := SlC.keep h hk hS
theorem SlT.keep0 (h : SlT w sz f A cap xs) (hk : Keep none_ w w') : SlT w' sz f A cap xs := SlC.keep0 h hk
theorem SlT.cap_le (h : SlT w sz f A cap xs) : xs.length ≤ cap := by simpa using SlC.cap_le h
theorem SlT.nil (w : World) (sz : Nat) (f : α → List Value) : SlT w sz f none 0 [] := SlC.nil w sz
theorem SlT.lt (h : SlT w sz f A cap xs) : ∀ k, inA A k → k < w.heap.size := SlC.lt h
theorem SlT.slr (h : SlT w sz f A cap xs) : SlR w sz (.slice A xs.length cap) xs.length (xs.flatMap f) := by
  have := SlC.slr h
  rw [List.length_map] at this
  exact this
theorem SlT.of {m : Nat} {v : Value} {cells : List Value} (h : SlR w sz v m cells) (hm : xs.length = m) (hc : xs.flatMap f = cells) (hl : ∀ x ∈ xs, (f x).length = sz) : ∃ A cap, v = .slice A m cap ∧ SlT w sz f A cap xs ∧ (∀ k, inA A k → blkOf v k) :=
  SlC.of h (by simpa using hm) hc (by intro e he; obtain ⟨x, hx, rfl⟩ := List.mem_map.1 he; exact hl x hx)
theorem flatMap_len (hf : ∀ x, (f x).length = sz) : ∀ xs : List α, (xs.flatMap f).length = xs.length * sz
  | [] => by simp
  | x :: xs => by simp [hf, flatMap_len hf xs, Nat.add_mul]; omega
theorem slt_blk {b : Nat} {T : TypeId} (h : Blk w b (xs.flatMap f) T) (hf : ∀ x, (f x).length = sz) (hc : xs.length = cap) : SlT w sz f (some ⟨b, 0, none⟩) cap xs := by
  subst hc
  refine .inr ⟨b, 0, _, T, rfl, h, by simp, ?_, ?_, ?_⟩
  · rw [flatMap_len hf]; omega
  · rw [List.drop_zero, List.length_map, List.take_of_length_le (by rw [flatMap_len hf]; exact Nat.le_refl _)]; simp [List.flatMap_def]
  · intro e he; obtain ⟨x, hx, rfl⟩ := List.mem_map.1 he; exact hf x
theorem es_at (h : xs[i]? = some x) : (xs.map f)[i]? = some (f x) := by rw [List.getElem?_map, h]; rfl
theorem At.slt {b o : Nat} {L : List Value} {T : TypeId} (h : At w b o L T sz cap (xs.map f)) : SlT w sz f (some ⟨b, o, none⟩) cap xs := At.slc h
end

section
variable {P : Program} {e : Env}
theorem pure_idxN {t E : TypeId} {x y : Operand} {b o len cap sz by_ : Nat} {kd : IntKind} {j : Nat} (hx : ev e x = .slice (some ⟨b, o, none⟩) len cap) (hy : ev e y = .int kd (j : Int)) (hs : slk P t = some (E, sz, by_)) (h1 : j < len) :
    PureOp P e (.indexAddr t x y) (.pointer (some ⟨b, o + j * sz, none⟩)) := pure_idx hx hy hs (by omega) (by omega)
end

/-! ### Numbers that are never negative -/
theorem wrapN {n : Nat} (h : n ≤ 9223372036854775807) : IntKind.i64.wrap (n : Int) = (n : Int) := wrap64_id (by omega) (by omega)
theorem wrap_add {a b : Nat} (h : a + b ≤ 9223372036854775807) : IntKind.i64.wrap ((a : Int) + (b : Int)) = ((a + b : Nat) : Int) := by rw [wrap64_id (by omega) (by omega)]; omega
theorem wrap_addl (a k : Nat) (h : a + k ≤ 9223372036854775807) : IntKind.i64.wrap ((a : Int) + OfNat.ofNat k) = ((a + k : Nat) : Int) := wrap_add h
theorem wrap_sub {a b : Nat} (h : b ≤ a) (ha : a ≤ 9223372036854775807) : IntKind.i64.wrap ((a : Int) - (b : Int)) = ((a - b : Nat) : Int) := by rw [wrap64_id (by omega) (by omega)]; omega
theorem wrap_u64 {a : Nat} (h : a ≤ 18446744073709551615) : IntKind.u64.wrap (a : Int) = (a : Int) := by
  unfold IntKind.wrap IntKind.bits IntKind.signed
  simp only [Bool.false_and, Bool.false_eq_true, if_false]
  have e1 : (2 : Int) ^ 64 = 18446744073709551616 := by decide
  rw [e1]
  omega
theorem shr1 (a : Nat) : Int.fdiv (a : Int) (2 ^ 1) = ((a / 2 : Nat) : Int) := by
  rw [show (2 : Int) ^ 1 = ((2 : Nat) : Int) from by decide, Int.fdiv_eq_ediv_of_nonneg _ (by omega)]
  omega
theorem take_all {α : Type} {l : List α} {n : Nat} (h : l.length = n) : (l.drop 0).take n = l := by rw [List.drop_zero, List.take_of_length_le (by omega)]
def acts (l : List Nat) (i : Nat) : Bool := l.any (Nat.beq i)
end Go.Al
