/-
  Put together out of 17 texts: Arguments, read as data: what cells a value of a type without pointers fills; slices of such values; loads from memory that is only read. Ranges over functions: what an iterator does with its yield; a loop over one; a function that holds such a loop. Walks of package gr
-/
import Derived.Test.YtijhhcnahepdlaaGridTextsB1
import Derived.WalkKit
import Derived.ProofKit
import Derived.OpenShut
import Derived.Deep.Slices
import Derived.RangeFuncNested
import Derived.Laws.StructEq
import Derived.ChangeKeysEq
import Derived.MapKept
namespace Go.Al
open Go Go.RowKit Go.ChangeShapes Go.WideShapes

/-! ### Cells of a type without pointers -/
inductive CK where
  | int (k : IntKind)
  | bool
  | str
def CK.fits : CK → Value → Prop
  | .int k, v => ∃ n, v = .int k n ∧ (Lit.int k n).wf = true
  | .bool, v => ∃ b, v = .bool b
  | .str, v => ∃ s, v = .string s
def Flat : List CK → List Value → Prop
  | [], [] => True
  | k :: ks, v :: vs => k.fits v ∧ Flat ks vs
  | _, _ => False
theorem Flat.append : ∀ {ks js : List CK} {vs us : List Value}, Flat ks vs → Flat js us → Flat (ks ++ js) (vs ++ us)
  | [], _, [], _, _, h => h
  | _ :: _, _, _ :: _, _, h, h' => ⟨h.1, h.2.append h'⟩
  | [], _, _ :: _, _, h, _ => h.elim
  | _ :: _, _, [], _, h, _ => h.elim
theorem Flat.length : ∀ {ks : List CK} {vs : List Value}, Flat ks vs → vs.length = ks.length
  | [], [], _ => rfl
  | _ :: _, _ :: _, h => by simp [h.2.length]
  | [], _ :: _, h => h.elim
  | _ :: _, [], h => h.elim
def flatFs (P : Program) (r : TypeId → Option (List CK)) : List Field → List CK → Option (List CK)
  | [], acc => some acc
  | f :: fs, acc => match r f.type with
    | some l => bif Nat.beq f.offset acc.length && Nat.beq (P.cellsOf f.type) l.length then flatFs P r fs (acc ++ l) else none
    | none => none
def flatK (P : Program) : Nat → TypeId → Option (List CK)
  | 0, _ => none
  | n + 1, t =>
    match P.underlying t with
    | some (.int k) => some [.int k]
    | some .bool => some [.bool]
    | some .string => some [.str]
    | some (.struct fs) => match flatFs P (flatK P n) fs.toList [] with
      | some l => bif Nat.beq (P.cellsOf t) l.length then some l else none
      | none => none
    | some (.array m e) => match flatK P n e with
      | some l => bif Nat.beq (P.cellsOf e) l.length && Nat.beq (P.cellsOf t) (m * l.length) then some (List.replicate m l).flatten else none
      | none => none
    | _ => none

section
variable {H : Type} {enc : TypeId × Value → H} {P : Program} {w : World} {base : Nat} {spare : Nat → Bool} {held : Bool}
theorem flatFs_ok {r : TypeId → Option (List CK)} {cs : List Value} (hr : ∀ t l vs, r t = some l → (∃ m x, DataW.trod enc P w base spare held m t vs = some x) → Flat l vs) :
    ∀ (fs : List Field) (acc l : List CK), flatFs P r fs acc = some l → (∀ f ∈ fs, ∃ m x, DataW.trod enc P w base spare held m f.type ((cs.drop f.offset).take (P.cellsOf f.type)) = some x) → Flat acc (cs.take acc.length) → Flat l (cs.take l.length)
  | [], acc, l, h, _, ha => by simp only [flatFs, Option.some.injEq] at h; subst h; exact ha
  | f :: fs, acc, l, h, hf, ha => by
    simp only [flatFs] at h
    cases hl : r f.type with
    | none => simp [hl] at h
    | some k =>
      simp only [hl] at h
      cases hc : (Nat.beq f.offset acc.length && Nat.beq (P.cellsOf f.type) k.length) with
      | false => simp [hc] at h
      | true =>
        simp only [hc, cond_true] at h
        simp only [Bool.and_eq_true, Nat.beq_eq] at hc
        have h1 := hr f.type k _ hl (hf f (List.mem_cons_self ..))
        rw [hc.1, hc.2] at h1
        refine flatFs_ok hr fs (acc ++ k) l h (fun g hg => hf g (List.mem_cons_of_mem _ hg)) ?_
        have h2 := ha.append h1
        rw [List.length_append]
        have e : cs.take (acc.length + k.length) = cs.take acc.length ++ (cs.drop acc.length).take k.length := List.take_add
        rw [e]; exact h2
theorem flatA_ok {l : List CK} : ∀ (m : Nat) (cs : List Value), cs.length = m * l.length → (∀ i, i < m → Flat l ((cs.drop (i * l.length)).take l.length)) → Flat (List.replicate m l).flatten cs
  | 0, cs, h, _ => by
    have : cs = [] := List.length_eq_zero_iff.1 (by simpa using h)
    subst this; exact trivial
  | m + 1, cs, h, hi => by
    rw [Nat.add_mul, Nat.one_mul] at h
    have h0 := hi 0 (Nat.succ_pos _)
    rw [Nat.zero_mul, List.drop_zero] at h0
    have hr := flatA_ok (l := l) m (cs.drop l.length) (by rw [List.length_drop]; omega) (fun i hlt => by
      have := hi (i + 1) (by omega)
      rw [List.drop_drop]
      rwa [Nat.add_mul, Nat.one_mul, Nat.add_comm] at this)
    rw [List.replicate_succ, List.flatten_cons, ← List.take_append_drop l.length cs]
    exact h0.append hr
theorem flat_trod : ∀ (n : Nat) (t : TypeId) (l : List CK) (cs : List Value), flatK P n t = some l → (∃ m x, DataW.trod enc P w base spare held m t cs = some x) → Flat l cs
  | 0, _, _, _, h, _ => by simp [flatK] at h
  | n + 1, t, l, cs, h, ⟨m, x, hx⟩ => by
    simp only [flatK] at h
    split at h
    · rename_i k hu
      simp only [Option.some.injEq] at h; subst h
      obtain ⟨z, rfl, _, hw⟩ := DataW.trod_int hu hx
      exact ⟨⟨z, rfl, hw⟩, trivial⟩
    · rename_i hu
      simp only [Option.some.injEq] at h; subst h
      cases m with
      | zero => simp [DataW.trod] at hx
      | succ m =>
        unfold DataW.trod at hx
        rw [hu] at hx
        split at hx <;> simp_all
        exact ⟨⟨_, rfl⟩, trivial⟩
    · rename_i hu
      simp only [Option.some.injEq] at h; subst h
      obtain ⟨s, rfl, _⟩ := DataW.trod_string hu hx
      exact ⟨⟨s, rfl⟩, trivial⟩
    · rename_i fs hu
      cases hl : flatFs P (flatK P n) fs.toList [] with
      | none => simp [hl] at h
      | some k =>
        simp only [hl] at h
        cases hc : Nat.beq (P.cellsOf t) k.length with
        | false => simp [hc] at h
        | true =>
          simp only [hc, cond_true, Option.some.injEq] at h
          subst h
          obtain ⟨xs, m', rfl, _, hlen, hxl, hf⟩ := DataW.trod_struct hu hx
          rw [Nat.beq_eq] at hc
          have := flatFs_ok (enc := enc) (w := w) (base := base) (spare := spare) (held := held) (cs := cs) (fun t l vs hl hx => flat_trod n t l vs hl hx) fs.toList [] k hl (fun f hf' => by
            obtain ⟨i, hi⟩ := List.mem_iff_getElem?.1 hf'
            have hi2 : fs[i]? = some f := by simpa using hi
            have h3 := hf i f hi2
            have hlt : i < xs.length := by rw [hxl]; exact (Array.getElem?_eq_some_iff.1 hi2).1
            rw [List.getElem?_eq_getElem hlt] at h3
            exact ⟨m', _, h3⟩) trivial
          rwa [List.take_of_length_le (by omega)] at this
    · rename_i q e hu
      cases hl : flatK P n e with
      | none => simp [hl] at h
      | some k =>
        simp only [hl] at h
        cases hc : (Nat.beq (P.cellsOf e) k.length && Nat.beq (P.cellsOf t) (q * k.length)) with
        | false => simp [hc] at h
        | true =>
          simp only [hc, cond_true, Option.some.injEq] at h
          subst h
          simp only [Bool.and_eq_true, Nat.beq_eq] at hc
          obtain ⟨xs, m', rfl, _, hlen, hxl, hf⟩ := DataW.trod_array hu hx
          refine flatA_ok q cs (by omega) (fun i hi => ?_)
          have h3 := hf i hi
          rw [List.getElem?_eq_getElem (by omega), hc.1] at h3
          exact flat_trod n e k _ hl ⟨m', _, h3⟩
    · cases h

/-! ### Memory that is only read -/
def BlkR (w : World) (b : Nat) (l : List Value) : Prop := ∃ T f, w.heap[b]? = some (.cells l.toArray T f)
theorem BlkR.lt {w : World} {b : Nat} {l : List Value} (h : BlkR w b l) : b < w.heap.size := by obtain ⟨T, f, h⟩ := h; exact (Array.getElem?_eq_some_iff.1 h).1
theorem BlkR.keep {S : Nat → Prop} {w w' : World} {b : Nat} {l : List Value} (h : BlkR w b l) (k : Keep S w w') (hS : ¬ S b) : BlkR w' b l := by
  have hlt := h.lt
  obtain ⟨T, f, h⟩ := h
  exact ⟨T, f, (k.block b hlt hS).trans h⟩
theorem blkR_cell {w : World} {b : Nat} {l : List Value} (h : BlkR w b l) (o : Nat) : w.cell? ⟨b, o, none⟩ = l[o]? := by
  obtain ⟨T, f, h⟩ := h
  simp [World.cell?, h]
/-- A slice that is only read, opened. -/
structure AtR (w : World) (b o : Nat) (L : List Value) (sz cap : Nat) (es : List (List Value)) : Prop where
  blk : BlkR w b L
  elem' : ∀ (i : Nat) e, es[i]? = some e → (L.drop (o + i * sz)).take sz = e
  sizes : ∀ e ∈ es, e.length = sz
theorem AtR.keep {S : Nat → Prop} {w w' : World} {sz cap b o : Nat} {L : List Value} {es : List (List Value)} (h : AtR w b o L sz cap es) (hk : Keep S w w') (hS : ¬ S b) : AtR w' b o L sz cap es := ⟨h.blk.keep hk hS, h.elem', h.sizes⟩
theorem AtR.cell {w : World} {sz cap b o i f : Nat} {L e : List Value} {v : Value} {es : List (List Value)} (h : AtR w b o L sz cap es) (hi : es[i]? = some e) (hf : e[f]? = some v) : L[o + i * sz + f]? = some v := by
  have h1 := h.elem' i e hi
  have hl := h.sizes e (List.mem_of_getElem? hi)
  have hf' : f < sz := by rw [← hl]; exact (List.getElem?_eq_some_iff.1 hf).1
  rw [← h1, List.getElem?_take, if_pos hf', List.getElem?_drop] at hf
  exact hf
theorem AtR.cell0 {w : World} {sz cap b o i : Nat} {L e : List Value} {v : Value} {es : List (List Value)} (h : AtR w b o L sz cap es) (hi : es[i]? = some e) (hf : e[0]? = some v) : L[o + i * sz]? = some v := h.cell hi hf
theorem AtR.len {w : World} {sz cap b o i : Nat} {L e : List Value} {es : List (List Value)} (h : AtR w b o L sz cap es) (hi : es[i]? = some e) : e.length = sz := h.sizes e (List.mem_of_getElem? hi)
/-- An argument: a slice that is only read. -/
def ArgT {α : Type} (w : World) (sz : Nat) (f : α → List Value) (A : Option Addr) (cap : Nat) (xs : List α) : Prop := xs = [] ∨ ∃ b o L, A = some ⟨b, o, none⟩ ∧ AtR w b o L sz cap (xs.map f)
theorem ArgT.keep0 {α : Type} {w w' : World} {sz cap : Nat} {f : α → List Value} {A : Option Addr} {xs : List α} (h : ArgT w sz f A cap xs) (hk : Keep none_ w w') : ArgT w' sz f A cap xs := by
  rcases h with h | ⟨b, o, L, h1, h2⟩
  · exact .inl h
  · exact .inr ⟨b, o, L, h1, h2.keep hk (fun f => f)⟩
theorem ArgT.keep {α : Type} {S : Nat → Prop} {w0 w w' : World} {sz cap : Nat} {f : α → List Value} {A : Option Addr} {xs : List α} (h : ArgT w sz f A cap xs) (hk : Keep S w w') (hA : ArgT w0 sz f A cap xs) (hS : ∀ k, k < w0.heap.size → ¬ S k) : ArgT w' sz f A cap xs := by
  rcases h with h | ⟨b, o, L, h1, h2⟩
  · exact .inl h
  · rcases hA with h | ⟨b', o', L', h1', h2'⟩
    · exact .inl h
    · rw [h1] at h1'; cases h1'
      exact .inr ⟨b, o, L, h1, h2.keep hk (hS b h2'.blk.lt)⟩
theorem ArgT.open_ {α : Type} {w : World} {sz cap : Nat} {f : α → List Value} {A : Option Addr} {xs : List α} (h : ArgT w sz f A cap xs) (hi : 0 < xs.length) : ∃ b o L, A = some ⟨b, o, none⟩ ∧ AtR w b o L sz cap (xs.map f) := by
  rcases h with rfl | h
  · simp at hi
  · exact h

theorem ArgT.lt {α : Type} {w : World} {sz cap b o : Nat} {f : α → List Value} {xs : List α} (h : ArgT w sz f (some ⟨b, o, none⟩) cap xs) (hi : 0 < xs.length) : b < w.heap.size := by
  obtain ⟨b', o', L, h1, h2⟩ := h.open_ hi
  cases h1
  exact h2.blk.lt

/-- A slice argument whose elements have no pointers. -/
theorem read_slice {t e : TypeId} {ks : List CK} {n sz : Nat} {A : Option Addr} {len cap : Nat} {d : DataW H} {ps : List MemPlace} (ht : P.underlying t = some (.slice e)) (hk : flatK P n e = some ks) (hc : P.cellsOf e = ks.length) (hsz : ks.length = sz) (hk0 : 0 < ks.length)
    (h : DataW.Trod enc P w 0 (fun _ => true) true t (.slice A len cap) d ps) : ∃ xs : List (List Value), xs.length = len ∧ (∀ x ∈ xs, Flat ks x) ∧ ArgT w sz id A cap xs ∧ len ≤ cap ∧ cap ≤ maxLen := by
  subst hsz
  obtain ⟨fuel, hf⟩ := h
  rcases Deep.open_slice ht hf with ⟨hcs, _⟩ | ⟨a, len', cap', m, n', D, Pl, hcs, _, hl, hm, hmm, _, hx⟩
  · simp [Value.cells] at hcs
    obtain ⟨rfl, rfl, rfl⟩ := hcs
    exact ⟨[], rfl, fun x hx => (by cases hx), .inl rfl, Nat.le_refl _, Nat.zero_le _⟩
  · simp [Value.cells] at hcs
    obtain ⟨rfl, rfl, rfl⟩ := hcs
    simp only [if_true] at hmm
    subst hmm
    rcases Nat.eq_zero_or_pos len with h0 | h0
    · subst h0
      exact ⟨[], rfl, fun x hx => (by cases hx), .inl rfl, hl, hm⟩
    have hflat : ∀ i, i < len → ∃ cs, w.cells? 0 (a.add (i * ks.length)) ks.length = some cs ∧ Flat ks cs := by
      intro i hi
      obtain ⟨cs, h1, h2⟩ := hx i (by omega)
      rw [hc] at h1
      exact ⟨cs, h1, flat_trod n e ks cs hk ⟨_, _, h2⟩⟩
    obtain ⟨V, hV⟩ : ∃ V : Nat → List Value, ∀ i, i < len → w.cells? 0 (a.add (i * ks.length)) ks.length = some (V i) ∧ Flat ks (V i) :=
      ⟨fun i => if h : i < len then Classical.choose (hflat i h) else [], fun i hi => by simp only [hi, dif_pos]; exact Classical.choose_spec (hflat i hi)⟩
    refine ⟨(List.range len).map V, by simp, ?_, ?_, hl, hm⟩
    · intro x hx
      obtain ⟨i, hi, rfl⟩ := List.mem_map.1 hx
      exact (hV i (List.mem_range.1 hi)).2
    · right
      · skip
        obtain ⟨hc0, _⟩ := hV 0 h0
        obtain ⟨_, hl0, hcell⟩ := World.cells?_some hc0
        have h00 := hcell 0 hk0
        rw [Nat.zero_mul] at h00
        have hadd : (a.add 0).add 0 = a := by simp [Addr.add]
        rw [hadd] at h00
        have hsome : ∃ v, w.cell? a = some v := by rw [h00]; exact ⟨_, List.getElem?_eq_getElem (by omega)⟩
        obtain ⟨v, hv⟩ := hsome
        obtain ⟨b, o, sp⟩ := a
        unfold World.cell? at hv
        simp only at hv
        split at hv
        · rename_i c T f hb
          split at hv
          · cases hv
          · rename_i hsp
            obtain rfl : sp = none := by cases sp <;> simp_all
            refine ⟨b, o, c.toList, rfl, ⟨⟨T, f, by simpa using hb⟩, ?_, ?_⟩⟩
            · intro i e he
              simp only [List.map_id, List.getElem?_map] at he
              obtain ⟨j, hj, rfl⟩ := Option.map_eq_some_iff.1 he
              obtain ⟨hlt, rfl⟩ := List.getElem?_eq_some_iff.1 hj
              simp only [List.length_range] at hlt
              simp only [List.getElem_range]
              obtain ⟨_, hli, hci⟩ := World.cells?_some (hV i hlt).1
              apply List.ext_getElem?
              intro q
              rw [List.getElem?_take]
              split
              · rename_i hq
                have := hci q hq
                rw [add_plain, add_plain] at this
                rw [← this, List.getElem?_drop]
                simp [World.cell?, hb]
              · rename_i hq
                rw [List.getElem?_eq_none (by omega)]
            · intro e he
              simp only [List.map_id] at he
              obtain ⟨i, hi, rfl⟩ := List.mem_map.1 he
              exact (hV i (List.mem_range.1 hi)).2.length
        · cases hv
end

/-- Elements, told by what lays them in cells. -/
theorem lift_all {α : Type} {f : α → List Value} {ks : List CK} (hf : ∀ x, Flat ks x → ∃ y, f y = x) : ∀ xs : List (List Value), (∀ x ∈ xs, Flat ks x) → ∃ ys : List α, ys.map f = xs
  | [], _ => ⟨[], rfl⟩
  | x :: xs, h => by
    obtain ⟨y, hy⟩ := hf x (h x (List.mem_cons_self ..))
    obtain ⟨ys, hys⟩ := lift_all hf xs (fun z hz => h z (List.mem_cons_of_mem _ hz))
    exact ⟨y :: ys, by simp [hy, hys]⟩
theorem ArgT.conv {α : Type} {w : World} {sz cap : Nat} {f : α → List Value} {A : Option Addr} {ys : List α} (h : ArgT w sz id A cap (ys.map f)) : ArgT w sz f A cap ys := by
  rcases h with h | ⟨b, o, L, h1, h2⟩
  · exact .inl (by simpa using h)
  · exact .inr ⟨b, o, L, h1, by simpa using h2⟩
theorem read_elems {H : Type} {enc : TypeId × Value → H} {P : Program} {w : World} {α : Type} {f : α → List Value} {t e : TypeId} {ks : List CK} {n sz : Nat} {A : Option Addr} {len cap : Nat} {d : DataW H} {ps : List MemPlace} (hf : ∀ x, Flat ks x → ∃ y, f y = x) (ht : P.underlying t = some (.slice e)) (hk : flatK P n e = some ks) (hc : P.cellsOf e = ks.length) (hsz : ks.length = sz) (hk0 : 0 < ks.length)
    (h : DataW.Trod enc P w 0 (fun _ => true) true t (.slice A len cap) d ps) : ∃ xs : List α, xs.length = len ∧ ArgT w sz f A cap xs ∧ len ≤ cap ∧ cap ≤ maxLen := by
  obtain ⟨xs, h1, h2, h3, h4, h5⟩ := read_slice ht hk hc hsz hk0 h
  obtain ⟨ys, rfl⟩ := lift_all hf xs h2
  exact ⟨ys, by simpa using h1, h3.conv, h4, h5⟩
/-! ### Loads from memory that is only read -/
theorem loads_cellR {P : Program} {w : World} {t : TypeId} {b o n : Nat} {l : List Value} {v : Value} (h : BlkR w b l) (ht : tk P t = some (false, n)) (hv : l[o]? = some v) : Loads P w t ⟨b, o, none⟩ v := by
  unfold Loads Instr.loadAt Instr.sureAddr loadVar load
  have hc := blkR_cell h o
  rw [hv] at hc
  simp [Sem.run_bind, (tk_agg ht w).1, Result.andThen, Sem.run, hc]
section
variable {P : Program} {r : Option Nat} {n : Nat} {ds : List Deferred} {ops : Array Oper} {Q : Post} {act : Nat → Bool} {S : Nat → Prop} {w1 : World} {i : Nat} {l : List Nat} {e : Env} {w : World}
theorem OI_cellR {b m : Nat} {L : List Value} (t : TypeId) (x : Operand) (o : Nat) (v : Value) (d : Option Tmp) (h : site ops e i = some (d, .load t x)) (hx : ev e x = .pointer (some ⟨b, o, none⟩)) (hb : BlkR w b L) (ht : tk P t = some (false, m)) (hv : L[o]? = some v)
    (k : OI P r n ds ops Q (i + 1) (putE n d v e) w) : OI P r n ds ops Q i e w := OI_load d h hx (loads_cellR hb ht hv) k
theorem GI_cellR {b m : Nat} {L : List Value} (t : TypeId) (x : Operand) (o : Nat) (v : Value) (d : Option Tmp) (h : site ops e i = some (d, .load t x)) (hact : act i = false) (hx : ev e x = .pointer (some ⟨b, o, none⟩)) (hb : BlkR w1 b L) (hS : ¬ S b) (ht : tk P t = some (false, m)) (hv : L[o]? = some v)
    (k : GI P r n ds ops Q act S w1 l (putE n d v e) w) : GI P r n ds ops Q act S w1 (i :: l) e w :=
  GI_quiet d _ h hact (fun o' _ ho w' hw' => by
    replace hw' : Keep S w1 w' := hw'.resolve_right (by unfold noLoad; rw [ho]; exact Bool.false_ne_true)
    have hl := loads_cellR (P := P) (hb.keep hw' hS) ht hv
    unfold Loads at hl
    unfold execOp
    simp only [ho, hx, Sem.run_bind, hl, Result.andThen, Sem.run_pure]) k
end

/-! ### Bits -/
def bAnd (x y : Int) : Int := IntKind.i64.wrap ((BitVec.ofInt 64 x &&& BitVec.ofInt 64 y).toNat : Int)
theorem bAnd_le (x : Int) (m : Nat) (hm : m < 9223372036854775808) : 0 ≤ bAnd x (m : Int) ∧ bAnd x (m : Int) ≤ m := by
  unfold bAnd
  have h1 : (BitVec.ofInt 64 x &&& BitVec.ofInt 64 (m : Int)).toNat ≤ m := by
    rw [BitVec.toNat_and]
    refine Nat.le_trans Nat.and_le_right ?_
    rw [BitVec.toNat_ofInt]
    have : ((m : Int) % (2 ^ 64 : Nat)).toNat = m := by
      rw [Int.emod_eq_of_lt (by omega) (by omega)]; omega
    omega
  rw [wrapN (by omega)]
  omega
theorem over_whole {l cs : List Value} (h : l.length = cs.length) : over l 0 cs = cs := by
  unfold over
  rw [List.take_zero, List.nil_append, Nat.zero_add, ← h, List.drop_length, List.append_nil]
end Go.Al


namespace Go.Al
open Go Go.RowKit

/-- Blocks of book-keeping: from N on, and no cells. -/
def lb (N : Nat) (W : World) : Nat → Prop := fun k => N ≤ k ∧ ∀ c t f, W.heap[k]? ≠ some (Obj.cells c t f)
/-- What abides whatever is turned in blocks of book-keeping, and whatever is laid anew. -/
def Quiet (N : Nat) (J : World → Prop) : Prop := ∀ W W', J W → Keep (lb N W) W W' → J W'
theorem lb_mono {N N' : Nat} {W : World} {k : Nat} (hN : N ≤ N') (h : lb N' W k) : lb N W k := ⟨Nat.le_trans hN h.1, h.2⟩
theorem Quiet.mono {N N' : Nat} {J : World → Prop} (h : Quiet N J) (hN : N ≤ N') : Quiet N' J := fun W W' hj hk => h W W' hj (hk.mono fun _ _ hs => lb_mono hN hs)
theorem lb_blk {N : Nat} {W : World} {b : Nat} {l : List Value} {T : TypeId} (h : Blk W b l T) : ¬ lb N W b := fun hs => hs.2 _ _ _ h
theorem lb_blkR {N : Nat} {W : World} {b : Nat} {l : List Value} (h : BlkR W b l) : ¬ lb N W b := fun hs => by obtain ⟨T, f, h⟩ := h; exact hs.2 _ _ _ h
theorem Blk.quiet {N : Nat} {W W' : World} {b : Nat} {l : List Value} {T : TypeId} (h : Blk W b l T) (k : Keep (lb N W) W W') : Blk W' b l T := h.keep k (lb_blk h)
theorem SlT.quiet {α : Type} {N : Nat} {W W' : World} {sz cap : Nat} {f : α → List Value} {A : Option Addr} {xs : List α} (h : SlT W sz f A cap xs) (k : Keep (lb N W) W W') : SlT W' sz f A cap xs := by
  rcases h with h | ⟨b, o, L, T, rfl, hb, h1, h2, h3, h4⟩
  · exact .inl h
  · exact .inr ⟨b, o, L, T, rfl, hb.quiet k, h1, h2, h3, h4⟩
theorem ArgT.quiet {α : Type} {N : Nat} {W W' : World} {sz cap : Nat} {f : α → List Value} {A : Option Addr} {xs : List α} (h : ArgT W sz f A cap xs) (k : Keep (lb N W) W W') : ArgT W' sz f A cap xs := by
  rcases h with h | ⟨b, o, L, h1, h2⟩
  · exact .inl h
  · exact .inr ⟨b, o, L, h1, h2.keep k (lb_blkR h2.blk)⟩
theorem Keep.quiet {S : Nat → Prop} {N : Nat} {w W W' : World} (h : Keep S w W) (k : Keep (lb N W) W W') (hN : w.heap.size ≤ N) : Keep S w W' := h.fresh k (fun i hi hs => absurd hs.1 (by omega))

/-! ### Yield -/
def Yields (P : Program) (l : Nat) (args : Array Value) (W : World) (R : Ending → World → Prop) : Prop :=
  ∃ f tmps assign body, (Instr.yield l args).run P W = .ok (.round l f tmps assign body) W ∧ RoundIn (FR none) 0 P l f tmps assign body W R
def yielder (e : Env) (c : Call) : Option (Nat × Array Value) :=
  match c.callee with
  | .value f => match ev e f with | .func (.yield l) first _ => some (l, first ++ c.args.map (ev e)) | _ => none
  | _ => none
/-- What an iterator does: it hands on m things, one behind the other, till it is told to stop. -/
def Iter (P : Program) (gf : FuncId) (caps : Array Value) (m : Nat) (enc : Nat → Array Value) (Pre Ok : World → Prop) : Prop :=
  ∀ (l : Nat) (J Jx : Nat → World → Prop) (W : World), Pre W → (∀ k, Quiet W.heap.size (J k)) → (∀ k, Quiet W.heap.size (Jx k)) →
    (∀ k W1, k < m → J k W1 → Yields P l (enc k) W1 fun e W' => (e = .returned (.bool true) ∧ J (k + 1) W') ∨ (e = .returned (.bool false) ∧ Jx (k + 1) W')) →
    (∀ k W1, J k W1 → Ok W1) → J 0 W →
    Calls P gf (#[.func (.yield l) #[] #[]] ++ caps) W fun e W' => (∃ v, e = .returned v) ∧ (J m W' ∨ ∃ k, k ≤ m ∧ Jx k W')

section
variable {P : Program} {r : Option Nat} {n : Nat} {ds : List Deferred} {ops : Array Oper} {Q : Post} {i : Nat} {e : Env} {w : World}
theorem yield_run {c : Call} {l : Nat} {args : Array Value} {x : Next} (h : yielder e c = some (l, args)) (hy : (Instr.yield l args).run P w = .ok x w) (o : Oper) (ho : o.op = .call c) : (execOp (ev e) o).run P w = .ok x w := by
  unfold yielder at h
  unfold execOp
  simp only [ho]
  unfold resolve
  split at h
  · rename_i g hg
    split at h
    · rename_i l' first cap hv
      simp only [Option.some.injEq, Prod.mk.injEq] at h
      obtain ⟨rfl, rfl⟩ := h
      simp only [hg, hv, Deferred.ofValue, Sem.run_bind, Sem.run_pure, Result.andThen, invoke]
      exact hy
    · cases h
  · cases h
theorem OI_yield {R : Ending → World → Prop} (c : Call) (l : Nat) (args : Array Value) (d : Option Tmp) (h : site ops e i = some (d, .call c)) (hc : yielder e c = some (l, args)) (hR : Yields P l args w R)
    (k : ∀ e' w', R e' w' → ∃ v, e' = .returned v ∧ OI P r n ds ops Q (i + 1) (putE n d v e) w') : OI P r n ds ops Q i e w :=
  OI_do h fun o _ ho hd a ha he => by
    obtain ⟨f, tmps, assign, body, hy, hrd⟩ := hR
    refine does_round (by rw [he]; exact yield_run hc hy o ho) (RoundIn.mono hrd fun e' w' hr => ?_)
    obtain ⟨v, hv, hk⟩ := k e' w' hr
    exact ⟨v, hv, by rw [hd]; exact hk _ (ha.put d v)⟩
end

/-! ### A loop over an iterator -/
def putPs (n : Nat) : List Tmp → List Value → Env → Env
  | p :: ps, v :: vs, e => putPs n ps vs (putE n (some p) v e)
  | _, _, e => e
theorem putPs_has {n : Nat} : ∀ (ps : List Tmp) (vs : List Value) (e : Env) (t : Array Value), Has n [] e { tmps := t, defers := [] } →
    Has n [] (putPs n ps vs e) { tmps := ((ps.zip vs).foldl (fun t (p, v) => t.setIfInBounds p v) t), defers := [] }
  | [], _, _, _, h => by simpa [putPs] using h
  | _ :: _, [], _, _, h => by simpa [putPs] using h
  | p :: ps, v :: vs, e, t, h => by
    simp only [putPs, List.zip_cons_cons, List.foldl_cons]
    exact putPs_has ps vs _ _ (h.put (some p) v)
/-- The blocks l and D lie as they lay. -/
def same2 (l D : Nat) (W W' : World) : Prop := W'.heap[l]? = W.heap[l]? ∧ W'.heap[D]? = W.heap[D]?
theorem Keep.same2 {S : Nat → Prop} {W W' : World} {l D : Nat} (h : Keep S W W') (hl : l < W.heap.size) (hD : D < W.heap.size) (h1 : ¬ S l) (h2 : ¬ S D) : same2 l D W W' := ⟨h.block l hl h1, h.block D hD h2⟩
def noPost : Post := fun _ _ _ => False
theorem sure_no : Sure noPost := ⟨fun _ _ _ h => h.elim, fun _ _ h => h.elim⟩
def mark (D : Nat) : Deferred := { target := .collected D, args := #[] }

section
variable {P : Program} {n : Nat} {ds : List Deferred} {Q : Post} {e : Env} {w : World} {assign body : Code}
end

/-! ### A function that holds such a loop -/
def postM (P : Program) (fn : Func) (R : Ending → World → Prop) : Post := fun x a w =>
  match x with
  | .normal => LeavesInM (FR none) 0 P fn a.tmps R a.defers .returning w
  | .ret => LeavesInM (FR none) 0 P fn a.tmps R a.defers .returning w
  | _ => False
section
variable {P : Program} {fn : Func} {R : Ending → World → Prop} {n : Nat} {e : Env} {w : World}
theorem enterM {f : FuncId} {c : Code} {args : Array Value} (hf : P.funcs[f]? = some fn) (hb : fn.body = some c) (l : List Value) (n : Nat)
    (hl : args = l.toArray) (hn : fn.ntmps = n) (hle : Nat.ble l.length n = true) (h : V P none n [] c (postM P fn R) (zipE 0 l) w) : Calls P f args w R := by
  subst hl
  replace hle := Nat.le_of_ble_eq_true hle
  refine calls_of_FR (r := none) (n := 0) (callsIn_of_wp_marks hf hb trivial (W_mono (h _ ⟨?_, rfl, ?_⟩) (fun x a w hx => by cases x <;> first | exact hx | exact hx.elim)))
  · simp; omega
  · intro i v hi
    obtain ⟨_, h2⟩ := look_zipE l 0 i v hi
    rw [Nat.sub_zero] at h2
    have hlt := (List.getElem?_eq_some_iff.1 h2).1
    simp only [Array.getElem?_append, List.size_toArray, hlt, if_true]
    simpa using h2
/-- What a function hands back, its results in cells or in temporaries. -/
def Res (P : Program) (fn : Func) (n : Nat) (e : Env) (w : World) (v : Value) : Prop := ∀ tmps : Array Value, tmps.size = n → (∀ i u, look e i = some u → tmps[i]? = some u) → (results fn tmps).run P w = .ok v w
theorem res_tmps {v : Value} (h : resE fn e = some v) : Res P fn n e w v := fun tmps hs ht => resE_run (a := { tmps := tmps, defers := [] }) (ds := []) ⟨hs, rfl, ht⟩ h w
theorem leave1 {x : Exit} {D : Nat} (v : Value) (hx : x = .ret ∨ x = .normal) (hD : w.heap[D]? = some (.deferred (some []))) (h : ∀ w', Keep (lb D w) w w' → Res P fn n e w' v ∧ R (.returned v) w') : XV n [mark D] x (postM P fn R) e w := fun a ha => by
  have hlt : D < w.heap.size := (Array.getElem?_eq_some_iff.1 hD).1
  have hk : Keep (lb D w) w (turned w D (.deferred none)) := (turned_keep (by intro c t f h; cases h)).mono (fun i _ hi => by
    rw [show i = D from hi]
    exact ⟨Nat.le_refl _, fun c t f hh => by rw [hD] at hh; cases hh⟩)
  obtain ⟨h1, hR⟩ := h _ hk
  have h2 := h1 a.tmps ha.size ha.at_
  have key : LeavesInM (FR none) 0 P fn a.tmps R a.defers .returning w := by
    rw [ha.defers]
    exact ⟨by simp, .inl ⟨D, _, rfl, run_takeDeferred hD, v, h2, hR⟩⟩
  rcases hx with rfl | rfl
  · exact key
  · exact key
theorem sure_postM : Sure (postM P fn R) := ⟨fun _ _ _ h => h.elim, fun _ _ h => h.elim⟩
end

/-! ### What changes cells alone -/
end Go.Al


namespace Go.Al
open Go Go.RowKit Go.Proofs
/-! ### All cells, one behind the other -/
def encC (cs : List Ci) (k : Nat) : Array Value := match cs[k]? with | some c => #[.agg #[.int .i64 c.a, .int .i64 c.b], .int .i64 c.v] | none => #[undef, undef]
theorem encC_at {cs : List Ci} {k : Nat} {c : Ci} (h : cs[k]? = some c) : encC cs k = #[.agg #[.int .i64 c.a, .int .i64 c.b], .int .i64 c.v] := by unfold encC; rw [h]
theorem encC_size (cs : List Ci) (k : Nat) : (encC cs k).size = 2 := by unfold encC; split <;> rfl

theorem cells1_iter (c g cap : Nat) (A : Option Addr) (cs : List Ci) (hn : cs.length ≤ 1000000) : Iter Try.prog 53 #[.pointer (some ⟨c, 0, none⟩)] cs.length (encC cs) (fun W => Blk W c [.pointer (some ⟨g, 0, none⟩)] 22 ∧ GrAt W g A cap cs) (fun W => SlT W 3 Ci.cells A cap cs) := by
  intro l J Jx w hPre hJ hJx hY hOk h0
  obtain ⟨hc, h⟩ := hPre
  have hg := h.blk
  have hA := h.sl
  have hglt := hg.lt
  have hclt := hc.lt
  show Calls Try.prog 53 #[.func (.yield l) #[] #[], .pointer (some ⟨c, 0, none⟩)] w _
  have hK0 : Keep none_ w w := Keep.refl _ _
  have hzhK0 := Keep.size hK0
  refine enterV Try.func53 rfl [.func (.yield l) #[] #[], .pointer (some ⟨c, 0, none⟩)] 24 rfl rfl rfl ?_
  refine V_pick [(0, .func (.yield l) #[] #[]), (1, .pointer (some ⟨c, 0, none⟩))] rfl ?_
  refine V_seq ?_
  refine V_seq ?_
  refine V_region ?_
  refine OI_cell 22 (.tmp 1) 0 (.pointer (some ⟨g, 0, none⟩)) (some 5) (by kernel_rfl) (by kernel_rfl) hc (m := 1) (by kernel_rfl) rfl ?_
  refine OI_static 2 [(0, .func (.yield l) #[] #[]), (1, .pointer (some ⟨c, 0, none⟩)), (6, .bool false)] (by kernel_rfl) ?_
  refine OI_end rfl ?_
  refine X_then ?_
  refine V_false rfl ?_
  refine V_skip ?_
  refine X_then ?_
  refine V_seq ?_
  refine V_region ?_
  refine OI_cell 22 (.tmp 1) 0 (.pointer (some ⟨g, 0, none⟩)) (some 7) (by kernel_rfl) (by kernel_rfl) hc (m := 1) (by kernel_rfl) rfl ?_
  refine OI_static 3 [(0, .func (.yield l) #[] #[]), (9, .pointer (some ⟨g, 0, none⟩))] (by kernel_rfl) ?_
  refine OI_cell 64 (.tmp 9) 0 (.slice A cs.length cap) (some 10) (by kernel_rfl) (by kernel_rfl) hg (m := 1) (by kernel_rfl) rfl ?_
  refine OI_static 6 [(0, .func (.yield l) #[] #[]), (10, .slice A cs.length cap), (11, .int .i64 ((cs.length : Nat) : Int)), (12, .int .i64 0)] (by kernel_rfl) ?_
  refine OI_end rfl ?_
  refine X_then ?_
  refine V_block ?_
  have hj0 := hJ 0 _ _ h0 (Keep.ofNone hK0)
  refine V_pick [(0, .func (.yield l) #[] #[]), (10, .slice A cs.length cap), (11, .int .i64 ((cs.length : Nat) : Int)), (12, .int .i64 0)] rfl ?_
  refine V_loop (fun k wI e => ∃ i : Nat, (k + i = cs.length) ∧ (J i wI) ∧ e = [(0, .func (.yield l) #[] #[]), (10, .slice A cs.length cap), (11, .int .i64 ((cs.length : Nat) : Int)), (12, .int .i64 ((i : Nat) : Int))]) cs.length ⟨0, rfl, hj0, rfl⟩ ?_
  rintro k2 w1 _ ⟨i, hki, hj, rfl⟩
  have hA := hOk _ _ hj
  have hkh : Keep none_ w1 w1 := Keep.refl _ _
  have hzhkh := Keep.size hkh
  refine V_seq ?_
  refine V_region ?_
  refine OI_static 1 [(0, .func (.yield l) #[] #[]), (10, .slice A cs.length cap), (11, .int .i64 ((cs.length : Nat) : Int)), (12, .int .i64 ((i : Nat) : Int)), (13, .bool (decide (((i : Nat) : Int) < ((cs.length : Nat) : Int))))] (by kernel_rfl) ?_
  refine OI_end rfl ?_
  refine X_then ?_
  refine V_seq ?_
  refine V_if (((i : Nat) : Int) < ((cs.length : Nat) : Int)) (by kernel_rfl) (fun hc4 => ?_) (fun hc4 => ?_)
  · skip
    refine V_skip ?_
    refine X_then ?_
    refine V_seq ?_
    refine V_block ?_
    refine V_seq ?_
    refine V_region ?_
    obtain ⟨b5, o5, L5, T5, rfl, hat5⟩ := SlT.open_ hA (by first | omega | (simp only [List.length_map]; omega) | (simp; done) | (simp; omega))
    have hb5lt := hat5.blk.lt
    refine OI_pure (some 14) (.indexAddr 64 (.tmp 10) (.tmp 12)) (by kernel_rfl) (pure_idxN (b := b5) (o := o5) (len := cs.length) (cap := cap) (kd := .i64) (j := i) (E := 70) (sz := 3) (by_ := 24) (by kernel_rfl) (by kernel_rfl) (by kernel_rfl) (by omega)) ?_
    obtain ⟨x6, hx7⟩ : ∃ x, cs[i]? = some x := ⟨_, List.getElem?_eq_getElem (by first | omega | (simp only [List.length_map]; omega))⟩
    refine OI_agg 70 (.tmp 14) (o5 + i * 3) (Ci.cells x6) (some 15) (by kernel_rfl) (by kernel_rfl) hat5.blk (m := 3) (by kernel_rfl) (At.elem' hat5 (es_at hx7)) (At.len hat5 (es_at hx7)) ?_
    refine OI_alloc 70 (.agg #[.int .i64 0, .int .i64 0, .int .i64 0]) [.int .i64 0, .int .i64 0, .int .i64 0] (some 4) (by kernel_rfl) (by kernel_rfl) (by kernel_rfl) ?_
    intro b8 w8 e8 hb8 k8 z8
    have hsz9 := Keep.size k8
    replace hat5 := hat5.keep k8 (fun f => f)
    have hb5lt := hat5.blk.lt
    replace hkh := Keep.tr hkh (Keep.ofNone k8); have hzhkh := Keep.size hkh
    have hb8lt := hb8.lt
    refine OI_set (m := 3) (kd := true) 70 (.tmp 4) (.tmp 15) 0 (.agg (Ci.cells x6).toArray) (Ci.cells x6) none (by kernel_rfl) (by kernel_rfl) (by kernel_rfl) hb8 (by kernel_rfl) rfl (Ci.len _) (Nat.le_of_ble_eq_true (by kernel_rfl)) (Ci.one _) ?_
    intro w10 hb8_13 hk11 hz12
    replace hb8_13 : Blk w10 b8 (Ci.cells x6) 70 := (by rwa [over_whole (by rw [Ci.len]; rfl)] at hb8_13)
    have hsz14 := Keep.size hk11
    replace hat5 := hat5.keep hk11 (by show ¬ (_ = _); omega)
    have hb5lt := hat5.blk.lt
    replace hkh := Keep.fresh hkh hk11 (by intro i hi hs; first | exact hs | exact Or.inl hs | exact Or.inr hs | (exfalso; have hs2 : i = b8 := hs; omega)); have hzhkh := Keep.size hkh
    refine OI_end rfl ?_
    refine X_then ?_
    refine V_seq ?_
    refine V_region ?_
    refine OI_static 2 [(0, .func (.yield l) #[] #[]), (4, .pointer (some ⟨b8, 0, none⟩)), (10, .slice (some ⟨b5, o5, none⟩) cs.length cap), (11, .int .i64 ((cs.length : Nat) : Int)), (12, .int .i64 ((i : Nat) : Int)), (16, .func (.yield l) #[] #[]), (17, .pointer (some ⟨b8, 0, none⟩))] (by kernel_rfl) ?_
    refine OI_agg 68 (.tmp 17) 0 [.int .i64 x6.a, .int .i64 x6.b] (some 18) (by kernel_rfl) (by kernel_rfl) hb8_13 (m := 2) (by kernel_rfl) rfl rfl ?_
    refine OI_static 4 [(0, .func (.yield l) #[] #[]), (10, .slice (some ⟨b5, o5, none⟩) cs.length cap), (11, .int .i64 ((cs.length : Nat) : Int)), (12, .int .i64 ((i : Nat) : Int)), (16, .func (.yield l) #[] #[]), (18, .agg #[.int .i64 x6.a, .int .i64 x6.b]), (19, .pointer (some ⟨b8, 2, none⟩))] (by kernel_rfl) ?_
    refine OI_cell 3 (.tmp 19) 2 (.int .i64 x6.v) (some 20) (by kernel_rfl) (by kernel_rfl) hb8_13 (m := 1) (by kernel_rfl) rfl ?_
    refine OI_yield { callee := (Callee.value (Operand.tmp 16)), args := #[(Operand.tmp 18), (Operand.tmp 20)], argTypes := #[68, 3] } l #[.agg #[.int .i64 x6.a, .int .i64 x6.b], .int .i64 x6.v] (some 21) (by kernel_rfl) (by kernel_rfl) (by have hy := hY i _ (by omega) (hJ i _ _ hj (Keep.ofNone hkh)); rw [encC_at hx7] at hy; exact hy) ?_
    rintro _ w15 (⟨rfl, hj16⟩ | ⟨rfl, hj16⟩)
    · skip
      refine ⟨_, rfl, ?_⟩
      refine OI_static 7 [(0, .func (.yield l) #[] #[]), (10, .slice (some ⟨b5, o5, none⟩) cs.length cap), (11, .int .i64 ((cs.length : Nat) : Int)), (12, .int .i64 ((i : Nat) : Int)), (22, .bool false)] (by kernel_rfl) ?_
      refine OI_end rfl ?_
      refine X_then ?_
      refine V_false rfl ?_
      refine V_skip ?_
      refine X_block ?_
      refine X_then ?_
      refine V_region ?_
      have hw17 : IntKind.i64.wrap (((i : Nat) : Int) + 1) = ((i + 1 : Nat) : Int) := (wrap64_id (by omega) (by omega)).trans (by omega)
      refine OI_static 1 [(0, .func (.yield l) #[] #[]), (10, .slice (some ⟨b5, o5, none⟩) cs.length cap), (11, .int .i64 ((cs.length : Nat) : Int)), (23, .int .i64 (IntKind.i64.wrap (((i : Nat) : Int) + 1)))] (by kernel_rfl) ?_
      refine OI_eq [(0, .func (.yield l) #[] #[]), (10, .slice (some ⟨b5, o5, none⟩) cs.length cap), (11, .int .i64 ((cs.length : Nat) : Int)), (23, .int .i64 ((i + 1 : Nat) : Int))] (by rw [hw17]) ?_
      refine OI_static 2 [(0, .func (.yield l) #[] #[]), (10, .slice (some ⟨b5, o5, none⟩) cs.length cap), (11, .int .i64 ((cs.length : Nat) : Int)), (12, .int .i64 ((i + 1 : Nat) : Int))] (by kernel_rfl) ?_
      refine OI_end rfl ?_
      exact V_again (k2 - 1) (by omega) [(0, .func (.yield l) #[] #[]), (10, .slice (some ⟨b5, o5, none⟩) cs.length cap), (11, .int .i64 ((cs.length : Nat) : Int)), (12, .int .i64 ((i + 1 : Nat) : Int))] rfl ⟨i + 1, by omega, hj16, rfl⟩
    · skip
      refine ⟨_, rfl, ?_⟩
      refine OI_static 7 [(0, .func (.yield l) #[] #[]), (10, .slice (some ⟨b5, o5, none⟩) cs.length cap), (11, .int .i64 ((cs.length : Nat) : Int)), (12, .int .i64 ((i : Nat) : Int)), (22, .bool true)] (by kernel_rfl) ?_
      refine OI_end rfl ?_
      refine X_then ?_
      refine V_true rfl ?_
      refine V_ret ?_
      refine X_ret_block ?_
      refine X_ret_then ?_
      refine X_ret_then ?_
      refine X_ret_block ?_
      exact X_return _ rfl ⟨⟨_, rfl⟩, .inr ⟨i + 1, by omega, hj16⟩⟩
  · skip
    refine V_exit ?_
    refine X_exit_then ?_
    refine X_exit_then ?_
    refine X_exit_here ?_
    have he : i = cs.length := by omega
    rw [he] at hj
    exact X_end _ rfl ⟨⟨_, rfl⟩, .inl (hJ _ _ _ hj (Keep.ofNone hkh))⟩

theorem cellsfn_spec (v : Value) (hv : v.cells = [v].toArray) (w : World) : Calls Try.prog 40 #[v] w fun e w' => ∃ c, e = .returned (.func (.func 53) #[] #[.pointer (some ⟨c, 0, none⟩)]) ∧ Blk w' c [v] 22 ∧ Keep none_ w w' ∧ w.heap.size ≤ c := by
  have hK0 : Keep none_ w w := Keep.refl _ _
  have hzhK0 := Keep.size hK0
  refine enterV Try.func40 rfl [v] 4 rfl rfl rfl ?_
  refine V_pick [(0, v)] rfl ?_
  refine V_seq ?_
  refine V_region ?_
  refine OI_box 22 (.tmp 0) v [v] (some 1) (by kernel_rfl) (by kernel_rfl) hv ?_
  intro b1 w1 e1 hb1 k1 z1
  have hsz2 := Keep.size k1
  replace hK0 := Keep.tr hK0 (Keep.ofNone k1); have hzhK0 := Keep.size hK0
  have hb1lt := hb1.lt
  refine OI_static 2 [(1, .pointer (some ⟨b1, 0, none⟩))] (by kernel_rfl) ?_
  refine OI_end rfl ?_
  refine X_then ?_
  refine V_seq ?_
  refine V_region ?_
  refine OI_static 2 [(2, .func (.func 53) #[] #[.pointer (some ⟨b1, 0, none⟩)])] (by kernel_rfl) ?_
  refine OI_end rfl ?_
  refine X_then ?_
  refine V_ret ?_
  exact X_return _ rfl ⟨_, rfl, hb1, hK0, by omega⟩
end Go.Al


namespace Go.Al
open Go Go.RowKit

/-- What a loop's round may change: what lay there when the iterator was called, and what has been laid behind the iterator's own blocks. -/
def fen (N N1 : Nat) : Nat → Prop := fun k => k < N ∨ N1 ≤ k
def Iter2 (P : Program) (gf : FuncId) (caps : Array Value) (m : Nat) (enc : Nat → Array Value) (Pre Ok : World → Prop) : Prop :=
  ∀ (l : Nat) (J Jx : Nat → Nat → World → Prop) (W : World), Pre W → (∀ N1 k, Quiet W.heap.size (J N1 k)) → (∀ N1 k, Quiet W.heap.size (Jx N1 k)) →
    (∀ N1 k W1, W.heap.size ≤ N1 → N1 ≤ W1.heap.size → k < m → J N1 k W1 → Yields P l (enc k) W1 fun e W' => Keep (fen W.heap.size N1) W1 W' ∧ ((e = .returned (.bool true) ∧ J N1 (k + 1) W') ∨ (e = .returned (.bool false) ∧ Jx N1 (k + 1) W'))) →
    (∀ N1 k W1, J N1 k W1 → Ok W1) → (∀ N1, W.heap.size ≤ N1 → J N1 0 W) →
    Calls P gf (#[.func (.yield l) #[] #[]] ++ caps) W fun e W' => (∃ v, e = .returned v) ∧ ∃ N1, W.heap.size ≤ N1 ∧ (J N1 m W' ∨ ∃ k, k ≤ m ∧ Jx N1 k W')
theorem Yields.mono {P : Program} {l : Nat} {args : Array Value} {W : World} {R R' : Ending → World → Prop} (h : Yields P l args W R) (hR : ∀ e w, R e w → R' e w) : Yields P l args W R' := by
  obtain ⟨f, t, a, b, h1, h2⟩ := h
  exact ⟨f, t, a, b, h1, RoundIn.mono h2 hR⟩
/-- An iterator without memory of its own is one of the other kind, too. -/
theorem Iter.to2 {P : Program} {gf : FuncId} {caps : Array Value} {m : Nat} {enc : Nat → Array Value} {Pre Ok : World → Prop} (h : Iter P gf caps m enc Pre Ok) : Iter2 P gf caps m enc Pre Ok := by
  intro l J Jx W hP hJ hJx hY hOk h0
  refine (h l (fun k W1 => W.heap.size ≤ W1.heap.size ∧ J W.heap.size k W1) (fun k W1 => Jx W.heap.size k W1) W hP (fun k W1 W2 hj hk => ⟨Nat.le_trans hj.1 hk.size, hJ _ _ _ _ hj.2 hk⟩) (fun k => hJx _ _) ?_ (fun k W1 hj => hOk _ _ _ hj.2) ⟨Nat.le_refl _, h0 _ (Nat.le_refl _)⟩).mono ?_
  · intro k W1 hk hj
    refine (hY _ k W1 (Nat.le_refl _) hj.1 hk hj.2).mono ?_
    rintro e W' ⟨hk, (⟨h1, h2⟩ | h2)⟩
    · exact .inl ⟨h1, Nat.le_trans hj.1 hk.size, h2⟩
    · exact .inr h2
  · rintro e W' ⟨hv, (h1 | h1)⟩
    · exact ⟨hv, _, Nat.le_refl _, .inl h1.2⟩
    · exact ⟨hv, _, Nat.le_refl _, .inr h1⟩
theorem Keep.fen_same {n0 N1 : Nat} {W W1 : World} {l D : Nat} {r : Loop} {d : Option (List Deferred)} (h : Keep (fen n0 N1) W W1) (hl : W.heap[l]? = some (.loop r)) (hD : W.heap[D]? = some (.deferred d)) (h1 : D = n0) (h2 : l = n0 + 1) (h3 : n0 + 2 ≤ N1) : Al.same2 l D W W1 :=
  h.same2 (Array.getElem?_eq_some_iff.1 hl).1 (Array.getElem?_eq_some_iff.1 hD).1 (by show ¬ (_ ∨ _); omega) (by show ¬ (_ ∨ _); omega)
/-- How a round's body may be left. -/
def rQ2 (M N1 : Nat) (J : Nat → World → Prop) (Jx : Code → Nat → World → Prop) (k : Nat) (W : World) : Post := fun x _ W' =>
  match x with
  | .normal => Keep (fen M N1) W W' ∧ J (k + 1) W'
  | .ret => Keep (fen M N1) W W' ∧ Jx .ret (k + 1) W'
  | .exit id => Keep (fen M N1) W W' ∧ Jx (.exit id) (k + 1) W'
  | _ => False
theorem sure_rQ2 {M N1 k : Nat} {J : Nat → World → Prop} {Jx : Code → Nat → World → Prop} {W : World} : Sure (rQ2 M N1 J Jx k W) := ⟨fun _ _ _ h => h.elim, fun _ _ h => h.elim⟩
def beginK2 (P : Program) (M N1 l D : Nat) (body : Code) (J : Nat → World → Prop) (Jx : Code → Nat → World → Prop) (k : Nat) (W : World) (a1 : Act) (W1 : World) : Prop :=
  Keep (fen M N1) W W1 ∧ ∀ W2, Keep (lb M W1) W1 W2 → (∃ r, W2.heap[l]? = some (.loop r)) → W2.heap[D]? = W1.heap[D]? → Al.W P (some l) body (rQ2 M N1 J Jx k W2) a1 W2
section
variable {P : Program} {n : Nat} {ds : List Deferred} {Q : Post} {e : Env} {w : World} {assign body : Code}
theorem X_begin2 {M N1 l D k : Nat} {J : Nat → World → Prop} {Jx : Code → Nat → World → Prop} {W W1 : World} (hs : Keep (fen M N1) W W1) (h : ∀ W2, Keep (lb M W1) W1 W2 → (∃ r, W2.heap[l]? = some (.loop r)) → W2.heap[D]? = W1.heap[D]? → V P (some l) n [] body (rQ2 M N1 J Jx k W2) e W2) :
    XV n [] .normal (Exit.then (beginK2 P M N1 l D body J Jx k W) noPost) e W1 := fun a ha => ⟨hs, fun W2 h1 h2 h3 => h W2 h1 h2 h3 a ha⟩
theorem V_range2 {g : Operand} {ps : Array Tmp} {gf : FuncId} {caps : Array Value} {m : Nat} {enc : Nat → Array Value} {Pre Ok : World → Prop} (hg : ev e g = .func (.func gf) #[] caps) (hr : readable e g = true) (hb : bodied P gf = true) (hit : Iter2 P gf caps m enc Pre Ok) (hPre : Pre w) (hPq : Quiet w.heap.size Pre) (hps : ∀ k, (enc k).size = ps.size)
    (J : Nat → Nat → World → Prop) (Jx : Nat → Code → Nat → World → Prop) (hJ : ∀ N1 k, Quiet w.heap.size (J N1 k)) (hJx : ∀ N1 c k, Quiet w.heap.size (Jx N1 c k)) (h0 : ∀ N1, w.heap.size + 2 ≤ N1 → J N1 0 w) (hOk : ∀ N1 k W, J N1 k W → Ok W)
    (round : ∀ (l D N1 k : Nat) (W : World), D = w.heap.size → l = w.heap.size + 1 → w.heap.size + 2 ≤ N1 → N1 ≤ W.heap.size → k < m → J N1 k W → (∃ r, W.heap[l]? = some (.loop r)) → W.heap[D]? = some (.deferred (some [])) →
      V P (some l) n [] assign (Exit.then (beginK2 P w.heap.size N1 l D body (J N1) (Jx N1) k W) noPost) (putPs n ps.toList (enc k).toList e) W)
    (done : ∀ (D N1 : Nat) (W : World), D = w.heap.size → w.heap.size + 2 ≤ N1 → J N1 m W → W.heap[D]? = some (.deferred (some [])) → XV n (mark D :: ds) .normal Q e W)
    (stop : ∀ (D N1 k : Nat) (c : Code) (W : World), D = w.heap.size → w.heap.size + 2 ≤ N1 → k ≤ m → Jx N1 c k W → W.heap[D]? = some (.deferred (some [])) → V P none n (mark D :: ds) c Q e W) :
    V P none n ds (.rangeFunc g ps assign body) Q e w := by
  intro a ha
  show (Code.rangeFunc g ps assign body).wpIn (FR none) 0 P Q a w
  refine wpIn_rangeFunc ?_
  intro fn hfn
  obtain ⟨rec, hrec⟩ : ∃ rec : LoopState → Option Code → Loop, rec = fun st pe => { state := st, pending := pe, fn := fn, tmps := a.tmps, params := ps, assign := assign, body := body, defers := w.heap.size } := ⟨_, rfl⟩
  obtain ⟨D, hD⟩ : ∃ D, D = w.heap.size := ⟨_, rfl⟩
  obtain ⟨l, hl⟩ : ∃ l, l = w.heap.size + 1 := ⟨_, rfl⟩
  obtain ⟨W0, hW0⟩ : ∃ W0, laid w (.deferred (some [])) = W0 := ⟨_, rfl⟩
  obtain ⟨W1, hW1⟩ : ∃ W1, laid W0 (.loop (rec .ready none)) = W1 := ⟨_, rfl⟩
  have hs0 : W0.heap.size = w.heap.size + 1 := by rw [← hW0]; exact laid_size _ _
  have hs1 : W1.heap.size = w.heap.size + 2 := by rw [← hW1, laid_size, hs0]
  have k0 : Keep none_ w W0 := by rw [← hW0]; exact laid_keep _ _ (by intro c t f h; cases h)
  have k1 : Keep none_ W0 W1 := by rw [← hW1]; exact laid_keep _ _ (by intro c t f h; cases h)
  have hD0 : W0.heap[D]? = some (.deferred (some [])) := by rw [← hW0, hD]; show (w.heap.push _)[w.heap.size]? = _; exact Array.getElem?_push_size
  have hD1 : W1.heap[D]? = some (.deferred (some [])) := (k1.block D (by omega) (fun f => f)).trans hD0
  have hL1 : W1.heap[l]? = some (.loop (rec .ready none)) := by rw [← hW1, hl, ← hs0]; show (W0.heap.push _)[W0.heap.size]? = _; exact Array.getElem?_push_size
  have hJ1 : ∀ N1, W1.heap.size ≤ N1 → J N1 0 W1 := fun N1 h => hJ N1 0 w W1 (h0 N1 (by omega)) (k0.tr k1).ofNone
  -- a turn of the record
  have hput : ∀ (W : World) (o o' : Loop), W.heap[l]? = some (.loop o) → Keep (lb w.heap.size W) W (turned W l (.loop o')) ∧ (turned W l (.loop o')).heap[l]? = some (.loop o') ∧ (turned W l (.loop o')).heap[D]? = W.heap[D]? := by
    intro W o o' h
    have hlt : l < W.heap.size := (Array.getElem?_eq_some_iff.1 h).1
    refine ⟨(turned_keep (by intro c t f h; cases h)).mono (fun i _ hi => ?_), by simp [turned, hlt], by simp only [turned]; exact Array.getElem?_setIfInBounds_ne (by omega)⟩
    rw [show i = l from hi]
    exact ⟨by omega, fun c t f hh => by rw [h] at hh; cases hh⟩
  refine ⟨l, [mark D], W1, { target := .fn (.func gf) caps, args := #[.func (.yield l) #[] #[]] }, W1, gf, #[.func (.yield l) #[] #[]] ++ caps, W1, ?_, ?_, ?_, ?_, fun h => by simp [FR, Fence.wide] at h, ?_⟩
  · rw [hl, hD, ← hW1, ← hW0, hrec]
    exact run_enterLoop_outer _ _ _ _ _
  · have := ha.eval hr
    simp only [resolve, this, hg]
    simp [go_sem]
  · intro f' _; trivial
  · have := callFunc_run hb (#[.func (.yield l) #[] #[]] ++ caps) W1
    simp only [invoke]
    exact this
  refine calls_to_FR (Calls.mono (hit l (fun N1 k W => J N1 k W ∧ W.heap[l]? = some (.loop (rec .ready none)) ∧ W.heap[D]? = some (.deferred (some [])))
    (fun N1 k W => ∃ c, Jx N1 c k W ∧ W.heap[l]? = some (.loop (rec .done (some c))) ∧ W.heap[D]? = some (.deferred (some []))) W1 (hPq w W1 hPre (k0.tr k1).ofNone) ?_ ?_ ?_ (fun N1 k W h => hOk N1 k W h.1) (fun N1 h => ⟨hJ1 N1 h, hL1, hD1⟩)) ?_)
  · rintro N1 k W W' ⟨h1, h2, h3⟩ hk
    have e1 : l < W.heap.size := (Array.getElem?_eq_some_iff.1 h2).1
    have e2 : D < W.heap.size := (Array.getElem?_eq_some_iff.1 h3).1
    exact ⟨(hJ N1 k).mono (by omega) W W' h1 hk, (hk.block l e1 (fun h => by have := h.1; omega)).trans h2, (hk.block D e2 (fun h => by have := h.1; omega)).trans h3⟩
  · rintro N1 k W W' ⟨c, h1, h2, h3⟩ hk
    have e1 : l < W.heap.size := (Array.getElem?_eq_some_iff.1 h2).1
    have e2 : D < W.heap.size := (Array.getElem?_eq_some_iff.1 h3).1
    exact ⟨c, (hJx N1 c k).mono (by omega) W W' h1 hk, (hk.block l e1 (fun h => by have := h.1; omega)).trans h2, (hk.block D e2 (fun h => by have := h.1; omega)).trans h3⟩
  · -- one round
    rintro N1 k W hN1 hN2 hkm ⟨hj, hlW, hDW⟩
    have hy := run_yield (P := P) (args := enc k) hlW (by rw [hrec]; exact hps k)
    rw [hrec] at hy
    refine ⟨fn, _, assign, body, hy, roundIn_of_wpIn hfn ?_⟩
    have hV := round l D N1 k W hD hl (by omega) hN2 hkm hj ⟨_, hlW⟩ hDW
    have hHas : Has n [] e { tmps := a.tmps, defers := [] } := ⟨ha.size, rfl, ha.at_⟩
    have hact := putPs_has ps.toList (enc k).toList e a.tmps hHas
    have hfold : ((ps.zip (enc k)).foldl (fun t (x : Tmp × Value) => t.setIfInBounds x.1 x.2) a.tmps) = ((ps.toList.zip (enc k).toList).foldl (fun t (x : Tmp × Value) => t.setIfInBounds x.1 x.2) a.tmps) := by
      rw [← Array.foldl_toList, Array.toList_zip]
    have hW := hV _ hact
    show Al.W P (some l) assign _ { tmps := ((ps.zip (enc k)).foldl (fun t (x : Tmp × Value) => t.setIfInBounds x.1 x.2) a.tmps), defers := [] } W
    rw [hfold]
    refine W_mono hW ?_
    intro x a1 W2 hx
    cases x <;> try exact hx.elim
    obtain ⟨hk2, hbody⟩ := hx
    obtain ⟨hl2, hD2⟩ := hk2.fen_same hlW hDW hD hl (by omega)
    have hlW2 : W2.heap[l]? = some (.loop (rec .ready none)) := hl2.trans hlW
    obtain ⟨p1, p2, p3⟩ := hput W2 _ { rec .ready none with state := .busy } hlW2
    refine ⟨_, run_beginRound hlW2 (by rw [hrec]), ?_⟩
    obtain ⟨W2', hW2'⟩ : ∃ W', turned W2 l (.loop { rec .ready none with state := .busy }) = W' := ⟨_, rfl⟩
    show Al.W P (some l) body _ a1 (turned W2 l (.loop { rec .ready none with state := .busy }))
    rw [hW2'] at p1 p2 p3 ⊢
    have hkT : Keep (only l) W2 W2' := by rw [← hW2']; exact turned_keep (by intro c t f h; cases h)
    have hk3 : Keep (fen W1.heap.size N1) W W2' := (hk2.mono fun i _ h => by rcases h with h | h; exact .inl (by omega); exact .inr h).tr (hkT.mono fun i _ h => .inl (by have h : i = l := h; omega))
    refine W_mono (hbody _ p1 ⟨_, p2⟩ p3) ?_
    intro x a3 W3 hx
    have hDW3 : Keep (fen w.heap.size N1) W2' W3 → W3.heap[l]? = some (.loop { rec .ready none with state := .busy }) ∧ W3.heap[D]? = some (.deferred (some [])) :=
      fun h => by
        have hs := h.fen_same p2 (p3.trans (hD2.trans hDW)) hD hl (by omega)
        exact ⟨hs.1.trans p2, hs.2.trans (p3.trans (hD2.trans hDW))⟩
    cases x with
    | normal =>
      obtain ⟨hs, hj3⟩ := hx
      obtain ⟨q1, q2⟩ := hDW3 hs
      have hk4 := fun (o : Loop) => (hk3.tr (hs.mono fun i _ h => by rcases h with h | h; exact .inl (by omega); exact .inr h)).tr ((turned_keep (w := W3) (b := l) (o := .loop o) (by intro c t f h; cases h)).mono fun i _ h => Or.inl (by have h : i = l := h; omega))
      obtain ⟨t1, t2, t3⟩ := hput W3 _ (rec .ready none) q1
      have hend := run_endRound (P := P) none q1
      rw [hrec] at hend t1 t2 t3
      exact ⟨_, _, hend, hk4 _, .inl ⟨rfl, hJ _ _ _ _ hj3 t1, by rw [hrec]; exact t2, t3.trans q2⟩⟩
    | ret =>
      obtain ⟨hs, hj3⟩ := hx
      obtain ⟨q1, q2⟩ := hDW3 hs
      have hk4 := fun (o : Loop) => (hk3.tr (hs.mono fun i _ h => by rcases h with h | h; exact .inl (by omega); exact .inr h)).tr ((turned_keep (w := W3) (b := l) (o := .loop o) (by intro c t f h; cases h)).mono fun i _ h => Or.inl (by have h : i = l := h; omega))
      obtain ⟨t1, t2, t3⟩ := hput W3 _ (rec .done (some .ret)) q1
      have hend := run_endRound (P := P) (some .ret) q1
      rw [hrec] at hend t1 t2 t3
      exact ⟨_, _, hend, hk4 _, .inr ⟨rfl, .ret, hJx _ _ _ _ _ hj3 t1, by rw [hrec]; exact t2, t3.trans q2⟩⟩
    | exit id =>
      obtain ⟨hs, hj3⟩ := hx
      obtain ⟨q1, q2⟩ := hDW3 hs
      have hk4 := fun (o : Loop) => (hk3.tr (hs.mono fun i _ h => by rcases h with h | h; exact .inl (by omega); exact .inr h)).tr ((turned_keep (w := W3) (b := l) (o := .loop o) (by intro c t f h; cases h)).mono fun i _ h => Or.inl (by have h : i = l := h; omega))
      obtain ⟨t1, t2, t3⟩ := hput W3 _ (rec .done (some (.exit id))) q1
      have hend := run_endRound (P := P) (some (.exit id)) q1
      rw [hrec] at hend t1 t2 t3
      exact ⟨_, _, hend, hk4 _, .inr ⟨rfl, .exit id, hJx _ _ _ _ _ hj3 t1, by rw [hrec]; exact t2, t3.trans q2⟩⟩
    | goto t => exact hx.elim
    | panic c => exact hx.elim
    | outgrown => exact hx.elim
  · -- behind the iterator
    rintro e' W2 ⟨⟨v, rfl⟩, N1, hN1, (⟨hj, hlW, hDW⟩ | ⟨k, hkm, c, hj, hlW, hDW⟩)⟩
    · obtain ⟨t1, t2, t3⟩ := hput W2 _ (rec .exhausted none) hlW
      have hend := run_endLoop (P := P) hlW (by rw [hrec]; simp)
      rw [hrec] at hend t1 t2 t3
      exact ⟨none, _, hend, done D N1 _ hD (by omega) (hJ _ _ _ _ hj t1) (t3.trans hDW) _ ⟨ha.size, by simp [ha.defers], ha.at_⟩⟩
    · obtain ⟨t1, t2, t3⟩ := hput W2 _ (rec .exhausted (some c)) hlW
      have hend := run_endLoop (P := P) hlW (by rw [hrec]; simp)
      rw [hrec] at hend t1 t2 t3
      exact ⟨some c, _, hend, stop D N1 k c _ hD (by omega) hkm (hJx _ _ _ _ _ hj t1) (t3.trans hDW) _ ⟨ha.size, by simp [ha.defers], ha.at_⟩⟩
end
/-! ### A yield in a region whose order is drawn -/
section
variable {P : Program} {r : Option Nat} {n : Nat} {ds : List Deferred} {ops : Array Oper} {Q : Post} {act : Nat → Bool} {S : Nat → Prop} {w1 : World} {i : Nat} {l : List Nat} {e : Env} {w : World}
theorem GI_yield0 {R : Ending → World → Prop} (c : Call) (y : Nat) (args : Array Value) (d : Option Tmp) (h : site ops e i = some (d, .call c)) (hact : act i = true) (hn : need ops act i = false) (hc : yielder e c = some (y, args)) (hR : Yields P y args w R)
    (k : ∀ e' w', R e' w' → ∃ v, e' = .returned v ∧ GI P r n ds ops Q act S w1 l (putE n d v e) w') : GI P r n ds ops Q act S w1 (i :: l) e w :=
  GI_do0 d _ h hact hn fun o ho hd a ha he => by
    obtain ⟨f, tmps, assign, body, hy, hrd⟩ := hR
    refine does_round (by rw [he]; exact yield_run hc hy o ho) (RoundIn.mono hrd fun e' w' hr => ?_)
    obtain ⟨v, hv, hk⟩ := k e' w' hr
    exact ⟨v, hv, by rw [hd]; exact hk _ (ha.put d v)⟩
end

/-! ### What a function with such loops hands back -/
section
variable {P : Program} {fn : Func} {R : Ending → World → Prop} {n : Nat} {e : Env} {w : World}
theorem res_cells3 {t T u U s V n1 n2 n3 : Nat} {b1 b2 b3 : Nat} {v1 v2 v3 : Value} {T1 T2 T3 : TypeId} (hl : fn.results.toList = [.cell t T, .cell u U, .cell s V]) (h1 : look e t = some (.pointer (some ⟨b1, 0, none⟩))) (h2 : look e u = some (.pointer (some ⟨b2, 0, none⟩))) (h3 : look e s = some (.pointer (some ⟨b3, 0, none⟩)))
    (k1 : tk P T = some (false, n1)) (k2 : tk P U = some (false, n2)) (k3 : tk P V = some (false, n3)) (hb1 : Blk w b1 [v1] T1) (hb2 : Blk w b2 [v2] T2) (hb3 : Blk w b3 [v3] T3) : Res P fn n e w (.tuple #[v1, v2, v3]) := fun tmps hs ht => by
  have hr := results_of_list hl
  have g1 := ht _ _ h1
  have g2 := ht _ _ h2
  have g3 := ht _ _ h3
  have l1 := loads_cell (P := P) (o := 0) hb1 k1 rfl
  have l2 := loads_cell (P := P) (o := 0) hb2 k2 rfl
  have l3 := loads_cell (P := P) (o := 0) hb3 k3 rfl
  unfold Loads Instr.loadAt Instr.sureAddr at l1 l2 l3
  unfold results
  simp [hr, Array.mapM_eq_foldlM, Sem.run_bind, g1, g2, g3, asAddr, Result.andThen] at l1 l2 l3 ⊢
  simp [l1, l2, l3]
end
section
variable {P : Program} {fn : Func} {R : Ending → World → Prop} {n : Nat} {e : Env} {w : World}
end
section
variable {P : Program} {fn : Func} {R : Ending → World → Prop} {n : Nat} {e : Env} {w : World}
end
/-! ### Places in an array; stores behind which nothing is looked at -/
section
variable {P : Program} {r : Option Nat} {n : Nat} {ds : List Deferred} {ops : Array Oper} {Q : Post} {act : Nat → Bool} {S : Nat → Prop} {w1 : World} {i : Nat} {l : List Nat} {e : Env} {w w' : World}
end
end Go.Al


namespace Go.Al
open Go Go.RowKit Go.Proofs
/-! ### A row, a column -/
def colL (n : Int) (cs : List Ci) : List (Int × Int) := (cs.filter fun c => c.b == n).map fun c => (c.a, c.v)
def enc2 (xs : List (Int × Int)) (k : Nat) : Array Value := match xs[k]? with | some p => #[.int .i64 p.1, .int .i64 p.2] | none => #[undef, undef]
theorem enc2_at {xs : List (Int × Int)} {k : Nat} {p : Int × Int} (h : xs[k]? = some p) : enc2 xs k = #[.int .i64 p.1, .int .i64 p.2] := by unfold enc2; rw [h]
theorem enc2_size (xs : List (Int × Int)) (k : Nat) : (enc2 xs k).size = 2 := by unfold enc2; split <;> rfl
theorem fm_step {α β : Type} (p : α → Bool) (f : α → β) {cs : List α} {k : Nat} {c : α} (h : cs[k]? = some c) : ((cs.take (k + 1)).filter p).map f = if p c then ((cs.take k).filter p).map f ++ [f c] else ((cs.take k).filter p).map f := by
  obtain ⟨h1, rfl⟩ := List.getElem?_eq_some_iff.1 h
  rw [List.take_succ_eq_append_getElem h1, List.filter_append, List.map_append]
  by_cases hp : p cs[k] = true <;> simp [hp]
theorem fm_at {α β : Type} (p : α → Bool) (f : α → β) {cs : List α} {k : Nat} {c : α} (h : cs[k]? = some c) (hp : p c = true) : (((cs.filter p).map f)[(((cs.take k).filter p).map f).length]? = some (f c)) ∧ (((cs.take k).filter p).map f).length < ((cs.filter p).map f).length := by
  have h2 := fm_step p f h
  rw [if_pos hp] at h2
  have h3 : (cs.filter p).map f = (((cs.take k).filter p).map f ++ [f c]) ++ ((cs.drop (k + 1)).filter p).map f := by
    rw [← h2, ← List.map_append, ← List.filter_append, List.take_append_drop]
  rw [h3]
  exact ⟨by simp, by simp⟩
theorem colL_step {n : Int} {cs : List Ci} {k : Nat} {c : Ci} (h : cs[k]? = some c) : colL n (cs.take (k + 1)) = if c.b = n then colL n (cs.take k) ++ [(c.a, c.v)] else colL n (cs.take k) := by
  have := fm_step (fun c : Ci => c.b == n) (fun c => (c.a, c.v)) h
  simpa [colL] using this
theorem colL_at {n : Int} {cs : List Ci} {k : Nat} {c : Ci} (h : cs[k]? = some c) (hc : c.b = n) : (colL n cs)[(colL n (cs.take k)).length]? = some (c.a, c.v) ∧ (colL n (cs.take k)).length < (colL n cs).length := fm_at (fun c : Ci => c.b == n) (fun c => (c.a, c.v)) h (by simp [hc])
/-- What a way along needs of the world while it goes on. -/
structure AlOk (bs bn : Nat) (s n : Int) (A : Option Addr) (cap : Nat) (cs : List Ci) (W : World) : Prop where
  side : Blk W bs [.int .i64 s] 3
  num : Blk W bn [.int .i64 n] 3
  sl : SlT W 3 Ci.cells A cap cs
theorem AlOk.quiet {N bs bn : Nat} {s n : Int} {A : Option Addr} {cap : Nat} {cs : List Ci} {W W' : World} (h : AlOk bs bn s n A cap cs W) (k : Keep (lb N W) W W') : AlOk bs bn s n A cap cs W' := ⟨h.1.quiet k, h.2.quiet k, h.3.quiet k⟩
theorem AlOk.keep0 {bs bn : Nat} {s n : Int} {A : Option Addr} {cap : Nat} {cs : List Ci} {W W' : World} (h : AlOk bs bn s n A cap cs W) (k : Keep none_ W W') : AlOk bs bn s n A cap cs W' := ⟨h.1.keep k (fun f => f), h.2.keep k (fun f => f), h.3.keep0 k⟩
theorem GrAt.quiet {N g cap : Nat} {A : Option Addr} {cs : List Ci} {W W' : World} (h : GrAt W g A cap cs) (k : Keep (lb N W) W W') : GrAt W' g A cap cs := ⟨h.blk.quiet k, h.sl.quiet k, h.off⟩
theorem GrAt.keep0 {g cap : Nat} {A : Option Addr} {cs : List Ci} {W W' : World} (h : GrAt W g A cap cs) (k : Keep none_ W W') : GrAt W' g A cap cs := ⟨h.blk.keep k (fun f => f), h.sl.keep0 k, h.off⟩

theorem along1_iter1 (bg bs bn g cap : Nat) (A : Option Addr) (cs : List Ci) (n : Int) (hn : cs.length ≤ 1000000) : Iter2 Try.prog 47 #[.pointer (some ⟨bg, 0, none⟩), .pointer (some ⟨bs, 0, none⟩), .pointer (some ⟨bn, 0, none⟩)] (colL n cs).length (enc2 (colL n cs)) (fun W => Blk W bg [.pointer (some ⟨g, 0, none⟩)] 22 ∧ GrAt W g A cap cs ∧ AlOk bs bn 1 n A cap cs W) (AlOk bs bn 1 n A cap cs) := by
  intro l J Jx w hPre hJ hJx hY hOk h0
  obtain ⟨hbg, h, ho⟩ := hPre
  have hbs := ho.side
  have hbn := ho.num
  have hg := h.blk
  have hA := h.sl
  have hglt := hg.lt
  have hgA := h.off
  have hbslt := hbs.lt
  have hbnlt := hbn.lt
  have hbglt := hbg.lt
  show Calls Try.prog 47 #[.func (.yield l) #[] #[], .pointer (some ⟨bg, 0, none⟩), .pointer (some ⟨bs, 0, none⟩), .pointer (some ⟨bn, 0, none⟩)] w _
  have hK0 : Keep none_ w w := Keep.refl _ _
  have hzhK0 := Keep.size hK0
  refine enterM Try.func47 rfl [.func (.yield l) #[] #[], .pointer (some ⟨bg, 0, none⟩), .pointer (some ⟨bs, 0, none⟩), .pointer (some ⟨bn, 0, none⟩)] 26 rfl rfl rfl ?_
  refine V_pick [(0, .func (.yield l) #[] #[]), (1, .pointer (some ⟨bg, 0, none⟩)), (2, .pointer (some ⟨bs, 0, none⟩)), (3, .pointer (some ⟨bn, 0, none⟩))] rfl ?_
  refine V_seq ?_
  refine V_region ?_
  refine OI_box 29 (.tmp 0) (.func (.yield l) #[] #[]) [.func (.yield l) #[] #[]] (some 4) (by kernel_rfl) (by kernel_rfl) (by kernel_rfl) ?_
  intro b1 w1 e1 hb1 k1 z1
  have hsz2 := Keep.size k1
  replace hbg := hbg.keep k1 (fun f => f)
  have hbglt := hbg.lt
  replace hbs := hbs.keep k1 (fun f => f)
  have hbslt := hbs.lt
  replace hbn := hbn.keep k1 (fun f => f)
  have hbnlt := hbn.lt
  replace hg := hg.keep k1 (fun f => f)
  have hglt := hg.lt
  replace hA := SlT.keep0 hA k1
  replace hK0 := Keep.tr hK0 (Keep.ofNone k1); have hzhK0 := Keep.size hK0
  have hb1lt := hb1.lt
  refine OI_end rfl ?_
  refine X_then ?_
  refine V_seq ?_
  refine V_region ?_
  refine OI_cell 22 (.tmp 1) 0 (.pointer (some ⟨g, 0, none⟩)) (some 7) (by kernel_rfl) (by kernel_rfl) hbg (m := 1) (by kernel_rfl) rfl ?_
  refine OI_call { callee := (Callee.value (Operand.func 40)), args := #[(Operand.tmp 7)], argTypes := #[22] } 40 #[.pointer (some ⟨g, 0, none⟩)] (some 8) (by kernel_rfl) (by kernel_rfl) (by kernel_rfl) (cellsfn_spec _ rfl _) ?_
  rintro _ w3 ⟨c5, rfl, hc5, hk4, hgec5⟩
  refine ⟨_, rfl, ?_⟩
  have hsz6 := Keep.size hk4
  replace hbg := hbg.keep hk4 (fun f => f)
  have hbglt := hbg.lt
  replace hbs := hbs.keep hk4 (fun f => f)
  have hbslt := hbs.lt
  replace hbn := hbn.keep hk4 (fun f => f)
  have hbnlt := hbn.lt
  replace hg := hg.keep hk4 (fun f => f)
  have hglt := hg.lt
  replace hb1 := hb1.keep hk4 (fun f => f)
  have hb1lt := hb1.lt
  replace hA := SlT.keep0 hA hk4
  replace hK0 := Keep.tr hK0 (Keep.ofNone hk4); have hzhK0 := Keep.size hK0
  have hc5lt := hc5.lt
  refine OI_end rfl ?_
  refine X_then ?_
  refine V_block ?_
  have hb4ge : w.heap.size ≤ b1 := by omega
  refine V_pick [(2, .pointer (some ⟨bs, 0, none⟩)), (3, .pointer (some ⟨bn, 0, none⟩)), (4, .pointer (some ⟨b1, 0, none⟩)), (8, .func (.func 53) #[] #[.pointer (some ⟨c5, 0, none⟩)])] rfl ?_
  have hN0 : w.heap.size ≤ w3.heap.size := Keep.size hK0
  refine V_range2 (gf := 53) (caps := #[.pointer (some ⟨c5, 0, none⟩)]) (m := cs.length) (by kernel_rfl) (by kernel_rfl) (by kernel_rfl) ((cells1_iter c5 g cap A cs hn).to2) (⟨hc5, ⟨hg, hA, hgA⟩⟩) (fun W W' h k => ⟨h.1.quiet k, h.2.quiet k⟩) (encC_size cs) (fun M1 k W => (Blk W bs [.int .i64 1] 3) ∧ (Blk W bn [.int .i64 n] 3) ∧ (Blk W b1 [.func (.yield l) #[] #[]] 29) ∧ (J M1 (colL n (cs.take k)).length W)) (fun M1 c k W => (c = .ret ∧ ∃ q : Nat, (Jx M1 q W) ∧ (q ≤ (colL n cs).length))) (fun M1 k W W' h hk => by obtain ⟨jbs, jbn, jb1, jj⟩ := h; exact ⟨jbs.quiet hk, jbn.quiet hk, jb1.quiet hk, (((hJ _ _).mono (by omega)) _ _ jj hk)⟩) (fun M1 c k W W' h hk => by obtain ⟨hc, q, xx, hq⟩ := h; exact ⟨hc, q, (((hJx _ _).mono (by omega)) _ _ xx hk), hq⟩) (fun M1 hM1 => ⟨hbs, hbn, hb1, hJ _ _ _ _ (h0 _ (by omega)) (Keep.ofNone hK0)⟩) (fun M1 k W h => by obtain ⟨jbs, jbn, jb1, jj⟩ := h; exact (hOk _ _ _ jj).sl) ?_ ?_ ?_
  · skip
    intro lp D M1 k W hD hl hM hMW hkm ⟨jbs, jbn, jb1, jj⟩ ⟨rr, hrr⟩ hDD
    have hbslt := jbs.lt
    have hbnlt := jbn.lt
    have hb1lt := jb1.lt
    obtain ⟨x, hx⟩ : ∃ x, cs[k]? = some x := ⟨_, List.getElem?_eq_getElem (by omega)⟩
    rw [encC_at hx]
    refine V_pick [(2, .pointer (some ⟨bs, 0, none⟩)), (3, .pointer (some ⟨bn, 0, none⟩)), (4, .pointer (some ⟨b1, 0, none⟩)), (9, .agg #[.int .i64 x.a, .int .i64 x.b]), (10, .int .i64 x.v)] rfl ?_
    have hfen : Keep (fen w3.heap.size M1) W W := Keep.refl _ _
    have hzhfen := Keep.size hfen
    have hkj : Keep none_ W W := Keep.refl _ _
    have hzhkj := Keep.size hkj
    refine V_seq ?_
    refine V_region ?_
    refine OI_alloc 68 (.agg #[.int .i64 0, .int .i64 0]) [.int .i64 0, .int .i64 0] (some 5) (by kernel_rfl) (by kernel_rfl) (by kernel_rfl) ?_
    intro b7 w7 e7 hb7 k7 z7
    have hsz8 := Keep.size k7
    replace jbs := jbs.keep k7 (fun f => f)
    have hbslt := jbs.lt
    replace jbn := jbn.keep k7 (fun f => f)
    have hbnlt := jbn.lt
    replace jb1 := jb1.keep k7 (fun f => f)
    have hb1lt := jb1.lt
    replace hfen := Keep.tr hfen (Keep.ofNone k7); have hzhfen := Keep.size hfen
    replace hkj := Keep.tr hkj (Keep.ofNone k7); have hzhkj := Keep.size hkj
    have hb7lt := hb7.lt
    refine OI_set (m := 2) (kd := true) 68 (.tmp 5) (.tmp 9) 0 (.agg #[.int .i64 x.a, .int .i64 x.b]) [.int .i64 x.a, .int .i64 x.b] none (by kernel_rfl) (by kernel_rfl) (by kernel_rfl) hb7 (by kernel_rfl) (by kernel_rfl) (by kernel_rfl) (Nat.le_of_ble_eq_true (by kernel_rfl)) (by simp [Value.oneCell']) ?_
    intro w9 hb7_12 hk10 hz11
    replace hb7_12 : Blk w9 b7 [.int .i64 x.a, .int .i64 x.b] 68 := hb7_12
    have hsz13 := Keep.size hk10
    replace jbs := jbs.keep hk10 (by show ¬ (_ = _); omega)
    have hbslt := jbs.lt
    replace jbn := jbn.keep hk10 (by show ¬ (_ = _); omega)
    have hbnlt := jbn.lt
    replace jb1 := jb1.keep hk10 (by show ¬ (_ = _); omega)
    have hb1lt := jb1.lt
    replace hfen := Keep.fresh hfen hk10 (by intro i hi hs; have hs2 : i = b7 := hs; show _ ∨ _; omega); have hzhfen := Keep.size hfen
    replace hkj := Keep.fresh hkj hk10 (by intro i hi hs; first | exact hs | exact Or.inl hs | exact Or.inr hs | (exfalso; have hs2 : i = b7 := hs; omega)); have hzhkj := Keep.size hkj
    refine OI_end rfl ?_
    refine X_then ?_
    refine V_region ?_
    refine OI_static 1 [(2, .pointer (some ⟨bs, 0, none⟩)), (3, .pointer (some ⟨bn, 0, none⟩)), (4, .pointer (some ⟨b1, 0, none⟩)), (5, .pointer (some ⟨b7, 0, none⟩)), (6, .int .i64 x.v)] (by kernel_rfl) ?_
    refine OI_end rfl ?_
    refine X_begin2 hfen ?_
    intro W2 hk2 ⟨r2, hr2⟩ hD2
    have hsz14 := Keep.size hk2
    replace jbs := Blk.quiet jbs hk2
    have hbslt := jbs.lt
    replace jbn := Blk.quiet jbn hk2
    have hbnlt := jbn.lt
    replace jb1 := Blk.quiet jb1 hk2
    have hb1lt := jb1.lt
    replace hb7_12 := Blk.quiet hb7_12 hk2
    have hb7lt := hb7_12.lt
    replace jj := hJ _ _ _ _ jj (Keep.ofNone hkj); replace jj := (hJ _ _).mono (by omega : w.heap.size ≤ w3.heap.size) _ _ jj hk2; replace hkj := Keep.refl none_ W2
    have hzhk2 := Keep.size hk2
    have hfenb : Keep (fen w3.heap.size M1) W2 W2 := Keep.refl _ _
    have hzhfenb := Keep.size hfenb
    have hzhkj := Keep.size hkj
    refine V_block ?_
    refine V_seq ?_
    refine V_draws (acts [12]) none_ [[0, 1, 2, 3, 4, 5, 6, 7, 8, 9, 10, 11, 12, 13, 14]] (by kernel_rfl) (by repeat first | exact (by first | exact sure_postM | exact sure_rQ2 | exact sure_no | exact sure_body (by rintro _ _ ⟨h, _⟩; exact ⟨_, h⟩)) | refine sure_then ?_ | refine sure_block ?_ | refine sure_join ?_) (by kernel_rfl) ?_
    intro w16 hk15 he17 L hL18
    have hsz19 := Keep.size hk15
    replace jbs := jbs.keep hk15 (fun f => f)
    have hbslt := jbs.lt
    replace jbn := jbn.keep hk15 (fun f => f)
    have hbnlt := jbn.lt
    replace jb1 := jb1.keep hk15 (fun f => f)
    have hb1lt := jb1.lt
    replace hb7_12 := hb7_12.keep hk15 (fun f => f)
    have hb7lt := hb7_12.lt
    replace hkj := Keep.tr hkj (Keep.ofNone hk15); have hzhkj := Keep.size hkj
    replace hfenb := Keep.tr hfenb (Keep.ofNone hk15); have hzhfenb := Keep.size hfenb
    have qjbs := jbs
    have qjbn := jbn
    have qjb1 := jb1
    have qhb7_12 := hb7_12
    have K20 : Keep none_ w16 w16 := Keep.refl _ _
    obtain rfl := List.mem_singleton.1 hL18
    refine GI_cell 3 (.tmp 2) 0 (.int .i64 1) (some 11) (by kernel_rfl) (by kernel_rfl) (by kernel_rfl) qjbs (fun f => f) (m := 1) (by kernel_rfl) rfl ?_
    refine GI_static [2, 3, 4, 5, 6, 7, 8, 9, 10, 11, 12, 13, 14] [(2, .pointer (some ⟨bs, 0, none⟩)), (3, .pointer (some ⟨bn, 0, none⟩)), (4, .pointer (some ⟨b1, 0, none⟩)), (5, .pointer (some ⟨b7, 0, none⟩)), (6, .int .i64 x.v), (12, .pointer (some ⟨b7, 1, none⟩))] (by kernel_rfl) ?_
    refine GI_cell 3 (.tmp 12) 1 (.int .i64 x.b) (some 13) (by kernel_rfl) (by kernel_rfl) (by kernel_rfl) qhb7_12 (fun f => f) (m := 1) (by kernel_rfl) rfl ?_
    refine GI_cell 3 (.tmp 3) 0 (.int .i64 n) (some 14) (by kernel_rfl) (by kernel_rfl) (by kernel_rfl) qjbn (fun f => f) (m := 1) (by kernel_rfl) rfl ?_
    refine GI_static [6, 7, 8, 9, 10, 11, 12, 13, 14] [(2, .pointer (some ⟨bs, 0, none⟩)), (4, .pointer (some ⟨b1, 0, none⟩)), (5, .pointer (some ⟨b7, 0, none⟩)), (6, .int .i64 x.v), (16, .bool (decide (x.b = n)))] (by kernel_rfl) ?_
    by_cases hg21 : x.b = n
    · skip
      refine GI_eq [(2, .pointer (some ⟨bs, 0, none⟩)), (4, .pointer (some ⟨b1, 0, none⟩)), (5, .pointer (some ⟨b7, 0, none⟩)), (6, .int .i64 x.v), (16, .bool true)] (by first | simp [hg21] | rfl) ?_
      refine GI_cell 29 (.tmp 4) 0 (.func (.yield l) #[] #[]) (some 17) (by kernel_rfl) (by kernel_rfl) (by kernel_rfl) qjb1 (fun f => f) (m := 1) (by kernel_rfl) rfl ?_
      refine GI_cell 3 (.tmp 2) 0 (.int .i64 1) (some 18) (by kernel_rfl) (by kernel_rfl) (by kernel_rfl) qjbs (fun f => f) (m := 1) (by kernel_rfl) rfl ?_
      refine GI_static [10, 11, 12, 13, 14] [(6, .int .i64 x.v), (16, .bool true), (17, .func (.yield l) #[] #[]), (20, .pointer (some ⟨b7, 0, none⟩))] (by kernel_rfl) ?_
      refine GI_cell 3 (.tmp 20) 0 (.int .i64 x.a) (some 21) (by kernel_rfl) (by kernel_rfl) (by kernel_rfl) qhb7_12 (fun f => f) (m := 1) (by kernel_rfl) rfl ?_
      refine GI_static [12, 13, 14] [(16, .bool true), (17, .func (.yield l) #[] #[]), (21, .int .i64 x.a), (22, .int .i64 x.v)] (by kernel_rfl) ?_
      obtain ⟨hat, hlt⟩ := colL_at hx hg21
      refine GI_yield0 { callee := (Callee.value (Operand.tmp 17)), args := #[(Operand.tmp 21), (Operand.tmp 22)], argTypes := #[3, 3] } l #[.int .i64 x.a, .int .i64 x.v] (some 23) (by kernel_rfl) (by kernel_rfl) (by kernel_rfl) (by kernel_rfl) (by have hy := hY M1 _ _ (by omega) (by omega) hlt (hJ _ _ _ _ jj (Keep.ofNone hkj)); rw [enc2_at hat] at hy; exact hy) ?_
      rintro _ w22 ⟨hk24, (⟨rfl, hj23⟩ | ⟨rfl, hj23⟩)⟩
      · skip
        refine ⟨_, rfl, ?_⟩
        have hsz25 := Keep.size hk24
        replace jb1 := jb1.keep hk24 (by show ¬ (_ ∨ _); omega)
        have hb1lt := jb1.lt
        replace hfenb := Keep.fresh hfenb hk24 (by intro i hi hs; rcases hs with hs | hs; exact .inl (by omega); exact .inr hs); have hzhfenb := Keep.size hfenb
        have hok26 := hOk _ _ _ hj23
        have hok26s := hok26.side
        have hok26n := hok26.num
        refine GI_static [] [(25, .bool false)] (by kernel_rfl) ?_
        refine GI_end ?_
        refine X_then ?_
        refine V_false rfl ?_
        refine V_skip ?_
        refine X_block ?_
        exact fun a _ => ⟨hfenb, hok26s, hok26n, jb1, by rw [colL_step hx, if_pos hg21]; simpa using hj23⟩
      · skip
        refine ⟨_, rfl, ?_⟩
        have hsz27 := Keep.size hk24
        replace jb1 := jb1.keep hk24 (by show ¬ (_ ∨ _); omega)
        have hb1lt := jb1.lt
        replace hfenb := Keep.fresh hfenb hk24 (by intro i hi hs; rcases hs with hs | hs; exact .inl (by omega); exact .inr hs); have hzhfenb := Keep.size hfenb
        refine GI_static [] [(25, .bool true)] (by kernel_rfl) ?_
        refine GI_end ?_
        refine X_then ?_
        refine V_true rfl ?_
        refine V_ret ?_
        refine X_ret_block ?_
        exact fun a _ => ⟨hfenb, ⟨rfl, _, hj23, by omega⟩⟩
    · skip
      refine GI_eq [(2, .pointer (some ⟨bs, 0, none⟩)), (4, .pointer (some ⟨b1, 0, none⟩)), (5, .pointer (some ⟨b7, 0, none⟩)), (6, .int .i64 x.v), (16, .bool false)] (by first | simp [hg21] | rfl) ?_
      refine GI_static [] [(25, .bool false)] (by kernel_rfl) ?_
      refine GI_end ?_
      refine X_then ?_
      refine V_false rfl ?_
      refine V_skip ?_
      refine X_block ?_
      exact fun a _ => ⟨hfenb, jbs, jbn, jb1, hJ _ _ _ _ (by rw [colL_step hx, if_neg hg21]; exact jj) (Keep.ofNone hkj)⟩
  · skip
    intro D M1 W hD hM ⟨jbs, jbn, jb1, jj⟩ hDD
    have hbslt := jbs.lt
    have hbnlt := jbn.lt
    have hb1lt := jb1.lt
    refine X_block ?_
    rw [List.take_length] at jj
    exact leave1 (.tuple #[]) (.inr rfl) hDD (fun w' hk => ⟨res_tmps rfl, ⟨_, rfl⟩, M1, by omega, .inl (((hJ _ _).mono (by omega)) _ _ jj hk)⟩)
  · skip
    intro D M1 k c W hD hM hkm h hDD
    obtain ⟨hc, q, xx, hq⟩ := h
    subst hc
    refine V_ret ?_
    refine X_ret_block ?_
    exact leave1 (.tuple #[]) (.inl rfl) hDD (fun w' hk => ⟨res_tmps rfl, ⟨_, rfl⟩, M1, by omega, .inr ⟨q, hq, ((hJx _ _).mono (by omega)) _ _ xx hk⟩⟩)

theorem alongfn_spec (v : Value) (hv : v.cells = [v].toArray) (s n : Int) (w : World) : Calls Try.prog 32 #[v, .int .i64 s, .int .i64 n] w fun e w' => ∃ bg bs bn, e = .returned (.func (.func 47) #[] #[.pointer (some ⟨bg, 0, none⟩), .pointer (some ⟨bs, 0, none⟩), .pointer (some ⟨bn, 0, none⟩)]) ∧ Blk w' bg [v] 22 ∧ Blk w' bs [.int .i64 s] 3 ∧ Blk w' bn [.int .i64 n] 3 ∧ Keep none_ w w' ∧ w.heap.size ≤ bg ∧ w.heap.size ≤ bs ∧ w.heap.size ≤ bn := by
  have hK0 : Keep none_ w w := Keep.refl _ _
  have hzhK0 := Keep.size hK0
  refine enterV Try.func32 rfl [v, .int .i64 s, .int .i64 n] 8 rfl rfl rfl ?_
  refine V_pick [(0, v), (1, .int .i64 s), (2, .int .i64 n)] rfl ?_
  refine V_seq ?_
  refine V_region ?_
  refine OI_box 22 (.tmp 0) v [v] (some 3) (by kernel_rfl) (by kernel_rfl) hv ?_
  intro b1 w1 e1 hb1 k1 z1
  have hsz2 := Keep.size k1
  replace hK0 := Keep.tr hK0 (Keep.ofNone k1); have hzhK0 := Keep.size hK0
  have hb1lt := hb1.lt
  refine OI_box 3 (.tmp 1) (.int .i64 s) [.int .i64 s] (some 4) (by kernel_rfl) (by kernel_rfl) (by kernel_rfl) ?_
  intro b3 w3 e3 hb3 k3 z3
  have hsz4 := Keep.size k3
  replace hb1 := hb1.keep k3 (fun f => f)
  have hb1lt := hb1.lt
  replace hK0 := Keep.tr hK0 (Keep.ofNone k3); have hzhK0 := Keep.size hK0
  have hb3lt := hb3.lt
  refine OI_box 3 (.tmp 2) (.int .i64 n) [.int .i64 n] (some 5) (by kernel_rfl) (by kernel_rfl) (by kernel_rfl) ?_
  intro b5 w5 e5 hb5 k5 z5
  have hsz6 := Keep.size k5
  replace hb1 := hb1.keep k5 (fun f => f)
  have hb1lt := hb1.lt
  replace hb3 := hb3.keep k5 (fun f => f)
  have hb3lt := hb3.lt
  replace hK0 := Keep.tr hK0 (Keep.ofNone k5); have hzhK0 := Keep.size hK0
  have hb5lt := hb5.lt
  refine OI_static 4 [(3, .pointer (some ⟨b1, 0, none⟩)), (4, .pointer (some ⟨b3, 0, none⟩)), (5, .pointer (some ⟨b5, 0, none⟩))] (by kernel_rfl) ?_
  refine OI_end rfl ?_
  refine X_then ?_
  refine V_seq ?_
  refine V_region ?_
  refine OI_static 2 [(6, .func (.func 47) #[] #[.pointer (some ⟨b1, 0, none⟩), .pointer (some ⟨b3, 0, none⟩), .pointer (some ⟨b5, 0, none⟩)])] (by kernel_rfl) ?_
  refine OI_end rfl ?_
  refine X_then ?_
  refine V_ret ?_
  exact X_return _ rfl ⟨_, _, _, rfl, hb1, hb3, hb5, hK0, by omega, by omega, by omega⟩

theorem column_spec (v : Value) (hv : v.cells = [v].toArray) (n : Int) (w : World) : Calls Try.prog 13 #[v, .int .i64 n] w fun e w' => ∃ bg bs bn, e = .returned (.func (.func 47) #[] #[.pointer (some ⟨bg, 0, none⟩), .pointer (some ⟨bs, 0, none⟩), .pointer (some ⟨bn, 0, none⟩)]) ∧ Blk w' bg [v] 22 ∧ Blk w' bs [.int .i64 1] 3 ∧ Blk w' bn [.int .i64 n] 3 ∧ Keep none_ w w' ∧ w.heap.size ≤ bg ∧ w.heap.size ≤ bs ∧ w.heap.size ≤ bn := by
  have hK0 : Keep none_ w w := Keep.refl _ _
  have hzhK0 := Keep.size hK0
  refine enterV Try.func13 rfl [v, .int .i64 n] 8 rfl rfl rfl ?_
  refine V_pick [(0, v), (1, .int .i64 n)] rfl ?_
  refine V_seq ?_
  refine V_region ?_
  refine OI_static 1 [(0, v), (1, .int .i64 n)] (by kernel_rfl) ?_
  refine OI_end rfl ?_
  refine X_then ?_
  refine V_seq ?_
  refine V_region ?_
  refine OI_static 2 [(5, v), (6, .int .i64 n)] (by kernel_rfl) ?_
  refine OI_call { callee := (Callee.value (Operand.func 32)), args := #[(Operand.tmp 5), (Operand.const (Value.int IntKind.i64 1)), (Operand.tmp 6)], argTypes := #[22, 3, 3] } 32 #[v, .int .i64 1, .int .i64 n] (some 7) (by kernel_rfl) (by kernel_rfl) (by kernel_rfl) (alongfn_spec v hv 1 n _) ?_
  rintro _ w1 ⟨bg, bs, bn, rfl, h1, h2, h3, hk2, h4, h5, h6⟩
  refine ⟨_, rfl, ?_⟩
  have hsz3 := Keep.size hk2
  replace hK0 := Keep.tr hK0 (Keep.ofNone hk2); have hzhK0 := Keep.size hK0
  refine OI_static 4 [(4, .func (.func 47) #[] #[.pointer (some ⟨bg, 0, none⟩), .pointer (some ⟨bs, 0, none⟩), .pointer (some ⟨bn, 0, none⟩)])] (by kernel_rfl) ?_
  refine OI_end rfl ?_
  refine X_then ?_
  refine V_ret ?_
  exact X_return _ rfl ⟨_, _, _, rfl, h1, h2, h3, hK0, h4, h5, h6⟩
end Go.Al


namespace Go.Al
open Go Go.RowKit Go.Proofs
/-! ### A grid, with its footprint -/
theorem Srt.nil : Srt [] := List.Pairwise.nil
/-- The grid at g holds cs; all of its blocks lie in F. -/
def Grd (F : Nat → Prop) (w : World) (g : Nat) (cs : List Ci) : Prop := Srt cs ∧ cs.length ≤ 100000 ∧ F g ∧ (∀ q, F q → q < w.heap.size) ∧ ∃ A cap, GrAt w g A cap cs ∧ ∀ q, inA A q → F q
theorem Grd.lt {F : Nat → Prop} {w : World} {g : Nat} {cs : List Ci} (h : Grd F w g cs) : ∀ q, F q → q < w.heap.size := h.2.2.2.1
theorem Grd.at_ {F : Nat → Prop} {w : World} {g : Nat} {cs : List Ci} (h : Grd F w g cs) : F g := h.2.2.1
theorem Grd.len {F : Nat → Prop} {w : World} {g : Nat} {cs : List Ci} (h : Grd F w g cs) : cs.length ≤ 100000 := h.2.1
theorem Grd.keep {S F : Nat → Prop} {w w' : World} {g : Nat} {cs : List Ci} (h : Grd F w g cs) (k : Keep S w w') (hS : ∀ q, F q → ¬ S q) : Grd F w' g cs := by
  obtain ⟨h1, h2, h3, h4, A, cap, h5, h6⟩ := h
  exact ⟨h1, h2, h3, fun q hq => Nat.lt_of_lt_of_le (h4 q hq) k.size, A, cap, ⟨h5.blk.keep k (hS _ h3), h5.sl.keep k (fun q hq => hS q (h6 q hq)), h5.off⟩, h6⟩
theorem Grd.quiet {N : Nat} {F : Nat → Prop} {w w' : World} {g : Nat} {cs : List Ci} (h : Grd F w g cs) (k : Keep (lb N w) w w') : Grd F w' g cs := by
  obtain ⟨h1, h2, h3, h4, A, cap, h5, h6⟩ := h
  exact ⟨h1, h2, h3, fun q hq => Nat.lt_of_lt_of_le (h4 q hq) k.size, A, cap, h5.quiet k, h6⟩
theorem Grd.mono {F F' : Nat → Prop} {w : World} {g : Nat} {cs : List Ci} (h : Grd F w g cs) (hF : ∀ q, F q → F' q) (hlt : ∀ q, F' q → q < w.heap.size) : Grd F' w g cs := by
  obtain ⟨h1, h2, h3, h4, A, cap, h5, h6⟩ := h
  exact ⟨h1, h2, hF _ h3, hlt, A, cap, h5, fun q hq => hF q (h6 q hq)⟩
theorem Grd.of {D F : Nat → Prop} {w : World} {g : Nat} {cs : List Ci} (h : Gr D w g cs) (hg : F g) (hD : ∀ q, q < w.heap.size → D q → F q) (hlt : ∀ q, F q → q < w.heap.size) : Grd F w g cs := by
  obtain ⟨h1, h2, A, cap, h5, h6⟩ := h
  exact ⟨h1, h2, hg, hlt, A, cap, h5, fun q hq => hD q (h5.sl.lt q hq) (h6 q hq)⟩
theorem Grd.gr {F : Nat → Prop} {w : World} {g : Nat} {cs : List Ci} (h : Grd F w g cs) : Gr F w g cs := by
  obtain ⟨h1, h2, h3, h4, A, cap, h5, h6⟩ := h
  exact ⟨h1, h2, A, cap, h5, h6⟩
/-- A footprint, and what has been laid since. -/
def more (F : Nat → Prop) (w w' : World) : Nat → Prop := fun q => F q ∨ (w.heap.size ≤ q ∧ q < w'.heap.size)
theorem Gr.mono {D D' : Nat → Prop} {w : World} {g : Nat} {cs : List Ci} (h : Gr D w g cs) (hD : ∀ k, D k → D' k) : Gr D' w g cs := by
  obtain ⟨h1, h2, A, cap, h5, h6⟩ := h
  exact ⟨h1, h2, A, cap, h5, fun q hq => hD q (h6 q hq)⟩

theorem new_grd (w : World) : Calls Try.prog 10 #[] w fun e w' => ∃ g F, e = .returned (.pointer (some ⟨g, 0, none⟩)) ∧ Grd F w' g [] ∧ Keep none_ w w' ∧ (∀ q, F q → w.heap.size ≤ q) := (new_spec (fun q => w.heap.size ≤ q) w).mono (by
  rintro e w' ⟨g, rfl, h1, h2, h3⟩
  have hg : g < w'.heap.size := by obtain ⟨_, _, A, cap, h, _⟩ := h1; exact h.blk.lt
  exact ⟨g, fun q => w.heap.size ≤ q ∧ q < w'.heap.size, rfl, Grd.of h1 ⟨h3, hg⟩ (fun q h1 h2 => ⟨h2, h1⟩) (fun q h => h.2), h2, fun q h => h.1⟩)

theorem set_grd (F : Nat → Prop) (g : Nat) (cs : List Ci) (a b v : Int) (w : World) (h : Grd F w g cs) (hmax : cs.length < 100000) : Calls Try.prog 11 #[.pointer (some ⟨g, 0, none⟩), .int .i64 a, .int .i64 b, .int .i64 v] w fun e w' => e = .returned (.tuple #[]) ∧ (∃ F', Grd F' w' g (setC a b v cs) ∧ (∀ q, F' q → F q ∨ w.heap.size ≤ q)) ∧ Keep F w w' :=
  (set_spec (fun q => F q ∨ w.heap.size ≤ q) g cs a b v w (h.gr.mono (fun _ h => .inl h)) (fun _ h => .inr h) hmax).mono (by
    rintro e w' ⟨rfl, h1, h2⟩
    exact ⟨rfl, ⟨more F w w', Grd.of h1 (.inl h.at_) (fun q hq hD => hD.imp id (fun h => ⟨h, hq⟩)) (fun q hq => by rcases hq with hq | hq; exact Nat.lt_of_lt_of_le (h.lt q hq) h2.size; exact hq.2), fun q hq => hq.imp id (·.1)⟩, h2.mono (fun q _ hq => by rw [show q = g from hq]; exact h.at_)⟩)

end Go.Al


namespace Go.Al
open Go Go.RowKit Go.Proofs
set_option maxRecDepth 10000 in
theorem told_spec (gf : FuncId) (caps : Array Value) (xs : List (Int × Int)) (Pre Ok : World → Prop) (w : World) (hb : bodied Try.prog gf = true) (hit : Iter2 Try.prog gf caps xs.length (enc2 xs) Pre Ok) (hPre : Pre w) (hPq : Quiet w.heap.size Pre) (hOk : ∀ W, Keep none_ w W → Ok W) (hn : xs.length ≤ 1000) : Calls Try.prog 20 #[.func (.func gf) #[] caps] w fun e w' => ∃ Ak capk Av capv, e = .returned (.tuple #[.slice Ak xs.length capk, .slice Av xs.length capv, .bool true]) ∧ SlT w' 1 intc Ak capk (xs.map (·.1)) ∧ SlT w' 1 intc Av capv (xs.map (·.2)) ∧ Keep none_ w w' ∧ (∀ q, inA Ak q → w.heap.size ≤ q) ∧ (∀ q, inA Av q → w.heap.size ≤ q) := by
  have hK0 : Keep none_ w w := Keep.refl _ _
  have hzhK0 := Keep.size hK0
  refine enterM Try.func20 rfl [.func (.func gf) #[] caps] 27 rfl rfl rfl ?_
  refine V_pick [(0, .func (.func gf) #[] caps)] rfl ?_
  refine V_seq ?_
  refine V_region ?_
  refine OI_alloc 30 (.slice none 0 0) [.slice none 0 0] (some 2) (by kernel_rfl) (by kernel_rfl) (by kernel_rfl) ?_
  intro b1 w1 e1 hb1 k1 z1
  have hsz2 := Keep.size k1
  replace hK0 := Keep.tr hK0 (Keep.ofNone k1); have hzhK0 := Keep.size hK0
  have hb1lt := hb1.lt
  refine OI_alloc 30 (.slice none 0 0) [.slice none 0 0] (some 3) (by kernel_rfl) (by kernel_rfl) (by kernel_rfl) ?_
  intro b3 w3 e3 hb3 k3 z3
  have hsz4 := Keep.size k3
  replace hb1 := hb1.keep k3 (fun f => f)
  have hb1lt := hb1.lt
  replace hK0 := Keep.tr hK0 (Keep.ofNone k3); have hzhK0 := Keep.size hK0
  have hb3lt := hb3.lt
  refine OI_alloc 4 (.bool false) [.bool false] (some 4) (by kernel_rfl) (by kernel_rfl) (by kernel_rfl) ?_
  intro b5 w5 e5 hb5 k5 z5
  have hsz6 := Keep.size k5
  replace hb1 := hb1.keep k5 (fun f => f)
  have hb1lt := hb1.lt
  replace hb3 := hb3.keep k5 (fun f => f)
  have hb3lt := hb3.lt
  replace hK0 := Keep.tr hK0 (Keep.ofNone k5); have hzhK0 := Keep.size hK0
  have hb5lt := hb5.lt
  refine OI_end rfl ?_
  refine X_then ?_
  refine V_seq ?_
  refine V_seq ?_
  refine V_region ?_
  refine OI_static 2 [(0, .func (.func gf) #[] caps), (2, .pointer (some ⟨b1, 0, none⟩)), (3, .pointer (some ⟨b3, 0, none⟩)), (4, .pointer (some ⟨b5, 0, none⟩)), (10, .bool false)] (by kernel_rfl) ?_
  refine OI_end rfl ?_
  refine X_then ?_
  refine V_false rfl ?_
  refine V_skip ?_
  refine X_then ?_
  refine V_seq ?_
  refine V_region ?_
  refine OI_alloc 30 (.slice none 0 0) [.slice none 0 0] (some 5) (by kernel_rfl) (by kernel_rfl) (by kernel_rfl) ?_
  intro b7 w7 e7 hb7 k7 z7
  have hsz8 := Keep.size k7
  replace hb1 := hb1.keep k7 (fun f => f)
  have hb1lt := hb1.lt
  replace hb3 := hb3.keep k7 (fun f => f)
  have hb3lt := hb3.lt
  replace hb5 := hb5.keep k7 (fun f => f)
  have hb5lt := hb5.lt
  replace hK0 := Keep.tr hK0 (Keep.ofNone k7); have hzhK0 := Keep.size hK0
  have hb7lt := hb7.lt
  refine OI_alloc 30 (.slice none 0 0) [.slice none 0 0] (some 6) (by kernel_rfl) (by kernel_rfl) (by kernel_rfl) ?_
  intro b9 w9 e9 hb9 k9 z9
  have hsz10 := Keep.size k9
  replace hb1 := hb1.keep k9 (fun f => f)
  have hb1lt := hb1.lt
  replace hb3 := hb3.keep k9 (fun f => f)
  have hb3lt := hb3.lt
  replace hb5 := hb5.keep k9 (fun f => f)
  have hb5lt := hb5.lt
  replace hb7 := hb7.keep k9 (fun f => f)
  have hb7lt := hb7.lt
  replace hK0 := Keep.tr hK0 (Keep.ofNone k9); have hzhK0 := Keep.size hK0
  have hb9lt := hb9.lt
  refine OI_end rfl ?_
  refine X_then ?_
  refine V_seq ?_
  refine V_seq ?_
  refine V_region ?_
  refine OI_static 1 [(2, .pointer (some ⟨b1, 0, none⟩)), (3, .pointer (some ⟨b3, 0, none⟩)), (4, .pointer (some ⟨b5, 0, none⟩)), (5, .pointer (some ⟨b7, 0, none⟩)), (6, .pointer (some ⟨b9, 0, none⟩)), (11, .func (.func gf) #[] caps)] (by kernel_rfl) ?_
  refine OI_end rfl ?_
  refine X_then ?_
  refine V_block ?_
  refine V_pick [(2, .pointer (some ⟨b1, 0, none⟩)), (3, .pointer (some ⟨b3, 0, none⟩)), (4, .pointer (some ⟨b5, 0, none⟩)), (5, .pointer (some ⟨b7, 0, none⟩)), (6, .pointer (some ⟨b9, 0, none⟩)), (11, .func (.func gf) #[] caps)] rfl ?_
  have hN0 : w.heap.size ≤ w9.heap.size := Keep.size hK0
  refine V_range2 (gf := gf) (caps := caps) (m := xs.length) (by kernel_rfl) (by kernel_rfl) hb (hit) (hPq _ _ hPre (Keep.ofNone hK0)) (fun W W' h k => hPq _ _ h (k.mono fun _ _ h => lb_mono (by omega) h)) (enc2_size xs) (fun M1 k W => ∃ Ak : Option Addr, ∃ capk : Nat, ∃ Av : Option Addr, ∃ capv : Nat, (Blk W b1 [.slice none 0 0] 30) ∧ (Blk W b3 [.slice none 0 0] 30) ∧ (Blk W b5 [.bool false] 4) ∧ (Keep none_ w W) ∧ (Blk W b7 [.slice Ak (((xs.take k).map (·.1)).length) capk] 30) ∧ (Blk W b9 [.slice Av (((xs.take k).map (·.2)).length) capv] 30) ∧ (SlT W 1 intc Ak capk ((xs.take k).map (·.1))) ∧ (SlT W 1 intc Av capv ((xs.take k).map (·.2))) ∧ (∀ q, inA Ak q → M1 ≤ q) ∧ (∀ q, inA Av q → M1 ≤ q) ∧ (∀ q, inA Ak q → ¬ inA Av q)) (fun M1 c k W => False) (fun M1 k W W' h hk => by obtain ⟨Ak, capk, Av, capv, jb1, jb3, jb5, jhK0, jb7, jb9, jAk, jAv, ownk, ownv, hdis⟩ := h; exact ⟨Ak, capk, Av, capv, jb1.quiet hk, jb3.quiet hk, jb5.quiet hk, jhK0.quiet hk (by omega), jb7.quiet hk, jb9.quiet hk, jAk.quiet hk, jAv.quiet hk, ownk, ownv, hdis⟩) (fun _ _ _ _ _ h _ => h.elim) (fun M1 hM1 => ⟨none, 0, none, 0, hb1, hb3, hb5, hK0, hb7, hb9, SlT.nil _ _ _, SlT.nil _ _ _, fun q h => (inA_none h).elim, fun q h => (inA_none h).elim, fun q h => (inA_none h).elim⟩) (fun M1 k W h => by obtain ⟨Ak, capk, Av, capv, jb1, jb3, jb5, jhK0, jb7, jb9, jAk, jAv, ownk, ownv, hdis⟩ := h; exact hOk _ jhK0) ?_ ?_ (fun _ _ _ _ _ _ _ _ h _ => h.elim)
  · skip
    intro lp D M1 k W hD hl hM hMW hkm ⟨Ak, capk, Av, capv, jb1, jb3, jb5, jhK0, jb7, jb9, jAk, jAv, ownk, ownv, hdis⟩ ⟨rr, hrr⟩ hDD
    have hzjhK0 := Keep.size jhK0
    have hb1lt := jb1.lt
    have hb3lt := jb3.lt
    have hb5lt := jb5.lt
    have hb7lt := jb7.lt
    have hb9lt := jb9.lt
    have ltjAk := SlT.lt jAk
    have ltjAv := SlT.lt jAv
    obtain ⟨x, hx⟩ : ∃ x, xs[k]? = some x := ⟨_, List.getElem?_eq_getElem (by omega)⟩
    rw [enc2_at hx]
    have hlk : ((xs.take k).map (·.1)).length = k := by simp; omega
    have hlv : ((xs.take k).map (·.2)).length = k := by simp; omega
    have hs1 : (xs.take (k + 1)).map (·.1) = (xs.take k).map (·.1) ++ [x.1] := by obtain ⟨h1, h2⟩ := List.getElem?_eq_some_iff.1 hx; rw [List.take_succ_eq_append_getElem h1, h2]; simp
    have hs2 : (xs.take (k + 1)).map (·.2) = (xs.take k).map (·.2) ++ [x.2] := by obtain ⟨h1, h2⟩ := List.getElem?_eq_some_iff.1 hx; rw [List.take_succ_eq_append_getElem h1, h2]; simp
    refine V_pick [(2, .pointer (some ⟨b1, 0, none⟩)), (3, .pointer (some ⟨b3, 0, none⟩)), (4, .pointer (some ⟨b5, 0, none⟩)), (5, .pointer (some ⟨b7, 0, none⟩)), (6, .pointer (some ⟨b9, 0, none⟩)), (12, .int .i64 x.1), (13, .int .i64 x.2)] rfl ?_
    have hfen : Keep (fen w9.heap.size M1) W W := Keep.refl _ _
    have hzhfen := Keep.size hfen
    refine V_seq ?_
    refine V_region ?_
    refine OI_static 1 [(2, .pointer (some ⟨b1, 0, none⟩)), (3, .pointer (some ⟨b3, 0, none⟩)), (4, .pointer (some ⟨b5, 0, none⟩)), (5, .pointer (some ⟨b7, 0, none⟩)), (6, .pointer (some ⟨b9, 0, none⟩)), (7, .int .i64 x.1), (13, .int .i64 x.2)] (by kernel_rfl) ?_
    refine OI_end rfl ?_
    refine X_then ?_
    refine V_region ?_
    refine OI_static 1 [(2, .pointer (some ⟨b1, 0, none⟩)), (3, .pointer (some ⟨b3, 0, none⟩)), (4, .pointer (some ⟨b5, 0, none⟩)), (5, .pointer (some ⟨b7, 0, none⟩)), (6, .pointer (some ⟨b9, 0, none⟩)), (7, .int .i64 x.1), (8, .int .i64 x.2)] (by kernel_rfl) ?_
    refine OI_end rfl ?_
    refine X_begin2 hfen ?_
    intro W2 hk2 ⟨r2, hr2⟩ hD2
    have hsz11 := Keep.size hk2
    replace jb1 := Blk.quiet jb1 hk2
    have hb1lt := jb1.lt
    replace jb3 := Blk.quiet jb3 hk2
    have hb3lt := jb3.lt
    replace jb5 := Blk.quiet jb5 hk2
    have hb5lt := jb5.lt
    replace jb7 := Blk.quiet jb7 hk2
    have hb7lt := jb7.lt
    replace jb9 := Blk.quiet jb9 hk2
    have hb9lt := jb9.lt
    replace jAk := SlT.quiet jAk hk2
    replace jAv := SlT.quiet jAv hk2
    replace jhK0 := Keep.quiet jhK0 hk2 (by omega); have hzjhK0 := Keep.size jhK0
    have hzhk2 := Keep.size hk2
    have hfenb : Keep (fen w9.heap.size M1) W2 W2 := Keep.refl _ _
    have hzhfenb := Keep.size hfenb
    refine V_block ?_
    refine V_seq ?_
    refine V_draws (acts [2, 3, 6, 7, 8, 9]) (fun q => M1 ≤ q) [[1, 2, 0, 3, 5, 6, 4, 7, 8, 9], [1, 2, 5, 6, 0, 3, 4, 7, 8, 9], [5, 6, 1, 2, 0, 3, 4, 7, 8, 9]] (by kernel_rfl) (by repeat first | exact (by first | exact sure_postM | exact sure_rQ2 | exact sure_no | exact sure_body (by rintro _ _ ⟨h, _⟩; exact ⟨_, h⟩)) | refine sure_then ?_ | refine sure_block ?_ | refine sure_join ?_) (by kernel_rfl) ?_
    intro w13 hk12 he14 L hL15
    have hsz16 := Keep.size hk12
    replace jb1 := jb1.keep hk12 (fun f => f)
    have hb1lt := jb1.lt
    replace jb3 := jb3.keep hk12 (fun f => f)
    have hb3lt := jb3.lt
    replace jb5 := jb5.keep hk12 (fun f => f)
    have hb5lt := jb5.lt
    replace jb7 := jb7.keep hk12 (fun f => f)
    have hb7lt := jb7.lt
    replace jb9 := jb9.keep hk12 (fun f => f)
    have hb9lt := jb9.lt
    replace jAk := SlT.keep0 jAk hk12
    replace jAv := SlT.keep0 jAv hk12
    replace jhK0 := Keep.tr jhK0 (Keep.ofNone hk12); have hzjhK0 := Keep.size jhK0
    replace hfenb := Keep.tr hfenb (Keep.ofNone hk12); have hzhfenb := Keep.size hfenb
    have qjb1 := jb1
    have qjb3 := jb3
    have qjb5 := jb5
    have qjb7 := jb7
    have qjb9 := jb9
    have K17 : Keep (fun q => M1 ≤ q) w13 w13 := Keep.refl _ _
    simp only [List.mem_cons, List.not_mem_nil, or_false] at hL15
    rcases hL15 with rfl | rfl | rfl
    · skip
      refine GI_static [2, 0, 3, 5, 6, 4, 7, 8, 9] [(2, .pointer (some ⟨b1, 0, none⟩)), (3, .pointer (some ⟨b3, 0, none⟩)), (4, .pointer (some ⟨b5, 0, none⟩)), (5, .pointer (some ⟨b7, 0, none⟩)), (6, .pointer (some ⟨b9, 0, none⟩)), (8, .int .i64 x.2), (15, .int .i64 x.1)] (by kernel_rfl) ?_
      refine GI_slit (E := 3) (zv := .int .i64 0) (sz := 1) (by_ := 8) 30 1 #[(0, (Operand.tmp 15))] [.int .i64 x.1] [.int .i64 x.1] (some 16) (by kernel_rfl) (by kernel_rfl) K17 (by kernel_rfl) (by kernel_rfl) (by omega) rfl (by omega) (by intro v hv; simp only [List.mem_cons, List.not_mem_nil, or_false] at hv; rcases hv with rfl <;> rfl) (by kernel_rfl) rfl ?_
      intro b18 w18 e18 hb18 k18 z18 K19
      have hsz20 := Keep.size k18
      replace jb1 := jb1.keep k18 (fun f => f)
      have hb1lt := jb1.lt
      replace jb3 := jb3.keep k18 (fun f => f)
      have hb3lt := jb3.lt
      replace jb5 := jb5.keep k18 (fun f => f)
      have hb5lt := jb5.lt
      replace jb7 := jb7.keep k18 (fun f => f)
      have hb7lt := jb7.lt
      replace jb9 := jb9.keep k18 (fun f => f)
      have hb9lt := jb9.lt
      replace jAk := SlT.keep0 jAk k18
      replace jAv := SlT.keep0 jAv k18
      replace jhK0 := Keep.tr jhK0 (Keep.ofNone k18); have hzjhK0 := Keep.size jhK0
      replace hfenb := Keep.tr hfenb (Keep.ofNone k18); have hzhfenb := Keep.size hfenb
      have hb18lt := hb18.lt
      refine GI_cell 30 (.tmp 5) 0 (.slice Ak (((xs.take k).map (·.1)).length) capk) (some 14) (by kernel_rfl) (by kernel_rfl) (by kernel_rfl) qjb7 (by show ¬ (M1 ≤ b7); omega) (m := 1) (by kernel_rfl) rfl ?_
      refine GI_append (t := 30) (at2 := 30) (E := 3) (E2 := 3) (sz := 1) (by_ := 8) (zv := .int .i64 0) (m := ((xs.take k).map (·.1)).length) (k := 1) (.tmp 14) (.tmp 16) (.slice Ak (((xs.take k).map (·.1)).length) capk) (.slice (some ⟨b18, 0, none⟩) 1 1) (some 17) (by kernel_rfl) (by kernel_rfl) (by kernel_rfl) (by kernel_rfl) (by kernel_rfl) (by kernel_rfl) (by kernel_rfl) (by kernel_rfl) (SlT.slr jAk) (slr_one hb18 (intc_len x.1)) (intc_one x.1) (by first | omega | (simp only [List.length_nil]; omega)) (by omega) (by first | omega | (simp only [List.length_nil]; omega)) (by omega) ?_
      intro vv9 w21 hap
      obtain ⟨A21, cap21, rfl, hA21, hk21, own21x⟩ := app_one (f := intc) (xs := ((xs.take k).map (·.1))) (x := x.1) (A := Ak) (cap := capk) hap (fun x _ => intc_len x) (intc_len _)
      have own21 : ∀ q, inA A21 q → M1 ≤ q := fun q hq => by rcases own21x q hq with h | h; exact ownk q h; (show M1 ≤ q; omega)
      refine ⟨Keep.fresh K19 hk21 (by intro i hi hs; have h1 := ownk i hs; have h2 := ltjAk i hs; show M1 ≤ i; omega), ?_⟩
      have K22 := Keep.fresh K19 hk21 (by intro i hi hs; have h1 := ownk i hs; have h2 := ltjAk i hs; show M1 ≤ i; omega)
      have hsz23 := Keep.size hk21
      replace jb1 := jb1.keep hk21 (fun hs => by have h1 := ownk _ hs; have h2 := ltjAk _ hs; omega)
      have hb1lt := jb1.lt
      replace jb3 := jb3.keep hk21 (fun hs => by have h1 := ownk _ hs; have h2 := ltjAk _ hs; omega)
      have hb3lt := jb3.lt
      replace jb5 := jb5.keep hk21 (fun hs => by have h1 := ownk _ hs; have h2 := ltjAk _ hs; omega)
      have hb5lt := jb5.lt
      replace jb7 := jb7.keep hk21 (fun hs => by have h1 := ownk _ hs; have h2 := ltjAk _ hs; omega)
      have hb7lt := jb7.lt
      replace jb9 := jb9.keep hk21 (fun hs => by have h1 := ownk _ hs; have h2 := ltjAk _ hs; omega)
      have hb9lt := jb9.lt
      replace jAv := SlT.keep jAv hk21 (fun q hq hs => hdis q hs hq)
      replace jhK0 := Keep.fresh jhK0 hk21 (by intro i hi hs; first | exact hs | (exfalso; have h1 := ownk i hs; have h2 := ltjAk i hs; omega) | (have h1 := ownk i hs; have h2 := ltjAk i hs; show _ ∨ _; omega)); have hzjhK0 := Keep.size jhK0
      replace hfenb := Keep.fresh hfenb hk21 (by intro i hi hs; have h1 := ownk i hs; have h2 := ltjAk i hs; show _ ∨ _; omega); have hzhfenb := Keep.size hfenb
      have lt21 := SlT.lt hA21
      have hds24 : ∀ q, inA A21 q → ¬ inA Av q := fun q h1 h2 => by rcases own21x q h1 with h | h; exact hdis q h h2; (have h3 := ltjAv q h2; omega)
      refine GI_static [6, 4, 7, 8, 9] [(2, .pointer (some ⟨b1, 0, none⟩)), (3, .pointer (some ⟨b3, 0, none⟩)), (4, .pointer (some ⟨b5, 0, none⟩)), (5, .pointer (some ⟨b7, 0, none⟩)), (6, .pointer (some ⟨b9, 0, none⟩)), (17, .slice A21 ((((xs.take k).map (·.1)) ++ [x.1]).length) cap21), (19, .int .i64 x.2)] (by kernel_rfl) ?_
      refine GI_slit (E := 3) (zv := .int .i64 0) (sz := 1) (by_ := 8) 30 1 #[(0, (Operand.tmp 19))] [.int .i64 x.2] [.int .i64 x.2] (some 20) (by kernel_rfl) (by kernel_rfl) K22 (by kernel_rfl) (by kernel_rfl) (by omega) rfl (by omega) (by intro v hv; simp only [List.mem_cons, List.not_mem_nil, or_false] at hv; rcases hv with rfl <;> rfl) (by kernel_rfl) rfl ?_
      intro b25 w25 e25 hb25 k25 z25 K26
      have hsz27 := Keep.size k25
      replace jb1 := jb1.keep k25 (fun f => f)
      have hb1lt := jb1.lt
      replace jb3 := jb3.keep k25 (fun f => f)
      have hb3lt := jb3.lt
      replace jb5 := jb5.keep k25 (fun f => f)
      have hb5lt := jb5.lt
      replace jb7 := jb7.keep k25 (fun f => f)
      have hb7lt := jb7.lt
      replace jb9 := jb9.keep k25 (fun f => f)
      have hb9lt := jb9.lt
      replace jAv := SlT.keep0 jAv k25
      replace hA21 := SlT.keep0 hA21 k25
      replace jhK0 := Keep.tr jhK0 (Keep.ofNone k25); have hzjhK0 := Keep.size jhK0
      replace hfenb := Keep.tr hfenb (Keep.ofNone k25); have hzhfenb := Keep.size hfenb
      have hb25lt := hb25.lt
      refine GI_cell 30 (.tmp 6) 0 (.slice Av (((xs.take k).map (·.2)).length) capv) (some 18) (by kernel_rfl) (by kernel_rfl) (by kernel_rfl) qjb9 (by show ¬ (M1 ≤ b9); omega) (m := 1) (by kernel_rfl) rfl ?_
      refine GI_final 7 (by kernel_rfl) (by kernel_rfl) ?_
      refine OI_append (t := 30) (at2 := 30) (E := 3) (E2 := 3) (sz := 1) (by_ := 8) (zv := .int .i64 0) (m := ((xs.take k).map (·.2)).length) (k := 1) (.tmp 18) (.tmp 20) (.slice Av (((xs.take k).map (·.2)).length) capv) (.slice (some ⟨b25, 0, none⟩) 1 1) (some 21) (by kernel_rfl) (by kernel_rfl) (by kernel_rfl) (by kernel_rfl) (by kernel_rfl) (by kernel_rfl) (by kernel_rfl) (SlT.slr jAv) (slr_one hb25 (intc_len x.2)) (intc_one x.2) (by first | omega | (simp only [List.length_nil]; omega)) (by omega) (by first | omega | (simp only [List.length_nil]; omega)) (by omega) ?_
      intro vv9 w28 hap
      obtain ⟨A28, cap28, rfl, hA28, hk28, own28x⟩ := app_one (f := intc) (xs := ((xs.take k).map (·.2))) (x := x.2) (A := Av) (cap := capv) hap (fun x _ => intc_len x) (intc_len _)
      have own28 : ∀ q, inA A28 q → M1 ≤ q := fun q hq => by rcases own28x q hq with h | h; exact ownv q h; (show M1 ≤ q; omega)
      have hsz29 := Keep.size hk28
      replace jb1 := jb1.keep hk28 (fun hs => by have h1 := ownv _ hs; have h2 := ltjAv _ hs; omega)
      have hb1lt := jb1.lt
      replace jb3 := jb3.keep hk28 (fun hs => by have h1 := ownv _ hs; have h2 := ltjAv _ hs; omega)
      have hb3lt := jb3.lt
      replace jb5 := jb5.keep hk28 (fun hs => by have h1 := ownv _ hs; have h2 := ltjAv _ hs; omega)
      have hb5lt := jb5.lt
      replace jb7 := jb7.keep hk28 (fun hs => by have h1 := ownv _ hs; have h2 := ltjAv _ hs; omega)
      have hb7lt := jb7.lt
      replace jb9 := jb9.keep hk28 (fun hs => by have h1 := ownv _ hs; have h2 := ltjAv _ hs; omega)
      have hb9lt := jb9.lt
      replace hA21 := SlT.keep hA21 hk28 (fun q hq hs => (fun q h1 h2 => hds24 q h2 h1) q hs hq)
      replace jhK0 := Keep.fresh jhK0 hk28 (by intro i hi hs; first | exact hs | (exfalso; have h1 := ownv i hs; have h2 := ltjAv i hs; omega) | (have h1 := ownv i hs; have h2 := ltjAv i hs; show _ ∨ _; omega)); have hzjhK0 := Keep.size jhK0
      replace hfenb := Keep.fresh hfenb hk28 (by intro i hi hs; have h1 := ownv i hs; have h2 := ltjAv i hs; show _ ∨ _; omega); have hzhfenb := Keep.size hfenb
      have lt28 := SlT.lt hA28
      have hds30 : ∀ q, inA A21 q → ¬ inA A28 q := fun q h1 h2 => by rcases own28x q h2 with h | h; exact hds24 q h1 h; (have h3 := lt21 q h1; omega)
      refine OI_set (m := 1) (kd := false) 30 (.tmp 5) (.tmp 17) 0 (.slice A21 ((((xs.take k).map (·.1)) ++ [x.1]).length) cap21) [.slice A21 ((((xs.take k).map (·.1)) ++ [x.1]).length) cap21] none (by kernel_rfl) (by kernel_rfl) (by kernel_rfl) jb7 (by kernel_rfl) (by kernel_rfl) (by kernel_rfl) (Nat.le_of_ble_eq_true (by kernel_rfl)) (by simp [Value.oneCell']) ?_
      intro w31 hb7_34 hk32 hz33
      replace hb7_34 : Blk w31 b7 [.slice A21 ((((xs.take k).map (·.1)) ++ [x.1]).length) cap21] 30 := hb7_34
      have hsz35 := Keep.size hk32
      replace jb1 := jb1.keep hk32 (by show ¬ (_ = _); omega)
      have hb1lt := jb1.lt
      replace jb3 := jb3.keep hk32 (by show ¬ (_ = _); omega)
      have hb3lt := jb3.lt
      replace jb5 := jb5.keep hk32 (by show ¬ (_ = _); omega)
      have hb5lt := jb5.lt
      replace jb9 := jb9.keep hk32 (by show ¬ (_ = _); omega)
      have hb9lt := jb9.lt
      replace hA21 := SlT.keep hA21 hk32 (fun q hq hs => by have hs : q = b7 := hs; have g0 := own21 q hq; have g1 := lt21 q hq; omega)
      replace hA28 := SlT.keep hA28 hk32 (fun q hq hs => by have hs : q = b7 := hs; have g0 := own28 q hq; have g1 := lt28 q hq; omega)
      replace jhK0 := Keep.fresh jhK0 hk32 (by intro i hi hs; first | exact hs | exact Or.inl hs | exact Or.inr hs | (exfalso; have hs2 : i = b7 := hs; omega)); have hzjhK0 := Keep.size jhK0
      replace hfenb := Keep.fresh hfenb hk32 (by intro i hi hs; have hs2 : i = b7 := hs; show _ ∨ _; omega); have hzhfenb := Keep.size hfenb
      refine OI_set (m := 1) (kd := false) 30 (.tmp 6) (.tmp 21) 0 (.slice A28 ((((xs.take k).map (·.2)) ++ [x.2]).length) cap28) [.slice A28 ((((xs.take k).map (·.2)) ++ [x.2]).length) cap28] none (by kernel_rfl) (by kernel_rfl) (by kernel_rfl) jb9 (by kernel_rfl) (by kernel_rfl) (by kernel_rfl) (Nat.le_of_ble_eq_true (by kernel_rfl)) (by simp [Value.oneCell']) ?_
      intro w36 hb9_39 hk37 hz38
      replace hb9_39 : Blk w36 b9 [.slice A28 ((((xs.take k).map (·.2)) ++ [x.2]).length) cap28] 30 := hb9_39
      have hsz40 := Keep.size hk37
      replace jb1 := jb1.keep hk37 (by show ¬ (_ = _); omega)
      have hb1lt := jb1.lt
      replace jb3 := jb3.keep hk37 (by show ¬ (_ = _); omega)
      have hb3lt := jb3.lt
      replace jb5 := jb5.keep hk37 (by show ¬ (_ = _); omega)
      have hb5lt := jb5.lt
      replace hb7_34 := hb7_34.keep hk37 (by show ¬ (_ = _); omega)
      have hb7lt := hb7_34.lt
      replace hA21 := SlT.keep hA21 hk37 (fun q hq hs => by have hs : q = b9 := hs; have g0 := own21 q hq; have g1 := lt21 q hq; omega)
      replace hA28 := SlT.keep hA28 hk37 (fun q hq hs => by have hs : q = b9 := hs; have g0 := own28 q hq; have g1 := lt28 q hq; omega)
      replace jhK0 := Keep.fresh jhK0 hk37 (by intro i hi hs; first | exact hs | exact Or.inl hs | exact Or.inr hs | (exfalso; have hs2 : i = b9 := hs; omega)); have hzjhK0 := Keep.size jhK0
      replace hfenb := Keep.fresh hfenb hk37 (by intro i hi hs; have hs2 : i = b9 := hs; show _ ∨ _; omega); have hzhfenb := Keep.size hfenb
      refine OI_end rfl ?_
      refine X_then ?_
      refine V_seq ?_
      refine V_region ?_
      refine OI_cell 30 (.tmp 5) 0 (.slice A21 ((((xs.take k).map (·.1)) ++ [x.1]).length) cap21) (some 22) (by kernel_rfl) (by kernel_rfl) hb7_34 (m := 1) (by kernel_rfl) rfl ?_
      refine OI_static 3 [(2, .pointer (some ⟨b1, 0, none⟩)), (3, .pointer (some ⟨b3, 0, none⟩)), (4, .pointer (some ⟨b5, 0, none⟩)), (24, .bool (decide ((((((xs.take k).map (·.1)) ++ [x.1]).length : Nat) : Int) > 1000)))] (by kernel_rfl) ?_
      refine OI_end rfl ?_
      refine X_then ?_
      refine V_if ((((((xs.take k).map (·.1)) ++ [x.1]).length : Nat) : Int) > 1000) (by kernel_rfl) (fun hc41 => ?_) (fun hc41 => ?_)
      · skip
        exact (by simp only [List.length_append, List.length_cons, List.length_nil] at hc41; omega : False).elim
      · skip
        refine V_skip ?_
        refine X_block ?_
        exact fun a _ => ⟨hfenb, A21, cap21, A28, cap28, jb1, jb3, jb5, jhK0, by rw [hs1]; exact hb7_34, by rw [hs2]; exact hb9_39, by rw [hs1]; exact hA21, by rw [hs2]; exact hA28, own21, own28, hds30⟩
    · skip
      refine GI_static [2, 5, 6, 0, 3, 4, 7, 8, 9] [(2, .pointer (some ⟨b1, 0, none⟩)), (3, .pointer (some ⟨b3, 0, none⟩)), (4, .pointer (some ⟨b5, 0, none⟩)), (5, .pointer (some ⟨b7, 0, none⟩)), (6, .pointer (some ⟨b9, 0, none⟩)), (8, .int .i64 x.2), (15, .int .i64 x.1)] (by kernel_rfl) ?_
      refine GI_slit (E := 3) (zv := .int .i64 0) (sz := 1) (by_ := 8) 30 1 #[(0, (Operand.tmp 15))] [.int .i64 x.1] [.int .i64 x.1] (some 16) (by kernel_rfl) (by kernel_rfl) K17 (by kernel_rfl) (by kernel_rfl) (by omega) rfl (by omega) (by intro v hv; simp only [List.mem_cons, List.not_mem_nil, or_false] at hv; rcases hv with rfl <;> rfl) (by kernel_rfl) rfl ?_
      intro b42 w42 e42 hb42 k42 z42 K43
      have hsz44 := Keep.size k42
      replace jb1 := jb1.keep k42 (fun f => f)
      have hb1lt := jb1.lt
      replace jb3 := jb3.keep k42 (fun f => f)
      have hb3lt := jb3.lt
      replace jb5 := jb5.keep k42 (fun f => f)
      have hb5lt := jb5.lt
      replace jb7 := jb7.keep k42 (fun f => f)
      have hb7lt := jb7.lt
      replace jb9 := jb9.keep k42 (fun f => f)
      have hb9lt := jb9.lt
      replace jAk := SlT.keep0 jAk k42
      replace jAv := SlT.keep0 jAv k42
      replace jhK0 := Keep.tr jhK0 (Keep.ofNone k42); have hzjhK0 := Keep.size jhK0
      replace hfenb := Keep.tr hfenb (Keep.ofNone k42); have hzhfenb := Keep.size hfenb
      have hb42lt := hb42.lt
      refine GI_static [6, 0, 3, 4, 7, 8, 9] [(2, .pointer (some ⟨b1, 0, none⟩)), (3, .pointer (some ⟨b3, 0, none⟩)), (4, .pointer (some ⟨b5, 0, none⟩)), (5, .pointer (some ⟨b7, 0, none⟩)), (6, .pointer (some ⟨b9, 0, none⟩)), (16, .slice (some ⟨b42, 0, none⟩) 1 1), (19, .int .i64 x.2)] (by kernel_rfl) ?_
      refine GI_slit (E := 3) (zv := .int .i64 0) (sz := 1) (by_ := 8) 30 1 #[(0, (Operand.tmp 19))] [.int .i64 x.2] [.int .i64 x.2] (some 20) (by kernel_rfl) (by kernel_rfl) K43 (by kernel_rfl) (by kernel_rfl) (by omega) rfl (by omega) (by intro v hv; simp only [List.mem_cons, List.not_mem_nil, or_false] at hv; rcases hv with rfl <;> rfl) (by kernel_rfl) rfl ?_
      intro b45 w45 e45 hb45 k45 z45 K46
      have hsz47 := Keep.size k45
      replace jb1 := jb1.keep k45 (fun f => f)
      have hb1lt := jb1.lt
      replace jb3 := jb3.keep k45 (fun f => f)
      have hb3lt := jb3.lt
      replace jb5 := jb5.keep k45 (fun f => f)
      have hb5lt := jb5.lt
      replace jb7 := jb7.keep k45 (fun f => f)
      have hb7lt := jb7.lt
      replace jb9 := jb9.keep k45 (fun f => f)
      have hb9lt := jb9.lt
      replace hb42 := hb42.keep k45 (fun f => f)
      have hb42lt := hb42.lt
      replace jAk := SlT.keep0 jAk k45
      replace jAv := SlT.keep0 jAv k45
      replace jhK0 := Keep.tr jhK0 (Keep.ofNone k45); have hzjhK0 := Keep.size jhK0
      replace hfenb := Keep.tr hfenb (Keep.ofNone k45); have hzhfenb := Keep.size hfenb
      have hb45lt := hb45.lt
      refine GI_cell 30 (.tmp 5) 0 (.slice Ak (((xs.take k).map (·.1)).length) capk) (some 14) (by kernel_rfl) (by kernel_rfl) (by kernel_rfl) qjb7 (by show ¬ (M1 ≤ b7); omega) (m := 1) (by kernel_rfl) rfl ?_
      refine GI_append (t := 30) (at2 := 30) (E := 3) (E2 := 3) (sz := 1) (by_ := 8) (zv := .int .i64 0) (m := ((xs.take k).map (·.1)).length) (k := 1) (.tmp 14) (.tmp 16) (.slice Ak (((xs.take k).map (·.1)).length) capk) (.slice (some ⟨b42, 0, none⟩) 1 1) (some 17) (by kernel_rfl) (by kernel_rfl) (by kernel_rfl) (by kernel_rfl) (by kernel_rfl) (by kernel_rfl) (by kernel_rfl) (by kernel_rfl) (SlT.slr jAk) (slr_one hb42 (intc_len x.1)) (intc_one x.1) (by first | omega | (simp only [List.length_nil]; omega)) (by omega) (by first | omega | (simp only [List.length_nil]; omega)) (by omega) ?_
      intro vv9 w48 hap
      obtain ⟨A48, cap48, rfl, hA48, hk48, own48x⟩ := app_one (f := intc) (xs := ((xs.take k).map (·.1))) (x := x.1) (A := Ak) (cap := capk) hap (fun x _ => intc_len x) (intc_len _)
      have own48 : ∀ q, inA A48 q → M1 ≤ q := fun q hq => by rcases own48x q hq with h | h; exact ownk q h; (show M1 ≤ q; omega)
      refine ⟨Keep.fresh K46 hk48 (by intro i hi hs; have h1 := ownk i hs; have h2 := ltjAk i hs; show M1 ≤ i; omega), ?_⟩
      have K49 := Keep.fresh K46 hk48 (by intro i hi hs; have h1 := ownk i hs; have h2 := ltjAk i hs; show M1 ≤ i; omega)
      have hsz50 := Keep.size hk48
      replace jb1 := jb1.keep hk48 (fun hs => by have h1 := ownk _ hs; have h2 := ltjAk _ hs; omega)
      have hb1lt := jb1.lt
      replace jb3 := jb3.keep hk48 (fun hs => by have h1 := ownk _ hs; have h2 := ltjAk _ hs; omega)
      have hb3lt := jb3.lt
      replace jb5 := jb5.keep hk48 (fun hs => by have h1 := ownk _ hs; have h2 := ltjAk _ hs; omega)
      have hb5lt := jb5.lt
      replace jb7 := jb7.keep hk48 (fun hs => by have h1 := ownk _ hs; have h2 := ltjAk _ hs; omega)
      have hb7lt := jb7.lt
      replace jb9 := jb9.keep hk48 (fun hs => by have h1 := ownk _ hs; have h2 := ltjAk _ hs; omega)
      have hb9lt := jb9.lt
      replace hb45 := hb45.keep hk48 (fun hs => by have h1 := ownk _ hs; have h2 := ltjAk _ hs; omega)
      have hb45lt := hb45.lt
      replace jAv := SlT.keep jAv hk48 (fun q hq hs => hdis q hs hq)
      replace jhK0 := Keep.fresh jhK0 hk48 (by intro i hi hs; first | exact hs | (exfalso; have h1 := ownk i hs; have h2 := ltjAk i hs; omega) | (have h1 := ownk i hs; have h2 := ltjAk i hs; show _ ∨ _; omega)); have hzjhK0 := Keep.size jhK0
      replace hfenb := Keep.fresh hfenb hk48 (by intro i hi hs; have h1 := ownk i hs; have h2 := ltjAk i hs; show _ ∨ _; omega); have hzhfenb := Keep.size hfenb
      have lt48 := SlT.lt hA48
      have hds51 : ∀ q, inA A48 q → ¬ inA Av q := fun q h1 h2 => by rcases own48x q h1 with h | h; exact hdis q h h2; (have h3 := ltjAv q h2; omega)
      refine GI_cell 30 (.tmp 6) 0 (.slice Av (((xs.take k).map (·.2)).length) capv) (some 18) (by kernel_rfl) (by kernel_rfl) (by kernel_rfl) qjb9 (by show ¬ (M1 ≤ b9); omega) (m := 1) (by kernel_rfl) rfl ?_
      refine GI_final 7 (by kernel_rfl) (by kernel_rfl) ?_
      refine OI_append (t := 30) (at2 := 30) (E := 3) (E2 := 3) (sz := 1) (by_ := 8) (zv := .int .i64 0) (m := ((xs.take k).map (·.2)).length) (k := 1) (.tmp 18) (.tmp 20) (.slice Av (((xs.take k).map (·.2)).length) capv) (.slice (some ⟨b45, 0, none⟩) 1 1) (some 21) (by kernel_rfl) (by kernel_rfl) (by kernel_rfl) (by kernel_rfl) (by kernel_rfl) (by kernel_rfl) (by kernel_rfl) (SlT.slr jAv) (slr_one hb45 (intc_len x.2)) (intc_one x.2) (by first | omega | (simp only [List.length_nil]; omega)) (by omega) (by first | omega | (simp only [List.length_nil]; omega)) (by omega) ?_
      intro vv9 w52 hap
      obtain ⟨A52, cap52, rfl, hA52, hk52, own52x⟩ := app_one (f := intc) (xs := ((xs.take k).map (·.2))) (x := x.2) (A := Av) (cap := capv) hap (fun x _ => intc_len x) (intc_len _)
      have own52 : ∀ q, inA A52 q → M1 ≤ q := fun q hq => by rcases own52x q hq with h | h; exact ownv q h; (show M1 ≤ q; omega)
      have hsz53 := Keep.size hk52
      replace jb1 := jb1.keep hk52 (fun hs => by have h1 := ownv _ hs; have h2 := ltjAv _ hs; omega)
      have hb1lt := jb1.lt
      replace jb3 := jb3.keep hk52 (fun hs => by have h1 := ownv _ hs; have h2 := ltjAv _ hs; omega)
      have hb3lt := jb3.lt
      replace jb5 := jb5.keep hk52 (fun hs => by have h1 := ownv _ hs; have h2 := ltjAv _ hs; omega)
      have hb5lt := jb5.lt
      replace jb7 := jb7.keep hk52 (fun hs => by have h1 := ownv _ hs; have h2 := ltjAv _ hs; omega)
      have hb7lt := jb7.lt
      replace jb9 := jb9.keep hk52 (fun hs => by have h1 := ownv _ hs; have h2 := ltjAv _ hs; omega)
      have hb9lt := jb9.lt
      replace hA48 := SlT.keep hA48 hk52 (fun q hq hs => (fun q h1 h2 => hds51 q h2 h1) q hs hq)
      replace jhK0 := Keep.fresh jhK0 hk52 (by intro i hi hs; first | exact hs | (exfalso; have h1 := ownv i hs; have h2 := ltjAv i hs; omega) | (have h1 := ownv i hs; have h2 := ltjAv i hs; show _ ∨ _; omega)); have hzjhK0 := Keep.size jhK0
      replace hfenb := Keep.fresh hfenb hk52 (by intro i hi hs; have h1 := ownv i hs; have h2 := ltjAv i hs; show _ ∨ _; omega); have hzhfenb := Keep.size hfenb
      have lt52 := SlT.lt hA52
      have hds54 : ∀ q, inA A48 q → ¬ inA A52 q := fun q h1 h2 => by rcases own52x q h2 with h | h; exact hds51 q h1 h; (have h3 := lt48 q h1; omega)
      refine OI_set (m := 1) (kd := false) 30 (.tmp 5) (.tmp 17) 0 (.slice A48 ((((xs.take k).map (·.1)) ++ [x.1]).length) cap48) [.slice A48 ((((xs.take k).map (·.1)) ++ [x.1]).length) cap48] none (by kernel_rfl) (by kernel_rfl) (by kernel_rfl) jb7 (by kernel_rfl) (by kernel_rfl) (by kernel_rfl) (Nat.le_of_ble_eq_true (by kernel_rfl)) (by simp [Value.oneCell']) ?_
      intro w55 hb7_58 hk56 hz57
      replace hb7_58 : Blk w55 b7 [.slice A48 ((((xs.take k).map (·.1)) ++ [x.1]).length) cap48] 30 := hb7_58
      have hsz59 := Keep.size hk56
      replace jb1 := jb1.keep hk56 (by show ¬ (_ = _); omega)
      have hb1lt := jb1.lt
      replace jb3 := jb3.keep hk56 (by show ¬ (_ = _); omega)
      have hb3lt := jb3.lt
      replace jb5 := jb5.keep hk56 (by show ¬ (_ = _); omega)
      have hb5lt := jb5.lt
      replace jb9 := jb9.keep hk56 (by show ¬ (_ = _); omega)
      have hb9lt := jb9.lt
      replace hA48 := SlT.keep hA48 hk56 (fun q hq hs => by have hs : q = b7 := hs; have g0 := own48 q hq; have g1 := lt48 q hq; omega)
      replace hA52 := SlT.keep hA52 hk56 (fun q hq hs => by have hs : q = b7 := hs; have g0 := own52 q hq; have g1 := lt52 q hq; omega)
      replace jhK0 := Keep.fresh jhK0 hk56 (by intro i hi hs; first | exact hs | exact Or.inl hs | exact Or.inr hs | (exfalso; have hs2 : i = b7 := hs; omega)); have hzjhK0 := Keep.size jhK0
      replace hfenb := Keep.fresh hfenb hk56 (by intro i hi hs; have hs2 : i = b7 := hs; show _ ∨ _; omega); have hzhfenb := Keep.size hfenb
      refine OI_set (m := 1) (kd := false) 30 (.tmp 6) (.tmp 21) 0 (.slice A52 ((((xs.take k).map (·.2)) ++ [x.2]).length) cap52) [.slice A52 ((((xs.take k).map (·.2)) ++ [x.2]).length) cap52] none (by kernel_rfl) (by kernel_rfl) (by kernel_rfl) jb9 (by kernel_rfl) (by kernel_rfl) (by kernel_rfl) (Nat.le_of_ble_eq_true (by kernel_rfl)) (by simp [Value.oneCell']) ?_
      intro w60 hb9_63 hk61 hz62
      replace hb9_63 : Blk w60 b9 [.slice A52 ((((xs.take k).map (·.2)) ++ [x.2]).length) cap52] 30 := hb9_63
      have hsz64 := Keep.size hk61
      replace jb1 := jb1.keep hk61 (by show ¬ (_ = _); omega)
      have hb1lt := jb1.lt
      replace jb3 := jb3.keep hk61 (by show ¬ (_ = _); omega)
      have hb3lt := jb3.lt
      replace jb5 := jb5.keep hk61 (by show ¬ (_ = _); omega)
      have hb5lt := jb5.lt
      replace hb7_58 := hb7_58.keep hk61 (by show ¬ (_ = _); omega)
      have hb7lt := hb7_58.lt
      replace hA48 := SlT.keep hA48 hk61 (fun q hq hs => by have hs : q = b9 := hs; have g0 := own48 q hq; have g1 := lt48 q hq; omega)
      replace hA52 := SlT.keep hA52 hk61 (fun q hq hs => by have hs : q = b9 := hs; have g0 := own52 q hq; have g1 := lt52 q hq; omega)
      replace jhK0 := Keep.fresh jhK0 hk61 (by intro i hi hs; first | exact hs | exact Or.inl hs | exact Or.inr hs | (exfalso; have hs2 : i = b9 := hs; omega)); have hzjhK0 := Keep.size jhK0
      replace hfenb := Keep.fresh hfenb hk61 (by intro i hi hs; have hs2 : i = b9 := hs; show _ ∨ _; omega); have hzhfenb := Keep.size hfenb
      refine OI_end rfl ?_
      refine X_then ?_
      refine V_seq ?_
      refine V_region ?_
      refine OI_cell 30 (.tmp 5) 0 (.slice A48 ((((xs.take k).map (·.1)) ++ [x.1]).length) cap48) (some 22) (by kernel_rfl) (by kernel_rfl) hb7_58 (m := 1) (by kernel_rfl) rfl ?_
      refine OI_static 3 [(2, .pointer (some ⟨b1, 0, none⟩)), (3, .pointer (some ⟨b3, 0, none⟩)), (4, .pointer (some ⟨b5, 0, none⟩)), (24, .bool (decide ((((((xs.take k).map (·.1)) ++ [x.1]).length : Nat) : Int) > 1000)))] (by kernel_rfl) ?_
      refine OI_end rfl ?_
      refine X_then ?_
      refine V_if ((((((xs.take k).map (·.1)) ++ [x.1]).length : Nat) : Int) > 1000) (by kernel_rfl) (fun hc65 => ?_) (fun hc65 => ?_)
      · skip
        exact (by simp only [List.length_append, List.length_cons, List.length_nil] at hc65; omega : False).elim
      · skip
        refine V_skip ?_
        refine X_block ?_
        exact fun a _ => ⟨hfenb, A48, cap48, A52, cap52, jb1, jb3, jb5, jhK0, by rw [hs1]; exact hb7_58, by rw [hs2]; exact hb9_63, by rw [hs1]; exact hA48, by rw [hs2]; exact hA52, own48, own52, hds54⟩
    · skip
      refine GI_static [6, 1, 2, 0, 3, 4, 7, 8, 9] [(2, .pointer (some ⟨b1, 0, none⟩)), (3, .pointer (some ⟨b3, 0, none⟩)), (4, .pointer (some ⟨b5, 0, none⟩)), (5, .pointer (some ⟨b7, 0, none⟩)), (6, .pointer (some ⟨b9, 0, none⟩)), (7, .int .i64 x.1), (19, .int .i64 x.2)] (by kernel_rfl) ?_
      refine GI_slit (E := 3) (zv := .int .i64 0) (sz := 1) (by_ := 8) 30 1 #[(0, (Operand.tmp 19))] [.int .i64 x.2] [.int .i64 x.2] (some 20) (by kernel_rfl) (by kernel_rfl) K17 (by kernel_rfl) (by kernel_rfl) (by omega) rfl (by omega) (by intro v hv; simp only [List.mem_cons, List.not_mem_nil, or_false] at hv; rcases hv with rfl <;> rfl) (by kernel_rfl) rfl ?_
      intro b66 w66 e66 hb66 k66 z66 K67
      have hsz68 := Keep.size k66
      replace jb1 := jb1.keep k66 (fun f => f)
      have hb1lt := jb1.lt
      replace jb3 := jb3.keep k66 (fun f => f)
      have hb3lt := jb3.lt
      replace jb5 := jb5.keep k66 (fun f => f)
      have hb5lt := jb5.lt
      replace jb7 := jb7.keep k66 (fun f => f)
      have hb7lt := jb7.lt
      replace jb9 := jb9.keep k66 (fun f => f)
      have hb9lt := jb9.lt
      replace jAk := SlT.keep0 jAk k66
      replace jAv := SlT.keep0 jAv k66
      replace jhK0 := Keep.tr jhK0 (Keep.ofNone k66); have hzjhK0 := Keep.size jhK0
      replace hfenb := Keep.tr hfenb (Keep.ofNone k66); have hzhfenb := Keep.size hfenb
      have hb66lt := hb66.lt
      refine GI_static [2, 0, 3, 4, 7, 8, 9] [(2, .pointer (some ⟨b1, 0, none⟩)), (3, .pointer (some ⟨b3, 0, none⟩)), (4, .pointer (some ⟨b5, 0, none⟩)), (5, .pointer (some ⟨b7, 0, none⟩)), (6, .pointer (some ⟨b9, 0, none⟩)), (15, .int .i64 x.1), (20, .slice (some ⟨b66, 0, none⟩) 1 1)] (by kernel_rfl) ?_
      refine GI_slit (E := 3) (zv := .int .i64 0) (sz := 1) (by_ := 8) 30 1 #[(0, (Operand.tmp 15))] [.int .i64 x.1] [.int .i64 x.1] (some 16) (by kernel_rfl) (by kernel_rfl) K67 (by kernel_rfl) (by kernel_rfl) (by omega) rfl (by omega) (by intro v hv; simp only [List.mem_cons, List.not_mem_nil, or_false] at hv; rcases hv with rfl <;> rfl) (by kernel_rfl) rfl ?_
      intro b69 w69 e69 hb69 k69 z69 K70
      have hsz71 := Keep.size k69
      replace jb1 := jb1.keep k69 (fun f => f)
      have hb1lt := jb1.lt
      replace jb3 := jb3.keep k69 (fun f => f)
      have hb3lt := jb3.lt
      replace jb5 := jb5.keep k69 (fun f => f)
      have hb5lt := jb5.lt
      replace jb7 := jb7.keep k69 (fun f => f)
      have hb7lt := jb7.lt
      replace jb9 := jb9.keep k69 (fun f => f)
      have hb9lt := jb9.lt
      replace hb66 := hb66.keep k69 (fun f => f)
      have hb66lt := hb66.lt
      replace jAk := SlT.keep0 jAk k69
      replace jAv := SlT.keep0 jAv k69
      replace jhK0 := Keep.tr jhK0 (Keep.ofNone k69); have hzjhK0 := Keep.size jhK0
      replace hfenb := Keep.tr hfenb (Keep.ofNone k69); have hzhfenb := Keep.size hfenb
      have hb69lt := hb69.lt
      refine GI_cell 30 (.tmp 5) 0 (.slice Ak (((xs.take k).map (·.1)).length) capk) (some 14) (by kernel_rfl) (by kernel_rfl) (by kernel_rfl) qjb7 (by show ¬ (M1 ≤ b7); omega) (m := 1) (by kernel_rfl) rfl ?_
      refine GI_append (t := 30) (at2 := 30) (E := 3) (E2 := 3) (sz := 1) (by_ := 8) (zv := .int .i64 0) (m := ((xs.take k).map (·.1)).length) (k := 1) (.tmp 14) (.tmp 16) (.slice Ak (((xs.take k).map (·.1)).length) capk) (.slice (some ⟨b69, 0, none⟩) 1 1) (some 17) (by kernel_rfl) (by kernel_rfl) (by kernel_rfl) (by kernel_rfl) (by kernel_rfl) (by kernel_rfl) (by kernel_rfl) (by kernel_rfl) (SlT.slr jAk) (slr_one hb69 (intc_len x.1)) (intc_one x.1) (by first | omega | (simp only [List.length_nil]; omega)) (by omega) (by first | omega | (simp only [List.length_nil]; omega)) (by omega) ?_
      intro vv9 w72 hap
      obtain ⟨A72, cap72, rfl, hA72, hk72, own72x⟩ := app_one (f := intc) (xs := ((xs.take k).map (·.1))) (x := x.1) (A := Ak) (cap := capk) hap (fun x _ => intc_len x) (intc_len _)
      have own72 : ∀ q, inA A72 q → M1 ≤ q := fun q hq => by rcases own72x q hq with h | h; exact ownk q h; (show M1 ≤ q; omega)
      refine ⟨Keep.fresh K70 hk72 (by intro i hi hs; have h1 := ownk i hs; have h2 := ltjAk i hs; show M1 ≤ i; omega), ?_⟩
      have K73 := Keep.fresh K70 hk72 (by intro i hi hs; have h1 := ownk i hs; have h2 := ltjAk i hs; show M1 ≤ i; omega)
      have hsz74 := Keep.size hk72
      replace jb1 := jb1.keep hk72 (fun hs => by have h1 := ownk _ hs; have h2 := ltjAk _ hs; omega)
      have hb1lt := jb1.lt
      replace jb3 := jb3.keep hk72 (fun hs => by have h1 := ownk _ hs; have h2 := ltjAk _ hs; omega)
      have hb3lt := jb3.lt
      replace jb5 := jb5.keep hk72 (fun hs => by have h1 := ownk _ hs; have h2 := ltjAk _ hs; omega)
      have hb5lt := jb5.lt
      replace jb7 := jb7.keep hk72 (fun hs => by have h1 := ownk _ hs; have h2 := ltjAk _ hs; omega)
      have hb7lt := jb7.lt
      replace jb9 := jb9.keep hk72 (fun hs => by have h1 := ownk _ hs; have h2 := ltjAk _ hs; omega)
      have hb9lt := jb9.lt
      replace hb66 := hb66.keep hk72 (fun hs => by have h1 := ownk _ hs; have h2 := ltjAk _ hs; omega)
      have hb66lt := hb66.lt
      replace jAv := SlT.keep jAv hk72 (fun q hq hs => hdis q hs hq)
      replace jhK0 := Keep.fresh jhK0 hk72 (by intro i hi hs; first | exact hs | (exfalso; have h1 := ownk i hs; have h2 := ltjAk i hs; omega) | (have h1 := ownk i hs; have h2 := ltjAk i hs; show _ ∨ _; omega)); have hzjhK0 := Keep.size jhK0
      replace hfenb := Keep.fresh hfenb hk72 (by intro i hi hs; have h1 := ownk i hs; have h2 := ltjAk i hs; show _ ∨ _; omega); have hzhfenb := Keep.size hfenb
      have lt72 := SlT.lt hA72
      have hds75 : ∀ q, inA A72 q → ¬ inA Av q := fun q h1 h2 => by rcases own72x q h1 with h | h; exact hdis q h h2; (have h3 := ltjAv q h2; omega)
      refine GI_cell 30 (.tmp 6) 0 (.slice Av (((xs.take k).map (·.2)).length) capv) (some 18) (by kernel_rfl) (by kernel_rfl) (by kernel_rfl) qjb9 (by show ¬ (M1 ≤ b9); omega) (m := 1) (by kernel_rfl) rfl ?_
      refine GI_final 7 (by kernel_rfl) (by kernel_rfl) ?_
      refine OI_append (t := 30) (at2 := 30) (E := 3) (E2 := 3) (sz := 1) (by_ := 8) (zv := .int .i64 0) (m := ((xs.take k).map (·.2)).length) (k := 1) (.tmp 18) (.tmp 20) (.slice Av (((xs.take k).map (·.2)).length) capv) (.slice (some ⟨b66, 0, none⟩) 1 1) (some 21) (by kernel_rfl) (by kernel_rfl) (by kernel_rfl) (by kernel_rfl) (by kernel_rfl) (by kernel_rfl) (by kernel_rfl) (SlT.slr jAv) (slr_one hb66 (intc_len x.2)) (intc_one x.2) (by first | omega | (simp only [List.length_nil]; omega)) (by omega) (by first | omega | (simp only [List.length_nil]; omega)) (by omega) ?_
      intro vv9 w76 hap
      obtain ⟨A76, cap76, rfl, hA76, hk76, own76x⟩ := app_one (f := intc) (xs := ((xs.take k).map (·.2))) (x := x.2) (A := Av) (cap := capv) hap (fun x _ => intc_len x) (intc_len _)
      have own76 : ∀ q, inA A76 q → M1 ≤ q := fun q hq => by rcases own76x q hq with h | h; exact ownv q h; (show M1 ≤ q; omega)
      have hsz77 := Keep.size hk76
      replace jb1 := jb1.keep hk76 (fun hs => by have h1 := ownv _ hs; have h2 := ltjAv _ hs; omega)
      have hb1lt := jb1.lt
      replace jb3 := jb3.keep hk76 (fun hs => by have h1 := ownv _ hs; have h2 := ltjAv _ hs; omega)
      have hb3lt := jb3.lt
      replace jb5 := jb5.keep hk76 (fun hs => by have h1 := ownv _ hs; have h2 := ltjAv _ hs; omega)
      have hb5lt := jb5.lt
      replace jb7 := jb7.keep hk76 (fun hs => by have h1 := ownv _ hs; have h2 := ltjAv _ hs; omega)
      have hb7lt := jb7.lt
      replace jb9 := jb9.keep hk76 (fun hs => by have h1 := ownv _ hs; have h2 := ltjAv _ hs; omega)
      have hb9lt := jb9.lt
      replace hA72 := SlT.keep hA72 hk76 (fun q hq hs => (fun q h1 h2 => hds75 q h2 h1) q hs hq)
      replace jhK0 := Keep.fresh jhK0 hk76 (by intro i hi hs; first | exact hs | (exfalso; have h1 := ownv i hs; have h2 := ltjAv i hs; omega) | (have h1 := ownv i hs; have h2 := ltjAv i hs; show _ ∨ _; omega)); have hzjhK0 := Keep.size jhK0
      replace hfenb := Keep.fresh hfenb hk76 (by intro i hi hs; have h1 := ownv i hs; have h2 := ltjAv i hs; show _ ∨ _; omega); have hzhfenb := Keep.size hfenb
      have lt76 := SlT.lt hA76
      have hds78 : ∀ q, inA A72 q → ¬ inA A76 q := fun q h1 h2 => by rcases own76x q h2 with h | h; exact hds75 q h1 h; (have h3 := lt72 q h1; omega)
      refine OI_set (m := 1) (kd := false) 30 (.tmp 5) (.tmp 17) 0 (.slice A72 ((((xs.take k).map (·.1)) ++ [x.1]).length) cap72) [.slice A72 ((((xs.take k).map (·.1)) ++ [x.1]).length) cap72] none (by kernel_rfl) (by kernel_rfl) (by kernel_rfl) jb7 (by kernel_rfl) (by kernel_rfl) (by kernel_rfl) (Nat.le_of_ble_eq_true (by kernel_rfl)) (by simp [Value.oneCell']) ?_
      intro w79 hb7_82 hk80 hz81
      replace hb7_82 : Blk w79 b7 [.slice A72 ((((xs.take k).map (·.1)) ++ [x.1]).length) cap72] 30 := hb7_82
      have hsz83 := Keep.size hk80
      replace jb1 := jb1.keep hk80 (by show ¬ (_ = _); omega)
      have hb1lt := jb1.lt
      replace jb3 := jb3.keep hk80 (by show ¬ (_ = _); omega)
      have hb3lt := jb3.lt
      replace jb5 := jb5.keep hk80 (by show ¬ (_ = _); omega)
      have hb5lt := jb5.lt
      replace jb9 := jb9.keep hk80 (by show ¬ (_ = _); omega)
      have hb9lt := jb9.lt
      replace hA72 := SlT.keep hA72 hk80 (fun q hq hs => by have hs : q = b7 := hs; have g0 := own72 q hq; have g1 := lt72 q hq; omega)
      replace hA76 := SlT.keep hA76 hk80 (fun q hq hs => by have hs : q = b7 := hs; have g0 := own76 q hq; have g1 := lt76 q hq; omega)
      replace jhK0 := Keep.fresh jhK0 hk80 (by intro i hi hs; first | exact hs | exact Or.inl hs | exact Or.inr hs | (exfalso; have hs2 : i = b7 := hs; omega)); have hzjhK0 := Keep.size jhK0
      replace hfenb := Keep.fresh hfenb hk80 (by intro i hi hs; have hs2 : i = b7 := hs; show _ ∨ _; omega); have hzhfenb := Keep.size hfenb
      refine OI_set (m := 1) (kd := false) 30 (.tmp 6) (.tmp 21) 0 (.slice A76 ((((xs.take k).map (·.2)) ++ [x.2]).length) cap76) [.slice A76 ((((xs.take k).map (·.2)) ++ [x.2]).length) cap76] none (by kernel_rfl) (by kernel_rfl) (by kernel_rfl) jb9 (by kernel_rfl) (by kernel_rfl) (by kernel_rfl) (Nat.le_of_ble_eq_true (by kernel_rfl)) (by simp [Value.oneCell']) ?_
      intro w84 hb9_87 hk85 hz86
      replace hb9_87 : Blk w84 b9 [.slice A76 ((((xs.take k).map (·.2)) ++ [x.2]).length) cap76] 30 := hb9_87
      have hsz88 := Keep.size hk85
      replace jb1 := jb1.keep hk85 (by show ¬ (_ = _); omega)
      have hb1lt := jb1.lt
      replace jb3 := jb3.keep hk85 (by show ¬ (_ = _); omega)
      have hb3lt := jb3.lt
      replace jb5 := jb5.keep hk85 (by show ¬ (_ = _); omega)
      have hb5lt := jb5.lt
      replace hb7_82 := hb7_82.keep hk85 (by show ¬ (_ = _); omega)
      have hb7lt := hb7_82.lt
      replace hA72 := SlT.keep hA72 hk85 (fun q hq hs => by have hs : q = b9 := hs; have g0 := own72 q hq; have g1 := lt72 q hq; omega)
      replace hA76 := SlT.keep hA76 hk85 (fun q hq hs => by have hs : q = b9 := hs; have g0 := own76 q hq; have g1 := lt76 q hq; omega)
      replace jhK0 := Keep.fresh jhK0 hk85 (by intro i hi hs; first | exact hs | exact Or.inl hs | exact Or.inr hs | (exfalso; have hs2 : i = b9 := hs; omega)); have hzjhK0 := Keep.size jhK0
      replace hfenb := Keep.fresh hfenb hk85 (by intro i hi hs; have hs2 : i = b9 := hs; show _ ∨ _; omega); have hzhfenb := Keep.size hfenb
      refine OI_end rfl ?_
      refine X_then ?_
      refine V_seq ?_
      refine V_region ?_
      refine OI_cell 30 (.tmp 5) 0 (.slice A72 ((((xs.take k).map (·.1)) ++ [x.1]).length) cap72) (some 22) (by kernel_rfl) (by kernel_rfl) hb7_82 (m := 1) (by kernel_rfl) rfl ?_
      refine OI_static 3 [(2, .pointer (some ⟨b1, 0, none⟩)), (3, .pointer (some ⟨b3, 0, none⟩)), (4, .pointer (some ⟨b5, 0, none⟩)), (24, .bool (decide ((((((xs.take k).map (·.1)) ++ [x.1]).length : Nat) : Int) > 1000)))] (by kernel_rfl) ?_
      refine OI_end rfl ?_
      refine X_then ?_
      refine V_if ((((((xs.take k).map (·.1)) ++ [x.1]).length : Nat) : Int) > 1000) (by kernel_rfl) (fun hc89 => ?_) (fun hc89 => ?_)
      · skip
        exact (by simp only [List.length_append, List.length_cons, List.length_nil] at hc89; omega : False).elim
      · skip
        refine V_skip ?_
        refine X_block ?_
        exact fun a _ => ⟨hfenb, A72, cap72, A76, cap76, jb1, jb3, jb5, jhK0, by rw [hs1]; exact hb7_82, by rw [hs2]; exact hb9_87, by rw [hs1]; exact hA72, by rw [hs2]; exact hA76, own72, own76, hds78⟩
  · skip
    intro D M1 W hD hM ⟨Ak, capk, Av, capv, jb1, jb3, jb5, jhK0, jb7, jb9, jAk, jAv, ownk, ownv, hdis⟩ hDD
    have hzjhK0 := Keep.size jhK0
    have hb1lt := jb1.lt
    have hb3lt := jb3.lt
    have hb5lt := jb5.lt
    have hb7lt := jb7.lt
    have hb9lt := jb9.lt
    have ltjAk := SlT.lt jAk
    have ltjAv := SlT.lt jAv
    rw [List.take_length] at jAk jAv jb7 jb9
    rw [List.length_map] at jb7 jb9
    refine X_block ?_
    refine X_then ?_
    refine V_seq ?_
    refine V_draws (acts [2, 3, 4]) (fun q => q = b1 ∨ q = b3 ∨ q = b5) [[0, 2, 1, 3, 4]] (by kernel_rfl) (by repeat first | exact (by first | exact sure_postM | exact sure_rQ2 | exact sure_no | exact sure_body (by rintro _ _ ⟨h, _⟩; exact ⟨_, h⟩)) | refine sure_then ?_ | refine sure_block ?_ | refine sure_join ?_) (by kernel_rfl) ?_
    intro w91 hk90 he92 L hL93
    have hsz94 := Keep.size hk90
    replace jb1 := jb1.keep hk90 (fun f => f)
    have hb1lt := jb1.lt
    replace jb3 := jb3.keep hk90 (fun f => f)
    have hb3lt := jb3.lt
    replace jb5 := jb5.keep hk90 (fun f => f)
    have hb5lt := jb5.lt
    replace jb7 := jb7.keep hk90 (fun f => f)
    have hb7lt := jb7.lt
    replace jb9 := jb9.keep hk90 (fun f => f)
    have hb9lt := jb9.lt
    replace jAk := SlT.keep0 jAk hk90
    replace jAv := SlT.keep0 jAv hk90
    replace jhK0 := Keep.tr jhK0 (Keep.ofNone hk90); have hzjhK0 := Keep.size jhK0
    replace hDD := (Keep.block hk90 _ (Array.getElem?_eq_some_iff.1 hDD).1 (fun f => f)).trans hDD
    have qjb1 := jb1
    have qjb3 := jb3
    have qjb5 := jb5
    have qjb7 := jb7
    have qjb9 := jb9
    have K95 : Keep (fun q => q = b1 ∨ q = b3 ∨ q = b5) w91 w91 := Keep.refl _ _
    obtain rfl := List.mem_singleton.1 hL93
    refine GI_cell 30 (.tmp 5) 0 (.slice Ak xs.length capk) (some 25) (by kernel_rfl) (by kernel_rfl) (by kernel_rfl) qjb7 (by show ¬ (b7 = b1 ∨ b7 = b3 ∨ b7 = b5); omega) (m := 1) (by kernel_rfl) rfl ?_
    refine GI_set (m := 1) (kd := false) 30 (.tmp 2) (.tmp 25) 0 (.slice Ak xs.length capk) [.slice Ak xs.length capk] none (by kernel_rfl) (by kernel_rfl) (by kernel_rfl) (by kernel_rfl) jb1 (by kernel_rfl) (by kernel_rfl) (by kernel_rfl) (Nat.le_of_ble_eq_true (by kernel_rfl)) (by simp [Value.oneCell']) K95 (fun hh => by show b1 = b1 ∨ b1 = b3 ∨ b1 = b5; omega) ?_
    intro w96 hb1_99 hk97 hz98 K100
    replace hb1_99 : Blk w96 b1 [.slice Ak xs.length capk] 30 := hb1_99
    have hsz101 := Keep.size hk97
    replace jb3 := jb3.keep hk97 (by show ¬ (_ = _); omega)
    have hb3lt := jb3.lt
    replace jb5 := jb5.keep hk97 (by show ¬ (_ = _); omega)
    have hb5lt := jb5.lt
    replace jb7 := jb7.keep hk97 (by show ¬ (_ = _); omega)
    have hb7lt := jb7.lt
    replace jb9 := jb9.keep hk97 (by show ¬ (_ = _); omega)
    have hb9lt := jb9.lt
    replace jAk := SlT.keep jAk hk97 (fun q hq hs => by have hs : q = b1 := hs; have g0 := ownk q hq; have g1 := ltjAk q hq; omega)
    replace jAv := SlT.keep jAv hk97 (fun q hq hs => by have hs : q = b1 := hs; have g0 := ownv q hq; have g1 := ltjAv q hq; omega)
    replace jhK0 := Keep.fresh jhK0 hk97 (by intro i hi hs; first | exact hs | exact Or.inl hs | exact Or.inr hs | (exfalso; have hs2 : i = b1 := hs; omega)); have hzjhK0 := Keep.size jhK0
    replace hDD := (Keep.block hk97 _ (Array.getElem?_eq_some_iff.1 hDD).1 (by show ¬ (_ = _); omega)).trans hDD
    refine GI_cell 30 (.tmp 6) 0 (.slice Av xs.length capv) (some 26) (by kernel_rfl) (by kernel_rfl) (by kernel_rfl) qjb9 (by show ¬ (b9 = b1 ∨ b9 = b3 ∨ b9 = b5); omega) (m := 1) (by kernel_rfl) rfl ?_
    refine GI_final 3 (by kernel_rfl) (by kernel_rfl) ?_
    refine OI_set (m := 1) (kd := false) 30 (.tmp 3) (.tmp 26) 0 (.slice Av xs.length capv) [.slice Av xs.length capv] none (by kernel_rfl) (by kernel_rfl) (by kernel_rfl) jb3 (by kernel_rfl) (by kernel_rfl) (by kernel_rfl) (Nat.le_of_ble_eq_true (by kernel_rfl)) (by simp [Value.oneCell']) ?_
    intro w102 hb3_105 hk103 hz104
    replace hb3_105 : Blk w102 b3 [.slice Av xs.length capv] 30 := hb3_105
    have hsz106 := Keep.size hk103
    replace hb1_99 := hb1_99.keep hk103 (by show ¬ (_ = _); omega)
    have hb1lt := hb1_99.lt
    replace jb5 := jb5.keep hk103 (by show ¬ (_ = _); omega)
    have hb5lt := jb5.lt
    replace jb7 := jb7.keep hk103 (by show ¬ (_ = _); omega)
    have hb7lt := jb7.lt
    replace jb9 := jb9.keep hk103 (by show ¬ (_ = _); omega)
    have hb9lt := jb9.lt
    replace jAk := SlT.keep jAk hk103 (fun q hq hs => by have hs : q = b3 := hs; have g0 := ownk q hq; have g1 := ltjAk q hq; omega)
    replace jAv := SlT.keep jAv hk103 (fun q hq hs => by have hs : q = b3 := hs; have g0 := ownv q hq; have g1 := ltjAv q hq; omega)
    replace jhK0 := Keep.fresh jhK0 hk103 (by intro i hi hs; first | exact hs | exact Or.inl hs | exact Or.inr hs | (exfalso; have hs2 : i = b3 := hs; omega)); have hzjhK0 := Keep.size jhK0
    replace hDD := (Keep.block hk103 _ (Array.getElem?_eq_some_iff.1 hDD).1 (by show ¬ (_ = _); omega)).trans hDD
    refine OI_set (m := 1) (kd := false) 4 (.tmp 4) (.const (Value.bool true)) 0 (.bool true) [.bool true] none (by kernel_rfl) (by kernel_rfl) (by kernel_rfl) jb5 (by kernel_rfl) (by kernel_rfl) (by kernel_rfl) (Nat.le_of_ble_eq_true (by kernel_rfl)) (by simp [Value.oneCell']) ?_
    intro w107 hb5_110 hk108 hz109
    replace hb5_110 : Blk w107 b5 [.bool true] 4 := hb5_110
    have hsz111 := Keep.size hk108
    replace hb1_99 := hb1_99.keep hk108 (by show ¬ (_ = _); omega)
    have hb1lt := hb1_99.lt
    replace hb3_105 := hb3_105.keep hk108 (by show ¬ (_ = _); omega)
    have hb3lt := hb3_105.lt
    replace jb7 := jb7.keep hk108 (by show ¬ (_ = _); omega)
    have hb7lt := jb7.lt
    replace jb9 := jb9.keep hk108 (by show ¬ (_ = _); omega)
    have hb9lt := jb9.lt
    replace jAk := SlT.keep jAk hk108 (fun q hq hs => by have hs : q = b5 := hs; have g0 := ownk q hq; have g1 := ltjAk q hq; omega)
    replace jAv := SlT.keep jAv hk108 (fun q hq hs => by have hs : q = b5 := hs; have g0 := ownv q hq; have g1 := ltjAv q hq; omega)
    replace jhK0 := Keep.fresh jhK0 hk108 (by intro i hi hs; first | exact hs | exact Or.inl hs | exact Or.inr hs | (exfalso; have hs2 : i = b5 := hs; omega)); have hzjhK0 := Keep.size jhK0
    replace hDD := (Keep.block hk108 _ (Array.getElem?_eq_some_iff.1 hDD).1 (by show ¬ (_ = _); omega)).trans hDD
    refine OI_end rfl ?_
    refine X_then ?_
    refine V_ret ?_
    exact leave1 (.tuple #[.slice Ak xs.length capk, .slice Av xs.length capv, .bool true]) (.inl rfl) hDD (fun w' hk => ⟨res_cells3 (n1 := 1) (n2 := 1) (n3 := 1) rfl rfl rfl rfl (by kernel_rfl) (by kernel_rfl) (by kernel_rfl) (Blk.quiet hb1_99 hk) (Blk.quiet hb3_105 hk) (Blk.quiet hb5_110 hk), Ak, capk, Av, capv, rfl, SlT.quiet jAk hk, SlT.quiet jAv hk, Keep.quiet jhK0 hk (by omega), fun q h => (by have := ownk q h; omega), fun q h => (by have := ownv q h; omega)⟩)
end Go.Al


namespace Go.Al
open Go Go.RowKit Go.Proofs
theorem told_col (F : Nat → Prop) (g : Nat) (cs : List Ci) (n : Int) (bg bs bn : Nat) (xs : List (Int × Int)) (w : World) (hxs : colL n cs = xs) (h : Grd F w g cs) (h1 : Blk w bg [.pointer (some ⟨g, 0, none⟩)] 22) (h2 : Blk w bs [.int .i64 1] 3) (h3 : Blk w bn [.int .i64 n] 3) (hn : cs.length ≤ 1000) : Calls Try.prog 20 #[.func (.func 47) #[] #[.pointer (some ⟨bg, 0, none⟩), .pointer (some ⟨bs, 0, none⟩), .pointer (some ⟨bn, 0, none⟩)]] w fun e w' => ∃ Ak capk Av capv, e = .returned (.tuple #[.slice Ak xs.length capk, .slice Av xs.length capv, .bool true]) ∧ SlT w' 1 intc Ak capk (xs.map (·.1)) ∧ SlT w' 1 intc Av capv (xs.map (·.2)) ∧ Keep none_ w w' ∧ (∀ q, inA Ak q → w.heap.size ≤ q) ∧ (∀ q, inA Av q → w.heap.size ≤ q) := by
  subst hxs
  obtain ⟨_, _, _, _, A, cap, hat, _⟩ := h
  have hl : (colL n cs).length ≤ 1000 := by unfold colL; rw [List.length_map]; exact Nat.le_trans (List.length_filter_le _ _) hn
  exact told_spec 47 _ _ _ _ w (by kernel_rfl) (along1_iter1 bg bs bn g cap A cs n (by omega)) ⟨h1, hat, ⟨h2, h3, hat.sl⟩⟩ (fun W W' h k => ⟨h.1.quiet k, h.2.1.quiet k, h.2.2.quiet k⟩) (fun W k => AlOk.keep0 ⟨h2, h3, hat.sl⟩ k) hl

end Go.Al


namespace Go.Al
open Go Go.RowKit Go.Proofs
theorem known_spec (w : World) : Calls Try.prog 14 #[] w fun e w' => e = .returned (.bool true) ∧ Keep none_ w w' := by
  have hK0 : Keep none_ w w := Keep.refl _ _
  have hzhK0 := Keep.size hK0
  refine enterV Try.func14 rfl [] 55 rfl rfl rfl ?_
  refine V_pick [] rfl ?_
  refine V_seq ?_
  refine V_region ?_
  refine OI_static 1 [] (by kernel_rfl) ?_
  refine OI_end rfl ?_
  refine X_then ?_
  refine V_seq ?_
  refine V_region ?_
  refine OI_call { callee := (Callee.value (Operand.func 10)), args := #[], argTypes := #[] } 10 #[] (some 5) (by kernel_rfl) (by kernel_rfl) (by kernel_rfl) (new_grd _) ?_
  rintro _ w3 ⟨g5, F6, rfl, ho7, hk4, hge8⟩
  refine ⟨_, rfl, ?_⟩
  have hsz9 := Keep.size hk4
  replace hK0 := Keep.tr hK0 (Keep.ofNone hk4); have hzhK0 := Keep.size hK0
  have own10 : ∀ q, F6 q → w.heap.size ≤ q := fun q hq => by have h1 := hge8 q hq; omega
  have lt11 := Grd.lt ho7
  have hg5lt : g5 < w3.heap.size := Grd.lt ho7 _ (Grd.at_ ho7)
  have hg5ge := hge8 _ (Grd.at_ ho7)
  refine OI_static 2 [(1, .pointer (some ⟨g5, 0, none⟩))] (by kernel_rfl) ?_
  refine OI_end rfl ?_
  refine X_then ?_
  refine V_seq ?_
  refine V_seq ?_
  refine V_region ?_
  refine OI_static 2 [(1, .pointer (some ⟨g5, 0, none⟩)), (7, .bool false)] (by kernel_rfl) ?_
  refine OI_end rfl ?_
  refine X_then ?_
  refine V_false rfl ?_
  refine V_skip ?_
  refine X_then ?_
  refine V_seq ?_
  refine V_region ?_
  refine OI_static 1 [(1, .pointer (some ⟨g5, 0, none⟩)), (8, .pointer (some ⟨g5, 0, none⟩))] (by kernel_rfl) ?_
  have hs14 : setC 5 1 7 ([] : List Ci) = [⟨5, 1, 7⟩] := by simp [setC, ltC]
  refine OI_call { callee := (Callee.value (Operand.func 11)), args := #[(Operand.tmp 8), (Operand.const (Value.int IntKind.i64 5)), (Operand.const (Value.int IntKind.i64 1)), (Operand.const (Value.int IntKind.i64 7))], argTypes := #[22, 3, 3, 3] } 11 #[.pointer (some ⟨g5, 0, none⟩), .int .i64 5, .int .i64 1, .int .i64 7] (some 9) (by kernel_rfl) (by kernel_rfl) (by kernel_rfl) (set_grd F6 g5 ([] : List Ci) 5 1 7 _ ho7 (by simp)) ?_
  rintro _ w15 ⟨rfl, ⟨F17, ho18, hfr19⟩, hk16⟩
  refine ⟨_, rfl, ?_⟩
  have hsz20 := Keep.size hk16
  replace hK0 := Keep.fresh hK0 hk16 (by intro i hi hs; first | exact hs | (exfalso; have h1 := own10 i hs; have h2 := lt11 i hs; omega) | (have h1 := own10 i hs; have h2 := lt11 i hs; show _ ∨ _; omega)); have hzhK0 := Keep.size hK0
  rw [hs14] at ho18
  have own22 : ∀ q, F17 q → w.heap.size ≤ q := fun q hq => by rcases hfr19 q hq with h | h; (have h1 := own10 q h; have h2 := lt11 q h; omega); omega
  have lt21 := Grd.lt ho18
  refine OI_end rfl ?_
  refine X_then ?_
  refine V_seq ?_
  refine V_region ?_
  refine OI_static 1 [(1, .pointer (some ⟨g5, 0, none⟩)), (10, .pointer (some ⟨g5, 0, none⟩))] (by kernel_rfl) ?_
  have hs25 : setC 2 1 8 [⟨5, 1, 7⟩] = [⟨2, 1, 8⟩, ⟨5, 1, 7⟩] := by simp [setC, ltC]
  refine OI_call { callee := (Callee.value (Operand.func 11)), args := #[(Operand.tmp 10), (Operand.const (Value.int IntKind.i64 2)), (Operand.const (Value.int IntKind.i64 1)), (Operand.const (Value.int IntKind.i64 8))], argTypes := #[22, 3, 3, 3] } 11 #[.pointer (some ⟨g5, 0, none⟩), .int .i64 2, .int .i64 1, .int .i64 8] (some 11) (by kernel_rfl) (by kernel_rfl) (by kernel_rfl) (set_grd F17 g5 [⟨5, 1, 7⟩] 2 1 8 _ ho18 (by simp)) ?_
  rintro _ w26 ⟨rfl, ⟨F28, ho29, hfr30⟩, hk27⟩
  refine ⟨_, rfl, ?_⟩
  have hsz31 := Keep.size hk27
  replace hK0 := Keep.fresh hK0 hk27 (by intro i hi hs; first | exact hs | (exfalso; have h1 := own22 i hs; have h2 := lt21 i hs; omega) | (have h1 := own22 i hs; have h2 := lt21 i hs; show _ ∨ _; omega)); have hzhK0 := Keep.size hK0
  rw [hs25] at ho29
  have own33 : ∀ q, F28 q → w.heap.size ≤ q := fun q hq => by rcases hfr30 q hq with h | h; (have h1 := own22 q h; have h2 := lt21 q h; omega); omega
  have lt32 := Grd.lt ho29
  refine OI_end rfl ?_
  refine X_then ?_
  refine V_seq ?_
  refine V_region ?_
  refine OI_static 1 [(1, .pointer (some ⟨g5, 0, none⟩)), (12, .pointer (some ⟨g5, 0, none⟩))] (by kernel_rfl) ?_
  have hs36 : setC 2 3 9 [⟨2, 1, 8⟩, ⟨5, 1, 7⟩] = [⟨2, 1, 8⟩, ⟨2, 3, 9⟩, ⟨5, 1, 7⟩] := by simp [setC, ltC]
  refine OI_call { callee := (Callee.value (Operand.func 11)), args := #[(Operand.tmp 12), (Operand.const (Value.int IntKind.i64 2)), (Operand.const (Value.int IntKind.i64 3)), (Operand.const (Value.int IntKind.i64 9))], argTypes := #[22, 3, 3, 3] } 11 #[.pointer (some ⟨g5, 0, none⟩), .int .i64 2, .int .i64 3, .int .i64 9] (some 13) (by kernel_rfl) (by kernel_rfl) (by kernel_rfl) (set_grd F28 g5 [⟨2, 1, 8⟩, ⟨5, 1, 7⟩] 2 3 9 _ ho29 (by simp)) ?_
  rintro _ w37 ⟨rfl, ⟨F39, ho40, hfr41⟩, hk38⟩
  refine ⟨_, rfl, ?_⟩
  have hsz42 := Keep.size hk38
  replace hK0 := Keep.fresh hK0 hk38 (by intro i hi hs; first | exact hs | (exfalso; have h1 := own33 i hs; have h2 := lt32 i hs; omega) | (have h1 := own33 i hs; have h2 := lt32 i hs; show _ ∨ _; omega)); have hzhK0 := Keep.size hK0
  rw [hs36] at ho40
  have own44 : ∀ q, F39 q → w.heap.size ≤ q := fun q hq => by rcases hfr41 q hq with h | h; (have h1 := own33 q h; have h2 := lt32 q h; omega); omega
  have lt43 := Grd.lt ho40
  refine OI_end rfl ?_
  refine X_then ?_
  refine V_seq ?_
  refine V_region ?_
  refine OI_static 1 [(1, .pointer (some ⟨g5, 0, none⟩)), (15, .pointer (some ⟨g5, 0, none⟩))] (by kernel_rfl) ?_
  refine OI_call { callee := (Callee.value (Operand.func 13)), args := #[(Operand.tmp 15), (Operand.const (Value.int IntKind.i64 1))], argTypes := #[22, 3] } 13 #[.pointer (some ⟨g5, 0, none⟩), .int .i64 1] (some 16) (by kernel_rfl) (by kernel_rfl) (by kernel_rfl) (column_spec _ rfl 1 _) ?_
  rintro _ w45 ⟨bg47, bs48, bn49, rfl, hbg47, hbs48, hbn49, hk46, hgebg47, hgebs48, hgebn49⟩
  refine ⟨_, rfl, ?_⟩
  have hsz50 := Keep.size hk46
  replace hK0 := Keep.tr hK0 (Keep.ofNone hk46); have hzhK0 := Keep.size hK0
  replace ho40 := Grd.keep ho40 hk46 (fun _ _ f => f)
  have hbg47lt := hbg47.lt
  have hbs48lt := hbs48.lt
  have hbn49lt := hbn49.lt
  refine OI_call { callee := (Callee.value (Operand.func 20)), args := #[(Operand.tmp 16)], argTypes := #[26] } 20 #[.func (.func 47) #[] #[.pointer (some ⟨bg47, 0, none⟩), .pointer (some ⟨bs48, 0, none⟩), .pointer (some ⟨bn49, 0, none⟩)]] (some 17) (by kernel_rfl) (by kernel_rfl) (by kernel_rfl) (told_col F39 g5 [⟨2, 1, 8⟩, ⟨2, 3, 9⟩, ⟨5, 1, 7⟩] 1 bg47 bs48 bn49 [(2, 8), (5, 7)] _ (by decide) ho40 hbg47 hbs48 hbn49 (by simp)) ?_
  rintro _ w51 ⟨Ak53, capk53, Av53, capv53, rfl, hAk53, hAv53, hk52, owAk53, owAv53⟩
  refine ⟨_, rfl, ?_⟩
  have hsz54 := Keep.size hk52
  replace hbg47 := hbg47.keep hk52 (fun f => f)
  have hbg47lt := hbg47.lt
  replace hbs48 := hbs48.keep hk52 (fun f => f)
  have hbs48lt := hbs48.lt
  replace hbn49 := hbn49.keep hk52 (fun f => f)
  have hbn49lt := hbn49.lt
  replace hK0 := Keep.tr hK0 (Keep.ofNone hk52); have hzhK0 := Keep.size hK0
  replace ho40 := Grd.keep ho40 hk52 (fun _ _ f => f)
  replace hAk53 : SlT w51 1 intc Ak53 capk53 [2, 5] := hAk53
  have ltAk53 := SlT.lt hAk53
  replace hAv53 : SlT w51 1 intc Av53 capv53 [8, 7] := hAv53
  have ltAv53 := SlT.lt hAv53
  refine OI_static 10 [(1, .pointer (some ⟨g5, 0, none⟩)), (2, .slice Ak53 2 capk53), (3, .slice Av53 2 capv53), (4, .bool true)] (by kernel_rfl) ?_
  refine OI_end rfl ?_
  refine X_then ?_
  refine V_seq ?_
  refine V_region ?_
  refine OI_static 13 [(1, .pointer (some ⟨g5, 0, none⟩)), (2, .slice Ak53 2 capk53), (3, .slice Av53 2 capv53), (32, .bool true), (33, .slice Ak53 2 capk53)] (by kernel_rfl) ?_
  obtain ⟨b55, o55, L55, T55, rfl, hat55⟩ := SlT.open_ hAk53 (by first | omega | (simp only [List.length_map]; omega) | (simp; done) | (simp; omega))
  have hb55lt := hat55.blk.lt
  have hob56 := owAk53 b55 ⟨_, rfl, rfl⟩
  have hob57 := ltAk53 b55 ⟨_, rfl, rfl⟩
  refine OI_pure (some 34) (.indexAddr 30 (.tmp 33) (.const (Value.int IntKind.i64 0))) (by kernel_rfl) (pure_idxN (b := b55) (o := o55) (len := 2) (cap := capk53) (kd := .i64) (j := 0) (E := 3) (sz := 1) (by_ := 8) (by kernel_rfl) (by kernel_rfl) (by kernel_rfl) (by omega)) ?_
  refine OI_cell 3 (.tmp 34) (o55 + 0 * 1) (.int .i64 2) (some 35) (by kernel_rfl) (by kernel_rfl) hat55.blk (m := 1) (by kernel_rfl) (At.cell0 hat55 (es_at (rfl : ([2, 5] : List Int)[0]? = some 2)) rfl) ?_
  refine OI_static 19 [(1, .pointer (some ⟨g5, 0, none⟩)), (2, .slice (some ⟨b55, o55, none⟩) 2 capk53), (38, .bool true), (39, .slice Av53 2 capv53)] (by kernel_rfl) ?_
  obtain ⟨b58, o58, L58, T58, rfl, hat58⟩ := SlT.open_ hAv53 (by first | omega | (simp only [List.length_map]; omega) | (simp; done) | (simp; omega))
  have hb58lt := hat58.blk.lt
  have hob59 := owAv53 b58 ⟨_, rfl, rfl⟩
  have hob60 := ltAv53 b58 ⟨_, rfl, rfl⟩
  refine OI_pure (some 40) (.indexAddr 30 (.tmp 39) (.const (Value.int IntKind.i64 0))) (by kernel_rfl) (pure_idxN (b := b58) (o := o58) (len := 2) (cap := capv53) (kd := .i64) (j := 0) (E := 3) (sz := 1) (by_ := 8) (by kernel_rfl) (by kernel_rfl) (by kernel_rfl) (by omega)) ?_
  refine OI_cell 3 (.tmp 40) (o58 + 0 * 1) (.int .i64 8) (some 41) (by kernel_rfl) (by kernel_rfl) hat58.blk (m := 1) (by kernel_rfl) (At.cell0 hat58 (es_at (rfl : ([8, 7] : List Int)[0]? = some 8)) rfl) ?_
  refine OI_static 25 [(1, .pointer (some ⟨g5, 0, none⟩)), (44, .bool true), (45, .slice (some ⟨b55, o55, none⟩) 2 capk53)] (by kernel_rfl) ?_
  refine OI_pure (some 46) (.indexAddr 30 (.tmp 45) (.const (Value.int IntKind.i64 1))) (by kernel_rfl) (pure_idxN (b := b55) (o := o55) (len := 2) (cap := capk53) (kd := .i64) (j := 1) (E := 3) (sz := 1) (by_ := 8) (by kernel_rfl) (by kernel_rfl) (by kernel_rfl) (by omega)) ?_
  refine OI_cell 3 (.tmp 46) (o55 + 1 * 1) (.int .i64 5) (some 47) (by kernel_rfl) (by kernel_rfl) hat55.blk (m := 1) (by kernel_rfl) (At.cell0 hat55 (es_at (rfl : ([2, 5] : List Int)[1]? = some 5)) rfl) ?_
  refine OI_static 31 [(50, .bool true), (51, .pointer (some ⟨g5, 0, none⟩))] (by kernel_rfl) ?_
  refine OI_call { callee := (Callee.value (Operand.func 21)), args := #[(Operand.tmp 51)], argTypes := #[22] } 21 #[.pointer (some ⟨g5, 0, none⟩)] (some 52) (by kernel_rfl) (by kernel_rfl) (by kernel_rfl) (len_spec F39 g5 [⟨2, 1, 8⟩, ⟨2, 3, 9⟩, ⟨5, 1, 7⟩] _ (Grd.gr ho40)) ?_
  rintro _ w51 ⟨rfl, rfl⟩
  refine ⟨_, rfl, ?_⟩
  refine OI_static 35 [(0, .bool true)] (by kernel_rfl) ?_
  refine OI_end rfl ?_
  refine X_then ?_
  refine V_ret ?_
  exact X_return (.bool true) rfl ⟨rfl, hK0⟩

end Go.Al


namespace Go.Al.GS
open Go Go.RowKit Go.Proofs
/-- A cell of a grid of integers. -/
structure Ci where
  a : Int
  b : Int
  v : ByteArray
def Ci.cells (c : Ci) : List Value := [.int .i64 c.a, .int .i64 c.b, .string c.v]
theorem Ci.len (c : Ci) : c.cells.length = 3 := rfl
theorem Ci.one (c : Ci) : ∀ u ∈ c.cells, u.oneCell' = true := one_all' rfl
def ordC (a b : Int) (c : Ci) : Int := orI [cmpI c.a a, cmpI c.b b]

set_option maxRecDepth 10000 in
theorem place1_spec (c : Ci) (a b : Int) (w : World) : Calls Try.prog 49 #[.agg c.cells.toArray, .agg #[.int .i64 a, .int .i64 b]] w fun e w' => e = .returned (.int .i64 (ordC a b c)) ∧ Keep none_ w w' := by
  have hK0 : Keep none_ w w := Keep.refl _ _
  have hzhK0 := Keep.size hK0
  refine enterV Try.func49 rfl [.agg (Ci.cells c).toArray, .agg #[.int .i64 a, .int .i64 b]] 19 rfl rfl rfl ?_
  refine V_pick [(0, .agg (Ci.cells c).toArray), (1, .agg #[.int .i64 a, .int .i64 b])] rfl ?_
  refine V_seq ?_
  refine V_region ?_
  refine OI_box 78 (.tmp 0) (.agg (Ci.cells c).toArray) (Ci.cells c) (some 2) (by kernel_rfl) (by kernel_rfl) rfl ?_
  intro b1 w1 e1 hb1 k1 z1
  have hsz2 := Keep.size k1
  replace hK0 := Keep.tr hK0 (Keep.ofNone k1); have hzhK0 := Keep.size hK0
  have hb1lt := hb1.lt
  refine OI_box 68 (.tmp 1) (.agg #[.int .i64 a, .int .i64 b]) [.int .i64 a, .int .i64 b] (some 3) (by kernel_rfl) (by kernel_rfl) (by kernel_rfl) ?_
  intro b3 w3 e3 hb3 k3 z3
  have hsz4 := Keep.size k3
  replace hb1 := hb1.keep k3 (fun f => f)
  have hb1lt := hb1.lt
  replace hK0 := Keep.tr hK0 (Keep.ofNone k3); have hzhK0 := Keep.size hK0
  have hb3lt := hb3.lt
  refine OI_static 3 [(2, .pointer (some ⟨b1, 0, none⟩)), (3, .pointer (some ⟨b3, 0, none⟩))] (by kernel_rfl) ?_
  refine OI_end rfl ?_
  refine X_then ?_
  refine V_seq ?_
  refine V_draws (acts [5, 11, 12, 13]) none_ [[0, 1, 2, 3, 4, 5, 6, 7, 8, 9, 10, 11, 12, 13, 14]] (by kernel_rfl) (by repeat first | exact sure_body (by rintro _ _ ⟨h, _⟩; exact ⟨_, h⟩) | refine sure_then ?_ | refine sure_block ?_ | refine sure_join ?_) (by kernel_rfl) ?_
  intro w6 hk5 he7 L hL8
  have hsz9 := Keep.size hk5
  replace hb1 := hb1.keep hk5 (fun f => f)
  have hb1lt := hb1.lt
  replace hb3 := hb3.keep hk5 (fun f => f)
  have hb3lt := hb3.lt
  replace hK0 := Keep.tr hK0 (Keep.ofNone hk5); have hzhK0 := Keep.size hK0
  have qhb1 := hb1
  have qhb3 := hb3
  have K10 : Keep none_ w6 w6 := Keep.refl _ _
  obtain rfl := List.mem_singleton.1 hL8
  refine GI_static [2, 3, 4, 5, 6, 7, 8, 9, 10, 11, 12, 13, 14] [(2, .pointer (some ⟨b1, 0, none⟩)), (3, .pointer (some ⟨b3, 0, none⟩)), (6, .pointer (some ⟨b1, 0, none⟩))] (by kernel_rfl) ?_
  refine GI_cell 3 (.tmp 6) 0 (.int .i64 c.a) (some 7) (by kernel_rfl) (by kernel_rfl) (by kernel_rfl) qhb1 (fun f => f) (m := 1) (by kernel_rfl) rfl ?_
  refine GI_static [4, 5, 6, 7, 8, 9, 10, 11, 12, 13, 14] [(2, .pointer (some ⟨b1, 0, none⟩)), (3, .pointer (some ⟨b3, 0, none⟩)), (7, .int .i64 c.a), (8, .pointer (some ⟨b3, 0, none⟩))] (by kernel_rfl) ?_
  refine GI_cell 3 (.tmp 8) 0 (.int .i64 a) (some 9) (by kernel_rfl) (by kernel_rfl) (by kernel_rfl) qhb3 (fun f => f) (m := 1) (by kernel_rfl) rfl ?_
  refine GI_call { callee := (Callee.value (Operand.func 44)), args := #[(Operand.tmp 7), (Operand.tmp 9)], argTypes := #[3, 3] } 44 #[.int .i64 c.a, .int .i64 a] (some 10) (by kernel_rfl) (by kernel_rfl) (by kernel_rfl) (by kernel_rfl) (compare_spec c.a a _) ?_
  rintro _ w6 ⟨rfl, rfl⟩
  refine ⟨_, rfl, K10, ?_⟩
  refine GI_static [8, 9, 10, 11, 12, 13, 14] [(3, .pointer (some ⟨b3, 0, none⟩)), (10, .int .i64 (cmpI c.a a)), (12, .pointer (some ⟨b1, 1, none⟩))] (by kernel_rfl) ?_
  refine GI_cell 3 (.tmp 12) 1 (.int .i64 c.b) (some 13) (by kernel_rfl) (by kernel_rfl) (by kernel_rfl) qhb1 (fun f => f) (m := 1) (by kernel_rfl) rfl ?_
  refine GI_static [10, 11, 12, 13, 14] [(10, .int .i64 (cmpI c.a a)), (13, .int .i64 c.b), (14, .pointer (some ⟨b3, 1, none⟩))] (by kernel_rfl) ?_
  refine GI_cell 3 (.tmp 14) 1 (.int .i64 b) (some 15) (by kernel_rfl) (by kernel_rfl) (by kernel_rfl) qhb3 (fun f => f) (m := 1) (by kernel_rfl) rfl ?_
  refine GI_call0 { callee := (Callee.value (Operand.func 44)), args := #[(Operand.tmp 13), (Operand.tmp 15)], argTypes := #[3, 3] } 44 #[.int .i64 c.b, .int .i64 b] (some 16) (by kernel_rfl) (by kernel_rfl) (by kernel_rfl) (by kernel_rfl) (by kernel_rfl) (compare_spec c.b b _) ?_
  rintro _ w6 ⟨rfl, rfl⟩
  refine ⟨_, rfl, ?_⟩
  refine GI_slit (E := 3) (zv := .int .i64 0) (sz := 1) (by_ := 8) 30 2 #[(0, (Operand.tmp 10)), (1, (Operand.tmp 16))] [.int .i64 (cmpI c.a a), .int .i64 (cmpI c.b b)] [.int .i64 (cmpI c.a a), .int .i64 (cmpI c.b b)] (some 17) (by kernel_rfl) (by kernel_rfl) K10 (by kernel_rfl) (by kernel_rfl) (by omega) rfl (by omega) (by intro v hv; simp only [List.mem_cons, List.not_mem_nil, or_false] at hv; rcases hv with rfl | rfl <;> rfl) (by kernel_rfl) rfl ?_
  intro b13 w13 e13 hb13 k13 z13 K14
  have hsz15 := Keep.size k13
  replace hb1 := hb1.keep k13 (fun f => f)
  have hb1lt := hb1.lt
  replace hb3 := hb3.keep k13 (fun f => f)
  have hb3lt := hb3.lt
  replace hK0 := Keep.tr hK0 (Keep.ofNone k13); have hzhK0 := Keep.size hK0
  have hb13lt := hb13.lt
  refine GI_call0 { callee := (Callee.value (Operand.func 43)), args := #[(Operand.tmp 17)], argTypes := #[30] } 43 #[.slice (some ⟨b13, 0, none⟩) 2 2] (some 18) (by kernel_rfl) (by kernel_rfl) (by kernel_rfl) (by kernel_rfl) (by kernel_rfl) (or_spec _ 2 [cmpI c.a a, cmpI c.b b] _ (slt_blk hb13 (fun _ => rfl) rfl) (by simp)) ?_
  rintro _ w13 ⟨rfl, rfl⟩
  refine ⟨_, rfl, ?_⟩
  refine GI_static [] [(4, .int .i64 (orI [cmpI c.a a, cmpI c.b b]))] (by kernel_rfl) ?_
  refine GI_end ?_
  refine X_then ?_
  refine V_ret ?_
  exact X_return (.int .i64 (orI [cmpI c.a a, cmpI c.b b])) rfl ⟨rfl, hK0⟩

theorem bsearch_spec (A : Option Addr) (cap F : Nat) (xs : List Ci) (kl : List Value) (ord : Ci → Int) (w : World) (hA : SlT w 3 Ci.cells A cap xs) (hkl : kl.length = 2) (hn : xs.length ≤ 1000000) (hb : bodied Try.prog F = true)
    (hF : ∀ x w, Calls Try.prog F #[.agg (Ci.cells x).toArray, .agg kl.toArray] w fun e w' => e = .returned (.int .i64 (ord x)) ∧ Keep none_ w w') (hm : ∀ (i j : Nat) x y, i ≤ j → xs[i]? = some x → xs[j]? = some y → ord y < 0 → ord x < 0) :
    Calls Try.prog 48 #[.slice A xs.length cap, .agg kl.toArray, .func (.func F) #[] #[]] w fun e w' => ∃ (i : Nat) (b : Bool), e = .returned (.tuple #[.int .i64 (i : Int), .bool b]) ∧ Keep none_ w w' ∧ i ≤ xs.length ∧ (∀ (j : Nat) y, j < i → xs[j]? = some y → ord y < 0) ∧ (∀ (j : Nat) y, i ≤ j → xs[j]? = some y → ¬ ord y < 0) ∧ b = (match xs[i]? with | some y => decide (ord y = 0) | none => false) := by
  have hK0 : Keep none_ w w := Keep.refl _ _
  have hzhK0 := Keep.size hK0
  refine enterV Try.func48 rfl [.slice A xs.length cap, .agg kl.toArray, .func (.func F) #[] #[]] 49 rfl rfl rfl ?_
  refine V_pick [(0, .slice A xs.length cap), (1, .agg kl.toArray), (2, .func (.func F) #[] #[])] rfl ?_
  refine V_seq ?_
  refine V_region ?_
  refine OI_box 68 (.tmp 1) (.agg kl.toArray) kl (some 4) (by kernel_rfl) (by kernel_rfl) rfl ?_
  intro b1 w1 e1 hb1 k1 z1
  have hsz2 := Keep.size k1
  replace hA := SlT.keep0 hA k1
  replace hK0 := Keep.tr hK0 (Keep.ofNone k1); have hzhK0 := Keep.size hK0
  have hb1lt := hb1.lt
  refine OI_static 3 [(0, .slice A xs.length cap), (2, .func (.func F) #[] #[]), (4, .pointer (some ⟨b1, 0, none⟩))] (by kernel_rfl) ?_
  refine OI_end rfl ?_
  refine X_then ?_
  refine V_seq ?_
  refine V_region ?_
  refine OI_static 3 [(0, .slice A xs.length cap), (2, .func (.func F) #[] #[]), (4, .pointer (some ⟨b1, 0, none⟩)), (8, .int .i64 ((xs.length : Nat) : Int))] (by kernel_rfl) ?_
  refine OI_end rfl ?_
  refine X_then ?_
  refine V_seq ?_
  refine V_region ?_
  refine OI_static 3 [(0, .slice A xs.length cap), (2, .func (.func F) #[] #[]), (4, .pointer (some ⟨b1, 0, none⟩)), (8, .int .i64 ((xs.length : Nat) : Int)), (9, .int .i64 0), (10, .int .i64 ((xs.length : Nat) : Int))] (by kernel_rfl) ?_
  refine OI_end rfl ?_
  refine X_then ?_
  refine V_seq ?_
  refine V_block ?_
  refine V_pick [(0, .slice A xs.length cap), (2, .func (.func F) #[] #[]), (4, .pointer (some ⟨b1, 0, none⟩)), (8, .int .i64 ((xs.length : Nat) : Int)), (9, .int .i64 0), (10, .int .i64 ((xs.length : Nat) : Int))] rfl ?_
  refine V_loop (fun k wI e => ∃ lo : Nat, ∃ hi : Nat, (k + lo = hi) ∧ (lo ≤ hi) ∧ (hi ≤ xs.length) ∧ (∀ (j : Nat) y, j < lo → xs[j]? = some y → ord y < 0) ∧ (∀ (j : Nat) y, hi ≤ j → xs[j]? = some y → ¬ ord y < 0) ∧ Keep none_ w1 wI ∧ e = [(0, .slice A xs.length cap), (2, .func (.func F) #[] #[]), (4, .pointer (some ⟨b1, 0, none⟩)), (8, .int .i64 ((xs.length : Nat) : Int)), (9, .int .i64 ((lo : Nat) : Int)), (10, .int .i64 ((hi : Nat) : Int))]) xs.length ⟨0, xs.length, rfl, Nat.zero_le _, Nat.le_refl _, (fun j y hj => absurd hj (Nat.not_lt_zero _)), (fun j y hj hy => absurd (List.getElem?_eq_some_iff.1 hy).1 (by omega)), Keep.refl _ _, rfl⟩ ?_
  rintro k4 w3 _ ⟨lo, hi, hk2, hlo, hhi, hbef, haft, hk5, rfl⟩
  have hsz6 := Keep.size hk5
  replace hb1 := hb1.keep hk5 (fun f => f)
  have hb1lt := hb1.lt
  replace hA := SlT.keep0 hA hk5
  replace hK0 := Keep.tr hK0 (Keep.ofNone hk5); have hzhK0 := Keep.size hK0
  have hzhk5 := Keep.size hk5
  refine V_seq ?_
  refine V_seq ?_
  refine V_region ?_
  refine OI_static 3 [(0, .slice A xs.length cap), (2, .func (.func F) #[] #[]), (4, .pointer (some ⟨b1, 0, none⟩)), (8, .int .i64 ((xs.length : Nat) : Int)), (9, .int .i64 ((lo : Nat) : Int)), (10, .int .i64 ((hi : Nat) : Int)), (17, .bool (decide (((lo : Nat) : Int) < ((hi : Nat) : Int))))] (by kernel_rfl) ?_
  refine OI_end rfl ?_
  refine X_then ?_
  refine V_if (((lo : Nat) : Int) < ((hi : Nat) : Int)) (by kernel_rfl) (fun hc7 => ?_) (fun hc7 => ?_)
  · skip
    refine V_skip ?_
    refine X_then ?_
    refine V_block ?_
    refine V_seq ?_
    refine V_region ?_
    have hw8 : IntKind.i64.wrap (((lo : Nat) : Int) + ((hi : Nat) : Int)) = ((lo + hi : Nat) : Int) := (wrap64_id (by omega) (by omega)).trans (by omega)
    refine OI_static 3 [(0, .slice A xs.length cap), (2, .func (.func F) #[] #[]), (4, .pointer (some ⟨b1, 0, none⟩)), (8, .int .i64 ((xs.length : Nat) : Int)), (9, .int .i64 ((lo : Nat) : Int)), (10, .int .i64 ((hi : Nat) : Int)), (20, .int .i64 (IntKind.i64.wrap (((lo : Nat) : Int) + ((hi : Nat) : Int))))] (by kernel_rfl) ?_
    refine OI_eq [(0, .slice A xs.length cap), (2, .func (.func F) #[] #[]), (4, .pointer (some ⟨b1, 0, none⟩)), (8, .int .i64 ((xs.length : Nat) : Int)), (9, .int .i64 ((lo : Nat) : Int)), (10, .int .i64 ((hi : Nat) : Int)), (20, .int .i64 ((lo + hi : Nat) : Int))] (by rw [hw8]) ?_
    have hw9 : IntKind.u64.wrap ((lo + hi : Nat) : Int) = ((lo + hi : Nat) : Int) := wrap_u64 (by omega)
    refine OI_static 4 [(0, .slice A xs.length cap), (2, .func (.func F) #[] #[]), (4, .pointer (some ⟨b1, 0, none⟩)), (8, .int .i64 ((xs.length : Nat) : Int)), (9, .int .i64 ((lo : Nat) : Int)), (10, .int .i64 ((hi : Nat) : Int)), (21, .int .u64 (IntKind.u64.wrap ((lo + hi : Nat) : Int)))] (by kernel_rfl) ?_
    refine OI_eq [(0, .slice A xs.length cap), (2, .func (.func F) #[] #[]), (4, .pointer (some ⟨b1, 0, none⟩)), (8, .int .i64 ((xs.length : Nat) : Int)), (9, .int .i64 ((lo : Nat) : Int)), (10, .int .i64 ((hi : Nat) : Int)), (21, .int .u64 ((lo + hi : Nat) : Int))] (by rw [hw9]) ?_
    have hw10 : Int.fdiv ((lo + hi : Nat) : Int) (2 ^ 1) = (((lo + hi) / 2 : Nat) : Int) := shr1 _
    refine OI_static 5 [(0, .slice A xs.length cap), (2, .func (.func F) #[] #[]), (4, .pointer (some ⟨b1, 0, none⟩)), (8, .int .i64 ((xs.length : Nat) : Int)), (9, .int .i64 ((lo : Nat) : Int)), (10, .int .i64 ((hi : Nat) : Int)), (22, .int .u64 (Int.fdiv ((lo + hi : Nat) : Int) (2 ^ 1)))] (by kernel_rfl) ?_
    refine OI_eq [(0, .slice A xs.length cap), (2, .func (.func F) #[] #[]), (4, .pointer (some ⟨b1, 0, none⟩)), (8, .int .i64 ((xs.length : Nat) : Int)), (9, .int .i64 ((lo : Nat) : Int)), (10, .int .i64 ((hi : Nat) : Int)), (22, .int .u64 (((lo + hi) / 2 : Nat) : Int))] (by rw [hw10]) ?_
    have hw11 : IntKind.i64.wrap (((lo + hi) / 2 : Nat) : Int) = (((lo + hi) / 2 : Nat) : Int) := wrap64_id (by omega) (by omega)
    refine OI_static 6 [(0, .slice A xs.length cap), (2, .func (.func F) #[] #[]), (4, .pointer (some ⟨b1, 0, none⟩)), (8, .int .i64 ((xs.length : Nat) : Int)), (9, .int .i64 ((lo : Nat) : Int)), (10, .int .i64 ((hi : Nat) : Int)), (23, .int .i64 (IntKind.i64.wrap (((lo + hi) / 2 : Nat) : Int)))] (by kernel_rfl) ?_
    refine OI_eq [(0, .slice A xs.length cap), (2, .func (.func F) #[] #[]), (4, .pointer (some ⟨b1, 0, none⟩)), (8, .int .i64 ((xs.length : Nat) : Int)), (9, .int .i64 ((lo : Nat) : Int)), (10, .int .i64 ((hi : Nat) : Int)), (23, .int .i64 (((lo + hi) / 2 : Nat) : Int))] (by rw [hw11]) ?_
    refine OI_static 7 [(0, .slice A xs.length cap), (2, .func (.func F) #[] #[]), (4, .pointer (some ⟨b1, 0, none⟩)), (8, .int .i64 ((xs.length : Nat) : Int)), (9, .int .i64 ((lo : Nat) : Int)), (10, .int .i64 ((hi : Nat) : Int)), (11, .int .i64 (((lo + hi) / 2 : Nat) : Int))] (by kernel_rfl) ?_
    refine OI_end rfl ?_
    refine X_then ?_
    refine V_seq ?_
    refine V_draws (acts [6]) none_ [[0, 1, 2, 3, 4, 5, 6, 7]] (by kernel_rfl) (by repeat first | exact sure_body (by rintro _ _ ⟨_, _, h, _⟩; exact ⟨_, h⟩) | refine sure_then ?_ | refine sure_block ?_ | refine sure_join ?_) (by kernel_rfl) ?_
    intro w13 hk12 he14 L hL15
    have hsz16 := Keep.size hk12
    replace hb1 := hb1.keep hk12 (fun f => f)
    have hb1lt := hb1.lt
    replace hA := SlT.keep0 hA hk12
    replace hK0 := Keep.tr hK0 (Keep.ofNone hk12); have hzhK0 := Keep.size hK0
    replace hk5 := Keep.tr hk5 (Keep.ofNone hk12); have hzhk5 := Keep.size hk5
    have qhb1 := hb1
    have K17 : Keep none_ w13 w13 := Keep.refl _ _
    obtain rfl := List.mem_singleton.1 hL15
    refine GI_static [3, 4, 5, 6, 7] [(0, .slice A xs.length cap), (2, .func (.func F) #[] #[]), (4, .pointer (some ⟨b1, 0, none⟩)), (8, .int .i64 ((xs.length : Nat) : Int)), (9, .int .i64 ((lo : Nat) : Int)), (10, .int .i64 ((hi : Nat) : Int)), (11, .int .i64 (((lo + hi) / 2 : Nat) : Int)), (24, .func (.func F) #[] #[]), (25, .slice A xs.length cap), (26, .int .i64 (((lo + hi) / 2 : Nat) : Int))] (by kernel_rfl) ?_
    obtain ⟨b18, o18, L18, T18, rfl, hat18⟩ := SlT.open_ hA (by first | omega | (simp only [List.length_map]; omega) | (simp; done) | (simp; omega))
    have hb18lt := hat18.blk.lt
    refine GI_pure (some 27) (.indexAddr 73 (.tmp 25) (.tmp 26)) (by kernel_rfl) (by kernel_rfl) (pure_idxN (b := b18) (o := o18) (len := xs.length) (cap := cap) (kd := .i64) (j := (lo + hi) / 2) (E := 78) (sz := 3) (by_ := 32) (by kernel_rfl) (by kernel_rfl) (by kernel_rfl) (by omega)) ?_
    obtain ⟨x19, hx20⟩ : ∃ x, xs[(lo + hi) / 2]? = some x := ⟨_, List.getElem?_eq_getElem (by first | omega | (simp only [List.length_map]; omega))⟩
    refine GI_agg 78 (.tmp 27) (o18 + ((lo + hi) / 2) * 3) (Ci.cells x19) (some 28) (by kernel_rfl) (by kernel_rfl) (by kernel_rfl) hat18.blk (fun f => f) (m := 3) (by kernel_rfl) (At.elem' hat18 (es_at hx20)) (At.len hat18 (es_at hx20)) ?_
    refine GI_agg 68 (.tmp 4) 0 kl (some 29) (by kernel_rfl) (by kernel_rfl) (by kernel_rfl) qhb1 (fun f => f) (m := 2) (by kernel_rfl) (take_all hkl) hkl ?_
    refine GI_call0 { callee := (Callee.value (Operand.tmp 24)), args := #[(Operand.tmp 28), (Operand.tmp 29)], argTypes := #[78, 68] } F #[.agg (Ci.cells x19).toArray, .agg kl.toArray] (some 30) (by kernel_rfl) (by kernel_rfl) (by kernel_rfl) (by kernel_rfl) hb (hF x19 _) ?_
    rintro _ w21 ⟨rfl, hk22⟩
    refine ⟨_, rfl, ?_⟩
    have hsz23 := Keep.size hk22
    replace hb1 := hb1.keep hk22 (fun f => f)
    have hb1lt := hb1.lt
    replace hat18 := hat18.keep hk22 (fun f => f)
    have hb18lt := hat18.blk.lt
    replace hK0 := Keep.tr hK0 (Keep.ofNone hk22); have hzhK0 := Keep.size hK0
    replace hk5 := Keep.tr hk5 (Keep.ofNone hk22); have hzhk5 := Keep.size hk5
    refine GI_static [] [(0, .slice (some ⟨b18, o18, none⟩) xs.length cap), (2, .func (.func F) #[] #[]), (4, .pointer (some ⟨b1, 0, none⟩)), (8, .int .i64 ((xs.length : Nat) : Int)), (9, .int .i64 ((lo : Nat) : Int)), (10, .int .i64 ((hi : Nat) : Int)), (11, .int .i64 (((lo + hi) / 2 : Nat) : Int)), (31, .bool (decide (ord x19 < 0)))] (by kernel_rfl) ?_
    refine GI_end ?_
    refine X_then ?_
    refine V_if (ord x19 < 0) (by kernel_rfl) (fun hc24 => ?_) (fun hc24 => ?_)
    · skip
      refine V_region ?_
      have hw25 : IntKind.i64.wrap ((((lo + hi) / 2 : Nat) : Int) + 1) = (((lo + hi) / 2 + 1 : Nat) : Int) := (wrap64_id (by omega) (by omega)).trans (by omega)
      refine OI_static 2 [(0, .slice (some ⟨b18, o18, none⟩) xs.length cap), (2, .func (.func F) #[] #[]), (4, .pointer (some ⟨b1, 0, none⟩)), (8, .int .i64 ((xs.length : Nat) : Int)), (10, .int .i64 ((hi : Nat) : Int)), (33, .int .i64 (IntKind.i64.wrap ((((lo + hi) / 2 : Nat) : Int) + 1)))] (by kernel_rfl) ?_
      refine OI_eq [(0, .slice (some ⟨b18, o18, none⟩) xs.length cap), (2, .func (.func F) #[] #[]), (4, .pointer (some ⟨b1, 0, none⟩)), (8, .int .i64 ((xs.length : Nat) : Int)), (10, .int .i64 ((hi : Nat) : Int)), (33, .int .i64 (((lo + hi) / 2 + 1 : Nat) : Int))] (by rw [hw25]) ?_
      refine OI_static 3 [(0, .slice (some ⟨b18, o18, none⟩) xs.length cap), (2, .func (.func F) #[] #[]), (4, .pointer (some ⟨b1, 0, none⟩)), (8, .int .i64 ((xs.length : Nat) : Int)), (9, .int .i64 (((lo + hi) / 2 + 1 : Nat) : Int)), (10, .int .i64 ((hi : Nat) : Int))] (by kernel_rfl) ?_
      refine OI_end rfl ?_
      refine X_block ?_
      exact V_again (hi - ((lo + hi) / 2 + 1)) (by omega) [(0, .slice (some ⟨b18, o18, none⟩) xs.length cap), (2, .func (.func F) #[] #[]), (4, .pointer (some ⟨b1, 0, none⟩)), (8, .int .i64 ((xs.length : Nat) : Int)), (9, .int .i64 (((lo + hi) / 2 + 1 : Nat) : Int)), (10, .int .i64 ((hi : Nat) : Int))] rfl ⟨(lo + hi) / 2 + 1, hi, by omega, by omega, by omega, fun j y hj hy => hm j ((lo + hi) / 2) y x19 (by omega) hy hx20 hc24, haft, hk5, rfl⟩
    · skip
      refine V_region ?_
      refine OI_static 2 [(0, .slice (some ⟨b18, o18, none⟩) xs.length cap), (2, .func (.func F) #[] #[]), (4, .pointer (some ⟨b1, 0, none⟩)), (8, .int .i64 ((xs.length : Nat) : Int)), (9, .int .i64 ((lo : Nat) : Int)), (10, .int .i64 (((lo + hi) / 2 : Nat) : Int))] (by kernel_rfl) ?_
      refine OI_end rfl ?_
      refine X_block ?_
      exact V_again ((lo + hi) / 2 - lo) (by omega) [(0, .slice (some ⟨b18, o18, none⟩) xs.length cap), (2, .func (.func F) #[] #[]), (4, .pointer (some ⟨b1, 0, none⟩)), (8, .int .i64 ((xs.length : Nat) : Int)), (9, .int .i64 ((lo : Nat) : Int)), (10, .int .i64 (((lo + hi) / 2 : Nat) : Int))] rfl ⟨lo, (lo + hi) / 2, by omega, by omega, by omega, hbef, fun j y hj hy hlt => hc24 (hm ((lo + hi) / 2) j x19 y (by omega) hx20 hy hlt), hk5, rfl⟩
  · skip
    refine V_exit ?_
    refine X_exit_then ?_
    refine X_exit_then ?_
    refine X_exit_here ?_
    refine X_then ?_
    refine V_seq ?_
    refine V_draws (acts [11]) none_ [[1, 2, 3, 4, 5, 6, 7, 8, 9, 10, 11, 0, 12, 13, 14, 15]] (by kernel_rfl) (by repeat first | exact sure_body (by rintro _ _ ⟨_, _, h, _⟩; exact ⟨_, h⟩) | refine sure_then ?_ | refine sure_block ?_ | refine sure_join ?_) (by kernel_rfl) ?_
    intro w27 hk26 he28 L hL29
    have hsz30 := Keep.size hk26
    replace hb1 := hb1.keep hk26 (fun f => f)
    have hb1lt := hb1.lt
    replace hA := SlT.keep0 hA hk26
    replace hK0 := Keep.tr hK0 (Keep.ofNone hk26); have hzhK0 := Keep.size hK0
    have qhb1 := hb1
    have K31 : Keep none_ w27 w27 := Keep.refl _ _
    obtain rfl := List.mem_singleton.1 hL29
    refine GI_static [5, 6, 7, 8, 9, 10, 11, 0, 12, 13, 14, 15] [(0, .slice A xs.length cap), (2, .func (.func F) #[] #[]), (4, .pointer (some ⟨b1, 0, none⟩)), (9, .int .i64 ((lo : Nat) : Int)), (39, .bool (decide (((lo : Nat) : Int) < ((xs.length : Nat) : Int))))] (by kernel_rfl) ?_
    by_cases hg32 : ((lo : Nat) : Int) < ((xs.length : Nat) : Int)
    · skip
      refine GI_eq [(0, .slice A xs.length cap), (2, .func (.func F) #[] #[]), (4, .pointer (some ⟨b1, 0, none⟩)), (9, .int .i64 ((lo : Nat) : Int)), (39, .bool true)] (by first | simp [hg32] | rfl) ?_
      refine GI_static [8, 9, 10, 11, 0, 12, 13, 14, 15] [(4, .pointer (some ⟨b1, 0, none⟩)), (9, .int .i64 ((lo : Nat) : Int)), (39, .bool true), (40, .func (.func F) #[] #[]), (41, .slice A xs.length cap), (42, .int .i64 ((lo : Nat) : Int))] (by kernel_rfl) ?_
      obtain ⟨b33, o33, L33, T33, rfl, hat33⟩ := SlT.open_ hA (by first | omega | (simp only [List.length_map]; omega) | (simp; done) | (simp; omega))
      have hb33lt := hat33.blk.lt
      refine GI_pure (some 43) (.indexAddr 73 (.tmp 41) (.tmp 42)) (by kernel_rfl) (by kernel_rfl) (pure_idxN (b := b33) (o := o33) (len := xs.length) (cap := cap) (kd := .i64) (j := lo) (E := 78) (sz := 3) (by_ := 32) (by kernel_rfl) (by kernel_rfl) (by kernel_rfl) (by omega)) ?_
      obtain ⟨x34, hx35⟩ : ∃ x, xs[lo]? = some x := ⟨_, List.getElem?_eq_getElem (by first | omega | (simp only [List.length_map]; omega))⟩
      refine GI_agg 78 (.tmp 43) (o33 + lo * 3) (Ci.cells x34) (some 44) (by kernel_rfl) (by kernel_rfl) (by kernel_rfl) hat33.blk (fun f => f) (m := 3) (by kernel_rfl) (At.elem' hat33 (es_at hx35)) (At.len hat33 (es_at hx35)) ?_
      refine GI_agg 68 (.tmp 4) 0 kl (some 45) (by kernel_rfl) (by kernel_rfl) (by kernel_rfl) qhb1 (fun f => f) (m := 2) (by kernel_rfl) (take_all hkl) hkl ?_
      refine GI_call0 { callee := (Callee.value (Operand.tmp 40)), args := #[(Operand.tmp 44), (Operand.tmp 45)], argTypes := #[78, 68] } F #[.agg (Ci.cells x34).toArray, .agg kl.toArray] (some 46) (by kernel_rfl) (by kernel_rfl) (by kernel_rfl) (by kernel_rfl) hb (hF x34 _) ?_
      rintro _ w36 ⟨rfl, hk37⟩
      refine ⟨_, rfl, ?_⟩
      have hsz38 := Keep.size hk37
      replace hb1 := hb1.keep hk37 (fun f => f)
      have hb1lt := hb1.lt
      replace hat33 := hat33.keep hk37 (fun f => f)
      have hb33lt := hat33.blk.lt
      replace hK0 := Keep.tr hK0 (Keep.ofNone hk37); have hzhK0 := Keep.size hK0
      refine GI_static [] [(6, .int .i64 ((lo : Nat) : Int)), (7, .bool (decide (ord x34 = 0)))] (by kernel_rfl) ?_
      refine GI_end ?_
      refine X_then ?_
      refine V_ret ?_
      have hlh : lo = hi := by omega
      subst hlh
      exact X_return (.tuple #[.int .i64 ((lo : Nat) : Int), .bool (decide (ord x34 = 0))]) rfl ⟨lo, _, rfl, hK0, by omega, hbef, haft, (by rw [hx35])⟩
    · skip
      refine GI_eq [(0, .slice A xs.length cap), (2, .func (.func F) #[] #[]), (4, .pointer (some ⟨b1, 0, none⟩)), (9, .int .i64 ((lo : Nat) : Int)), (39, .bool false)] (by first | simp [hg32] | rfl) ?_
      refine GI_static [] [(6, .int .i64 ((lo : Nat) : Int)), (7, .bool false)] (by kernel_rfl) ?_
      refine GI_end ?_
      refine X_then ?_
      refine V_ret ?_
      have hlh : lo = hi := by omega
      subst hlh
      exact X_return (.tuple #[.int .i64 ((lo : Nat) : Int), .bool false]) rfl ⟨lo, _, rfl, hK0, by omega, hbef, haft, (by rw [List.getElem?_eq_none (by omega)])⟩
end Go.Al.GS


namespace Go.Al.GS
open Go Go.RowKit Go.Proofs
theorem clone_nil (w : World) : Calls Try.prog 34 #[.slice none 0 0] w fun e w' => e = .returned (.slice none 0 0) ∧ w' = w := by
  refine enterV Try.func34 rfl [.slice none 0 0] 8 rfl rfl rfl ?_
  refine V_pick [(0, .slice none 0 0)] rfl ?_
  refine V_seq ?_
  refine V_region ?_
  refine OI_static 1 [(0, .slice none 0 0)] (by kernel_rfl) ?_
  refine OI_end rfl ?_
  refine X_then ?_
  refine V_seq ?_
  refine V_seq ?_
  refine V_region ?_
  refine OI_static 2 [(0, .slice none 0 0), (4, .bool true)] (by kernel_rfl) ?_
  refine OI_end rfl ?_
  refine X_then ?_
  refine V_true rfl ?_
  refine V_seq ?_
  refine V_region ?_
  refine OI_static 1 [(2, .slice none 0 0)] (by kernel_rfl) ?_
  refine OI_end rfl ?_
  refine X_then ?_
  refine V_ret ?_
  refine X_ret_then ?_
  exact X_return _ rfl ⟨rfl, rfl⟩

theorem clone_at (b o cap : Nat) (L : List Value) (T : TypeId) (xs : List Ci) (w : World) (h : At w b o L T 3 cap (xs.map Ci.cells)) (hn : xs.length ≤ 1000000) : Calls Try.prog 34 #[.slice (some ⟨b, o, none⟩) xs.length cap] w fun e w' => ∃ A' cap', e = .returned (.slice A' xs.length cap') ∧ SlT w' 3 Ci.cells A' cap' xs ∧ Keep none_ w w' ∧ (∀ k, inA A' k → w.heap.size ≤ k) := by
  have hblt := h.blk.lt
  have hK0 : Keep none_ w w := Keep.refl _ _
  have hzhK0 := Keep.size hK0
  refine enterV Try.func34 rfl [.slice (some ⟨b, o, none⟩) xs.length cap] 8 rfl rfl rfl ?_
  refine V_pick [(0, .slice (some ⟨b, o, none⟩) xs.length cap)] rfl ?_
  refine V_seq ?_
  refine V_region ?_
  refine OI_static 1 [(0, .slice (some ⟨b, o, none⟩) xs.length cap)] (by kernel_rfl) ?_
  refine OI_end rfl ?_
  refine X_then ?_
  refine V_seq ?_
  refine V_seq ?_
  refine V_region ?_
  refine OI_static 2 [(0, .slice (some ⟨b, o, none⟩) xs.length cap), (4, .bool false)] (by kernel_rfl) ?_
  refine OI_end rfl ?_
  refine X_then ?_
  refine V_false rfl ?_
  refine V_skip ?_
  refine X_then ?_
  refine V_seq ?_
  refine V_region ?_
  refine OI_slit (E := 78) (zv := .agg #[.int .i64 0, .int .i64 0, .string ⟨#[]⟩]) (sz := 3) (by_ := 32) 73 0 #[] [] [] (some 5) (by kernel_rfl) (by kernel_rfl) (by kernel_rfl) (by omega) rfl (by omega) (by intro v hv; cases hv) (by kernel_rfl) rfl ?_
  intro b1 w1 e1 hb1 k1 z1
  have hsz2 := Keep.size k1
  replace h := h.keep k1 (fun f => f)
  have hblt := h.blk.lt
  replace hK0 := Keep.tr hK0 (Keep.ofNone k1); have hzhK0 := Keep.size hK0
  have hb1lt := hb1.lt
  refine OI_static 2 [(5, .slice (some ⟨b1, 0, none⟩) 0 0), (6, .slice (some ⟨b, o, none⟩) xs.length cap)] (by kernel_rfl) ?_
  refine OI_append (t := 73) (at2 := 73) (E := 78) (E2 := 78) (sz := 3) (by_ := 32) (zv := .agg #[.int .i64 0, .int .i64 0, .string ⟨#[]⟩]) (m := 0) (k := xs.length) (.tmp 5) (.tmp 6) (.slice (some ⟨b1, 0, none⟩) 0 0) (.slice (some ⟨b, o, none⟩) xs.length cap) (some 7) (by kernel_rfl) (by kernel_rfl) (by kernel_rfl) (by kernel_rfl) (by kernel_rfl) (by kernel_rfl) (by kernel_rfl) (SlT.slr (slt_blk (f := Ci.cells) (xs := []) hb1 Ci.len rfl)) (SlT.slr (At.slt h)) (one_flat Ci.one) (by omega) (by omega) (by omega) (by omega) ?_
  intro v w9 hap
  obtain ⟨A9, cap9, rfl, h9, hin⟩ := SlT.of (xs := xs) hap.holds (by omega) (by simp) (fun x _ => Ci.len x)
  have hk9 : Keep (only b1) w1 w9 := hap.keep
  have hown : ∀ k, inA A9 k → w.heap.size ≤ k := fun k hk => by rcases hap.own k (hin k hk) with h | h; (have h : k = b1 := h; omega); omega
  have hsz3 := Keep.size hk9
  replace h := h.keep hk9 (by show ¬ (_ = _); omega)
  have hblt := h.blk.lt
  replace hK0 := Keep.fresh hK0 hk9 (by intro i hi hs; first | exact hs | exact Or.inl hs | exact Or.inr hs | (exfalso; have hs2 : i = b1 := hs; omega)); have hzhK0 := Keep.size hK0
  refine OI_pick [(7, .slice A9 (0 + xs.length) cap9)] (by kernel_rfl) ?_
  refine OI_eq [(7, .slice A9 xs.length cap9)] (by rw [Nat.zero_add]) ?_
  refine OI_static 4 [(2, .slice A9 xs.length cap9)] (by kernel_rfl) ?_
  refine OI_end rfl ?_
  refine X_then ?_
  refine V_ret ?_
  exact X_return _ rfl ⟨A9, cap9, rfl, h9, hK0, hown⟩

theorem clone_spec (A : Option Addr) (cap : Nat) (xs : List Ci) (w : World) (hA : SlT w 3 Ci.cells A cap xs) (hn : xs.length ≤ 1000000) : Calls Try.prog 34 #[.slice A xs.length cap] w fun e w' => ∃ A' cap', e = .returned (.slice A' xs.length cap') ∧ SlT w' 3 Ci.cells A' cap' xs ∧ Keep none_ w w' ∧ (∀ k, inA A' k → w.heap.size ≤ k) := by
  rcases Nat.eq_zero_or_pos xs.length with h0 | h0
  · obtain rfl := List.length_eq_zero_iff.1 h0
    rcases hA with ⟨rfl, rfl, _⟩ | ⟨b, o, L, T, rfl, h1, h2, h3, h4, h5⟩
    · exact (clone_nil w).mono (by rintro e w' ⟨rfl, rfl⟩; exact ⟨none, 0, rfl, SlT.nil _ _ _, Keep.refl _ _, fun k hk => (inA_none hk).elim⟩)
    · exact clone_at b o cap L T [] w ⟨h1, h2, h3, h4, h5⟩ hn
  · obtain ⟨b, o, L, T, rfl, h⟩ := hA.open_ h0
    exact clone_at b o cap L T xs w h hn

theorem insert_nil (vb : Nat) (x : Ci) (w : World) (hv : Blk w vb (Ci.cells x) 78) : Calls Try.prog 35 #[.slice none 0 0, .int .i64 0, .slice (some ⟨vb, 0, none⟩) 1 1] w fun e w' => ∃ A' cap', e = .returned (.slice A' 1 cap') ∧ SlT w' 3 Ci.cells A' cap' [x] ∧ Keep none_ w w' ∧ (∀ k, inA A' k → w.heap.size ≤ k) := by
  have hvblt := hv.lt
  have hK0 : Keep none_ w w := Keep.refl _ _
  have hzhK0 := Keep.size hK0
  refine enterV Try.func35 rfl [.slice none 0 0, .int .i64 0, .slice (some ⟨vb, 0, none⟩) 1 1] 95 rfl rfl rfl ?_
  refine V_pick [(0, .slice none 0 0), (1, .int .i64 0), (2, .slice (some ⟨vb, 0, none⟩) 1 1)] rfl ?_
  refine V_seq ?_
  refine V_region ?_
  refine OI_static 1 [(0, .slice none 0 0), (1, .int .i64 0), (2, .slice (some ⟨vb, 0, none⟩) 1 1)] (by kernel_rfl) ?_
  refine OI_end rfl ?_
  refine X_then ?_
  refine V_seq ?_
  refine V_region ?_
  refine OI_static 2 [(0, .slice none 0 0), (1, .int .i64 0), (2, .slice (some ⟨vb, 0, none⟩) 1 1), (10, .slice none 0 0), (11, .int .i64 0)] (by kernel_rfl) ?_
  refine OI_pure (some 12) ((Op.slice 73 (Operand.tmp 10) (some (Operand.tmp 11)) none none)) (by kernel_rfl) (pure_slice (E := 78) (sz := 3) (by_ := 32) (base := none) (len := 0) (cap := 0) (lo := (some (.tmp 11))) (hi := none) (l := 0) (h := 0) (by kernel_rfl) (by kernel_rfl) ⟨.i64, by kernel_rfl⟩ rfl (by omega) (by omega)) ?_
  refine OI_pick [(0, .slice none 0 0), (1, .int .i64 0), (2, .slice (some ⟨vb, 0, none⟩) 1 1)] (by kernel_rfl) ?_
  refine OI_end rfl ?_
  refine X_then ?_
  refine V_seq ?_
  refine V_region ?_
  refine OI_static 3 [(0, .slice none 0 0), (1, .int .i64 0), (2, .slice (some ⟨vb, 0, none⟩) 1 1), (7, .int .i64 1)] (by kernel_rfl) ?_
  refine OI_end rfl ?_
  refine X_then ?_
  refine V_seq ?_
  refine V_seq ?_
  refine V_region ?_
  refine OI_static 2 [(0, .slice none 0 0), (1, .int .i64 0), (2, .slice (some ⟨vb, 0, none⟩) 1 1), (7, .int .i64 1), (16, .bool false)] (by kernel_rfl) ?_
  refine OI_end rfl ?_
  refine X_then ?_
  refine V_false rfl ?_
  refine V_skip ?_
  refine X_then ?_
  refine V_seq ?_
  refine V_region ?_
  refine OI_static 3 [(0, .slice none 0 0), (1, .int .i64 0), (2, .slice (some ⟨vb, 0, none⟩) 1 1), (7, .int .i64 1), (8, .int .i64 0)] (by kernel_rfl) ?_
  refine OI_end rfl ?_
  refine X_then ?_
  refine V_seq ?_
  refine V_seq ?_
  refine V_region ?_
  refine OI_static 3 [(0, .slice none 0 0), (1, .int .i64 0), (2, .slice (some ⟨vb, 0, none⟩) 1 1), (7, .int .i64 1), (8, .int .i64 0), (22, .bool true)] (by kernel_rfl) ?_
  refine OI_end rfl ?_
  refine X_then ?_
  refine V_true rfl ?_
  refine V_seq ?_
  refine V_region ?_
  refine OI_static 2 [(23, .slice none 0 0), (24, .slice (some ⟨vb, 0, none⟩) 1 1)] (by kernel_rfl) ?_
  refine OI_append (t := 73) (at2 := 73) (E := 78) (E2 := 78) (sz := 3) (by_ := 32) (zv := .agg #[.int .i64 0, .int .i64 0, .string ⟨#[]⟩]) (m := 0) (k := 1) (.tmp 23) (.tmp 24) (.slice none 0 0) (.slice (some ⟨vb, 0, none⟩) 1 1) (some 25) (by kernel_rfl) (by kernel_rfl) (by kernel_rfl) (by kernel_rfl) (by kernel_rfl) (by kernel_rfl) (by kernel_rfl) (.inl ⟨rfl, rfl, rfl⟩) (slr_one hv (Ci.len _)) (Ci.one _) (by omega) (by omega) (by omega) (by omega) ?_
  intro v w9 hap
  obtain ⟨A9, cap9, rfl, h9, hin⟩ := SlT.of (xs := [x]) hap.holds rfl (by simp) (fun x _ => Ci.len x)
  have hk9 : Keep none_ w w9 := hap.keep
  have hown : ∀ k, inA A9 k → w.heap.size ≤ k := fun k hk => by rcases hap.own k (hin k hk) with h | h; exact h.elim; exact h
  have hsz1 := Keep.size hk9
  replace hv := hv.keep hk9 (fun f => f)
  have hvblt := hv.lt
  replace hK0 := Keep.tr hK0 (Keep.ofNone hk9); have hzhK0 := Keep.size hK0
  refine OI_pick [(25, .slice A9 (0 + 1) cap9)] (by kernel_rfl) ?_
  refine OI_eq [(25, .slice A9 1 cap9)] (by rw [Nat.zero_add]) ?_
  refine OI_static 4 [(6, .slice A9 1 cap9)] (by kernel_rfl) ?_
  refine OI_end rfl ?_
  refine X_then ?_
  refine V_ret ?_
  refine X_ret_then ?_
  exact X_return _ rfl ⟨A9, cap9, rfl, h9, hK0, hown⟩

theorem insert_at (b o cap vb i : Nat) (L : List Value) (T : TypeId) (xs : List Ci) (x : Ci) (w : World) (h : At w b o L T 3 cap (xs.map Ci.cells)) (hv : Blk w vb (Ci.cells x) 78) (hne : vb ≠ b) (hi : i ≤ xs.length) (hn : xs.length ≤ 1000000) : Calls Try.prog 35 #[.slice (some ⟨b, o, none⟩) xs.length cap, .int .i64 (i : Int), .slice (some ⟨vb, 0, none⟩) 1 1] w fun e w' => ∃ A' cap', e = .returned (.slice A' (xs.length + 1) cap') ∧ SlT w' 3 Ci.cells A' cap' (xs.take i ++ x :: xs.drop i) ∧ Keep (only b) w w' ∧ (∀ k, inA A' k → k = b ∨ w.heap.size ≤ k) := by
  have hblt := h.blk.lt
  have hvblt := hv.lt
  have hle : xs.length ≤ cap := by simpa using h.le
  have hK0 : Keep (only b) w w := Keep.refl _ _
  have hzhK0 := Keep.size hK0
  refine enterV Try.func35 rfl [.slice (some ⟨b, o, none⟩) xs.length cap, .int .i64 ((i : Nat) : Int), .slice (some ⟨vb, 0, none⟩) 1 1] 95 rfl rfl rfl ?_
  refine V_pick [(0, .slice (some ⟨b, o, none⟩) xs.length cap), (1, .int .i64 ((i : Nat) : Int)), (2, .slice (some ⟨vb, 0, none⟩) 1 1)] rfl ?_
  refine V_seq ?_
  refine V_region ?_
  refine OI_static 1 [(0, .slice (some ⟨b, o, none⟩) xs.length cap), (1, .int .i64 ((i : Nat) : Int)), (2, .slice (some ⟨vb, 0, none⟩) 1 1)] (by kernel_rfl) ?_
  refine OI_end rfl ?_
  refine X_then ?_
  refine V_seq ?_
  refine V_region ?_
  refine OI_static 2 [(0, .slice (some ⟨b, o, none⟩) xs.length cap), (1, .int .i64 ((i : Nat) : Int)), (2, .slice (some ⟨vb, 0, none⟩) 1 1), (10, .slice (some ⟨b, o, none⟩) xs.length cap), (11, .int .i64 ((i : Nat) : Int))] (by kernel_rfl) ?_
  refine OI_pure (some 12) ((Op.slice 73 (Operand.tmp 10) (some (Operand.tmp 11)) none none)) (by kernel_rfl) (pure_slice (E := 78) (sz := 3) (by_ := 32) (base := (some ⟨b, o, none⟩)) (len := xs.length) (cap := cap) (lo := (some (.tmp 11))) (hi := none) (l := i) (h := xs.length) (by kernel_rfl) (by kernel_rfl) ⟨.i64, by kernel_rfl⟩ rfl (by omega) (by omega)) ?_
  refine OI_pick [(0, .slice (some ⟨b, o, none⟩) xs.length cap), (1, .int .i64 ((i : Nat) : Int)), (2, .slice (some ⟨vb, 0, none⟩) 1 1)] (by kernel_rfl) ?_
  refine OI_end rfl ?_
  refine X_then ?_
  refine V_seq ?_
  refine V_region ?_
  refine OI_static 3 [(0, .slice (some ⟨b, o, none⟩) xs.length cap), (1, .int .i64 ((i : Nat) : Int)), (2, .slice (some ⟨vb, 0, none⟩) 1 1), (7, .int .i64 1)] (by kernel_rfl) ?_
  refine OI_end rfl ?_
  refine X_then ?_
  refine V_seq ?_
  refine V_seq ?_
  refine V_region ?_
  refine OI_static 2 [(0, .slice (some ⟨b, o, none⟩) xs.length cap), (1, .int .i64 ((i : Nat) : Int)), (2, .slice (some ⟨vb, 0, none⟩) 1 1), (7, .int .i64 1), (16, .bool false)] (by kernel_rfl) ?_
  refine OI_end rfl ?_
  refine X_then ?_
  refine V_false rfl ?_
  refine V_skip ?_
  refine X_then ?_
  refine V_seq ?_
  refine V_region ?_
  refine OI_static 3 [(0, .slice (some ⟨b, o, none⟩) xs.length cap), (1, .int .i64 ((i : Nat) : Int)), (2, .slice (some ⟨vb, 0, none⟩) 1 1), (7, .int .i64 1), (8, .int .i64 ((xs.length : Nat) : Int))] (by kernel_rfl) ?_
  refine OI_end rfl ?_
  refine X_then ?_
  refine V_seq ?_
  refine V_seq ?_
  refine V_region ?_
  refine OI_static 3 [(0, .slice (some ⟨b, o, none⟩) xs.length cap), (1, .int .i64 ((i : Nat) : Int)), (2, .slice (some ⟨vb, 0, none⟩) 1 1), (7, .int .i64 1), (8, .int .i64 ((xs.length : Nat) : Int)), (22, .bool (decide (((i : Nat) : Int) = ((xs.length : Nat) : Int))))] (by kernel_rfl) ?_
  refine OI_end rfl ?_
  refine X_then ?_
  refine V_if (((i : Nat) : Int) = ((xs.length : Nat) : Int)) (by kernel_rfl) (fun hc1 => ?_) (fun hc1 => ?_)
  · skip
    refine V_seq ?_
    refine V_region ?_
    refine OI_static 2 [(23, .slice (some ⟨b, o, none⟩) xs.length cap), (24, .slice (some ⟨vb, 0, none⟩) 1 1)] (by kernel_rfl) ?_
    obtain rfl : i = xs.length := by omega
    refine OI_append (t := 73) (at2 := 73) (E := 78) (E2 := 78) (sz := 3) (by_ := 32) (zv := .agg #[.int .i64 0, .int .i64 0, .string ⟨#[]⟩]) (m := xs.length) (k := 1) (.tmp 23) (.tmp 24) (.slice (some ⟨b, o, none⟩) xs.length cap) (.slice (some ⟨vb, 0, none⟩) 1 1) (some 25) (by kernel_rfl) (by kernel_rfl) (by kernel_rfl) (by kernel_rfl) (by kernel_rfl) (by kernel_rfl) (by kernel_rfl) (SlT.slr (At.slt h)) (slr_one hv (Ci.len _)) (Ci.one _) (by omega) (by omega) (by omega) (by omega) ?_
    intro v w9 hap
    obtain ⟨A9, cap9, rfl, h9, hin⟩ := SlT.of (xs := xs.take xs.length ++ x :: xs.drop xs.length) hap.holds (by simp) (by simp) (fun x _ => Ci.len x)
    have hk9 : Keep (only b) w w9 := hap.keep
    have hown : ∀ k, inA A9 k → k = b ∨ w.heap.size ≤ k := fun k hk => hap.own k (hin k hk)
    have hsz2 := Keep.size hk9
    replace hv := hv.keep hk9 (by show ¬ (_ = _); omega)
    have hvblt := hv.lt
    replace hK0 := Keep.fresh hK0 hk9 (by intro i hi hs; first | exact hs | exact Or.inl hs | exact Or.inr hs | (exfalso; have hs2 : i = b := hs; omega)); have hzhK0 := Keep.size hK0
    refine OI_static 4 [(6, .slice A9 (xs.length + 1) cap9)] (by kernel_rfl) ?_
    refine OI_end rfl ?_
    refine X_then ?_
    refine V_ret ?_
    refine X_ret_then ?_
    exact X_return _ rfl ⟨A9, cap9, rfl, h9, hK0, hown⟩
  · skip
    refine V_skip ?_
    refine X_then ?_
    refine V_seq ?_
    refine V_seq ?_
    refine V_region ?_
    have hw3 : IntKind.i64.wrap (((xs.length : Nat) : Int) + 1) = ((xs.length + 1 : Nat) : Int) := (wrap64_id (by omega) (by omega)).trans (by omega)
    refine OI_static 3 [(0, .slice (some ⟨b, o, none⟩) xs.length cap), (1, .int .i64 ((i : Nat) : Int)), (2, .slice (some ⟨vb, 0, none⟩) 1 1), (7, .int .i64 1), (8, .int .i64 ((xs.length : Nat) : Int)), (28, .int .i64 (IntKind.i64.wrap (((xs.length : Nat) : Int) + 1)))] (by kernel_rfl) ?_
    refine OI_eq [(0, .slice (some ⟨b, o, none⟩) xs.length cap), (1, .int .i64 ((i : Nat) : Int)), (2, .slice (some ⟨vb, 0, none⟩) 1 1), (7, .int .i64 1), (8, .int .i64 ((xs.length : Nat) : Int)), (28, .int .i64 ((xs.length + 1 : Nat) : Int))] (by rw [hw3]) ?_
    refine OI_static 6 [(0, .slice (some ⟨b, o, none⟩) xs.length cap), (1, .int .i64 ((i : Nat) : Int)), (2, .slice (some ⟨vb, 0, none⟩) 1 1), (7, .int .i64 1), (8, .int .i64 ((xs.length : Nat) : Int)), (31, .bool (decide (((xs.length + 1 : Nat) : Int) > ((cap : Nat) : Int))))] (by kernel_rfl) ?_
    refine OI_end rfl ?_
    refine X_then ?_
    refine V_if (((xs.length + 1 : Nat) : Int) > ((cap : Nat) : Int)) (by kernel_rfl) (fun hc4 => ?_) (fun hc4 => ?_)
    · skip
      refine V_seq ?_
      refine V_region ?_
      refine OI_static 2 [(0, .slice (some ⟨b, o, none⟩) xs.length cap), (1, .int .i64 ((i : Nat) : Int)), (2, .slice (some ⟨vb, 0, none⟩) 1 1), (7, .int .i64 1), (8, .int .i64 ((xs.length : Nat) : Int)), (32, .slice (some ⟨b, o, none⟩) xs.length cap), (33, .int .i64 ((i : Nat) : Int))] (by kernel_rfl) ?_
      refine OI_pure (some 34) ((Op.slice 73 (Operand.tmp 32) none (some (Operand.tmp 33)) none)) (by kernel_rfl) (pure_sliceTo (E := 78) (sz := 3) (by_ := 32) (base := (some ⟨b, o, none⟩)) (len := xs.length) (cap := cap) (h := i) (kd := .i64) (by kernel_rfl) (by kernel_rfl) (by kernel_rfl) (by omega)) ?_
      have hw5 : IntKind.i64.wrap (((xs.length : Nat) : Int) + 1) = ((xs.length + 1 : Nat) : Int) := (wrap64_id (by omega) (by omega)).trans (by omega)
      refine OI_static 6 [(0, .slice (some ⟨b, o, none⟩) xs.length cap), (1, .int .i64 ((i : Nat) : Int)), (2, .slice (some ⟨vb, 0, none⟩) 1 1), (7, .int .i64 1), (34, .slice (some ⟨b, o, none⟩) i cap), (37, .int .i64 (IntKind.i64.wrap (((xs.length : Nat) : Int) + 1)))] (by kernel_rfl) ?_
      refine OI_eq [(0, .slice (some ⟨b, o, none⟩) xs.length cap), (1, .int .i64 ((i : Nat) : Int)), (2, .slice (some ⟨vb, 0, none⟩) 1 1), (7, .int .i64 1), (34, .slice (some ⟨b, o, none⟩) i cap), (37, .int .i64 ((xs.length + 1 : Nat) : Int))] (by rw [hw5]) ?_
      have hw6 : IntKind.i64.wrap (((xs.length + 1 : Nat) : Int) - ((i : Nat) : Int)) = ((xs.length + 1 - i : Nat) : Int) := (wrap64_id (by omega) (by omega)).trans (by omega)
      refine OI_static 8 [(0, .slice (some ⟨b, o, none⟩) xs.length cap), (1, .int .i64 ((i : Nat) : Int)), (2, .slice (some ⟨vb, 0, none⟩) 1 1), (7, .int .i64 1), (34, .slice (some ⟨b, o, none⟩) i cap), (39, .int .i64 (IntKind.i64.wrap (((xs.length + 1 : Nat) : Int) - ((i : Nat) : Int))))] (by kernel_rfl) ?_
      refine OI_eq [(0, .slice (some ⟨b, o, none⟩) xs.length cap), (1, .int .i64 ((i : Nat) : Int)), (2, .slice (some ⟨vb, 0, none⟩) 1 1), (7, .int .i64 1), (34, .slice (some ⟨b, o, none⟩) i cap), (39, .int .i64 ((xs.length + 1 - i : Nat) : Int))] (by rw [hw6]) ?_
      refine OI_appmake (t := 73) (E := 78) (at2 := 3) (sz := 3) (by_ := 32) (m := i) (k := xs.length + 1 - i) (N := xs.length + 1) (kd := .i64) (zv := .agg #[.int .i64 0, .int .i64 0, .string ⟨#[]⟩]) (s := .slice (some ⟨b, o, none⟩) i cap) (base := some ⟨b, o, none⟩) (cap := cap) (.tmp 34) (.tmp 39) (some 40) (by kernel_rfl) (by kernel_rfl) (by kernel_rfl) (by kernel_rfl) (by kernel_rfl) (by kernel_rfl) rfl (At.prefT h hi) (by omega) (by omega) (by omega) (by omega) (by kernel_rfl) (by omega) ?_
      intro b9 nc zs w9 hb9 hnc hzs hB9 hk9 hz9
      have hsz7 := Keep.size hk9
      replace hv := hv.keep hk9 (fun f => f)
      have hvblt := hv.lt
      replace h := h.keep hk9 (fun f => f)
      have hblt := h.blk.lt
      replace hK0 := Keep.tr hK0 (Keep.ofNone hk9); have hzhK0 := Keep.size hK0
      have hb9lt := hB9.lt
      obtain ⟨g1, g2, g3, g4, g5⟩ := grow_cells (sz := 3) (n := xs.length) (i := i) (nc := nc) (c := Ci.cells x) (zs := zs) (es := xs.map Ci.cells) h.sizes (by simp) hi (by omega) (Ci.len x) hzs
      refine OI_static 10 [(0, .slice (some ⟨b, o, none⟩) xs.length cap), (1, .int .i64 ((i : Nat) : Int)), (2, .slice (some ⟨vb, 0, none⟩) 1 1), (7, .int .i64 1), (9, .slice (some ⟨b9, 0, none⟩) (xs.length + 1) nc)] (by kernel_rfl) ?_
      refine OI_end rfl ?_
      refine X_then ?_
      refine V_seq ?_
      refine V_region ?_
      refine OI_static 2 [(0, .slice (some ⟨b, o, none⟩) xs.length cap), (1, .int .i64 ((i : Nat) : Int)), (2, .slice (some ⟨vb, 0, none⟩) 1 1), (7, .int .i64 1), (9, .slice (some ⟨b9, 0, none⟩) (xs.length + 1) nc), (41, .slice (some ⟨b9, 0, none⟩) (xs.length + 1) nc), (42, .int .i64 ((i : Nat) : Int))] (by kernel_rfl) ?_
      refine OI_pure (some 43) ((Op.slice 73 (Operand.tmp 41) (some (Operand.tmp 42)) none none)) (by kernel_rfl) (pure_sliceFrom (E := 78) (sz := 3) (by_ := 32) (b := b9) (o := 0) (len := xs.length + 1) (cap := nc) (l := i) (kd := .i64) (by kernel_rfl) (by kernel_rfl) (by kernel_rfl) (by omega) (by omega) (by omega)) ?_
      refine OI_static 4 [(0, .slice (some ⟨b, o, none⟩) xs.length cap), (1, .int .i64 ((i : Nat) : Int)), (7, .int .i64 1), (9, .slice (some ⟨b9, 0, none⟩) (xs.length + 1) nc), (43, .slice (some ⟨b9, 0 + i * 3, none⟩) (xs.length + 1 - i) (nc - i)), (44, .slice (some ⟨vb, 0, none⟩) 1 1)] (by kernel_rfl) ?_
      refine OI_turn (some 45) ((Op.call { callee := (Callee.builtin Builtin.copy), args := #[(Operand.tmp 43), (Operand.tmp 44)], argTypes := #[73, 73] })) (by kernel_rfl) (Blk.lt hB9) (copy_run (t := 73) (E := 78) (at2 := 73) (sz := 3) (by_ := 32) (b := b9) (o := 0 + i * 3) (dl := xs.length + 1 - i) (dc := nc - i) (k := 1) (m := 1) (cells := Ci.cells x) (x := (.tmp 43)) (y := (.tmp 44)) (by kernel_rfl) (by kernel_rfl) hB9 (slr_one hv (Ci.len _)) (by omega) (by omega) (fun u hu => Ci.one _ u (List.mem_of_mem_take hu))) ?_
      intro w8 hB9 hk9 hz10
      replace hB9 : Blk w8 b9 (over (((xs.map Ci.cells).take i).flatten ++ zs) (i * 3) (Ci.cells x)) 78 := by rwa [show (Ci.cells x).take (1 * 3) = Ci.cells x from List.take_of_length_le (by rw [Ci.len]; omega), Nat.zero_add] at hB9
      have hsz11 := Keep.size hk9
      replace hv := hv.keep hk9 (by show ¬ (_ = _); omega)
      have hvblt := hv.lt
      replace h := h.keep hk9 (by show ¬ (_ = _); omega)
      have hblt := h.blk.lt
      replace hK0 := Keep.fresh hK0 hk9 (by intro i hi hs; first | exact hs | exact Or.inl hs | exact Or.inr hs | (exfalso; have hs2 : i = b9 := hs; omega)); have hzhK0 := Keep.size hK0
      refine OI_end rfl ?_
      refine X_then ?_
      refine V_seq ?_
      refine V_draws (acts [8]) (only b9) [[0, 1, 2, 3, 4, 5, 6, 7, 8]] (by kernel_rfl) (by repeat first | exact sure_body (by rintro _ _ ⟨_, _, h, _⟩; exact ⟨_, h⟩) | refine sure_then ?_ | refine sure_block ?_ | refine sure_join ?_) (by kernel_rfl) ?_
      intro w13 hk12 he14 L hL15
      have hsz16 := Keep.size hk12
      replace hv := hv.keep hk12 (fun f => f)
      have hvblt := hv.lt
      replace hB9 := hB9.keep hk12 (fun f => f)
      have hb9lt := hB9.lt
      replace h := h.keep hk12 (fun f => f)
      have hblt := h.blk.lt
      replace hK0 := Keep.tr hK0 (Keep.ofNone hk12); have hzhK0 := Keep.size hK0
      have qhv := hv
      have qhB9 := hB9
      have qh := h
      have K17 : Keep (only b9) w13 w13 := Keep.refl _ _
      obtain rfl := List.mem_singleton.1 hL15
      have hw18 : IntKind.i64.wrap (((i : Nat) : Int) + 1) = ((i + 1 : Nat) : Int) := (wrap64_id (by omega) (by omega)).trans (by omega)
      refine GI_static [4, 5, 6, 7, 8] [(0, .slice (some ⟨b, o, none⟩) xs.length cap), (1, .int .i64 ((i : Nat) : Int)), (9, .slice (some ⟨b9, 0, none⟩) (xs.length + 1) nc), (46, .slice (some ⟨b9, 0, none⟩) (xs.length + 1) nc), (49, .int .i64 (IntKind.i64.wrap (((i : Nat) : Int) + 1)))] (by kernel_rfl) ?_
      refine GI_eq [(0, .slice (some ⟨b, o, none⟩) xs.length cap), (1, .int .i64 ((i : Nat) : Int)), (9, .slice (some ⟨b9, 0, none⟩) (xs.length + 1) nc), (46, .slice (some ⟨b9, 0, none⟩) (xs.length + 1) nc), (49, .int .i64 ((i + 1 : Nat) : Int))] (by rw [hw18]) ?_
      refine GI_pure (some 50) ((Op.slice 73 (Operand.tmp 46) (some (Operand.tmp 49)) none none)) (by kernel_rfl) (by kernel_rfl) (pure_sliceFrom (E := 78) (sz := 3) (by_ := 32) (b := b9) (o := 0) (len := xs.length + 1) (cap := nc) (l := i + 1) (kd := .i64) (by kernel_rfl) (by kernel_rfl) (by kernel_rfl) (by omega) (by omega) (by omega)) ?_
      refine GI_static [7, 8] [(9, .slice (some ⟨b9, 0, none⟩) (xs.length + 1) nc), (50, .slice (some ⟨b9, 0 + (i + 1) * 3, none⟩) (xs.length + 1 - (i + 1)) (nc - (i + 1))), (51, .slice (some ⟨b, o, none⟩) xs.length cap), (52, .int .i64 ((i : Nat) : Int))] (by kernel_rfl) ?_
      refine GI_pure (some 53) ((Op.slice 73 (Operand.tmp 51) (some (Operand.tmp 52)) none none)) (by kernel_rfl) (by kernel_rfl) (pure_sliceFrom (E := 78) (sz := 3) (by_ := 32) (b := b) (o := o) (len := xs.length) (cap := cap) (l := i) (kd := .i64) (by kernel_rfl) (by kernel_rfl) (by kernel_rfl) (by omega) (by omega) (by omega)) ?_
      refine GI_final 8 (by kernel_rfl) (by kernel_rfl) ?_
      refine OI_turn (some 54) ((Op.call { callee := (Callee.builtin Builtin.copy), args := #[(Operand.tmp 50), (Operand.tmp 53)], argTypes := #[73, 73] })) (by kernel_rfl) (Blk.lt hB9) (copy_run (t := 73) (E := 78) (at2 := 73) (sz := 3) (by_ := 32) (b := b9) (o := 0 + (i + 1) * 3) (dl := xs.length + 1 - (i + 1)) (dc := nc - (i + 1)) (k := xs.length - i) (m := xs.length - i) (cells := ((xs.map Ci.cells).drop i).flatten) (x := (.tmp 50)) (y := (.tmp 53)) (by kernel_rfl) (by kernel_rfl) hB9 (At.suffT h hi) (by omega) (by omega) (fun u hu => one_flatten Ci.one u (by rw [List.map_drop]; exact List.mem_of_mem_take hu))) ?_
      intro w19 hB9 hk20 hz21
      replace hB9 : Blk w19 b9 (over (over (((xs.map Ci.cells).take i).flatten ++ zs) (i * 3) (Ci.cells x)) ((i + 1) * 3) ((xs.map Ci.cells).drop i).flatten) 78 := by rwa [show ((xs.map Ci.cells).drop i).flatten.take ((xs.length - i) * 3) = ((xs.map Ci.cells).drop i).flatten from List.take_of_length_le (by omega), Nat.zero_add] at hB9
      have hsz22 := Keep.size hk20
      replace hv := hv.keep hk20 (by show ¬ (_ = _); omega)
      have hvblt := hv.lt
      replace h := h.keep hk20 (by show ¬ (_ = _); omega)
      have hblt := h.blk.lt
      replace hK0 := Keep.fresh hK0 hk20 (by intro i hi hs; first | exact hs | exact Or.inl hs | exact Or.inr hs | (exfalso; have hs2 : i = b9 := hs; omega)); have hzhK0 := Keep.size hK0
      refine OI_end rfl ?_
      refine X_then ?_
      refine V_seq ?_
      refine V_region ?_
      refine OI_static 2 [(6, .slice (some ⟨b9, 0, none⟩) (xs.length + 1) nc)] (by kernel_rfl) ?_
      refine OI_end rfl ?_
      refine X_then ?_
      refine V_ret ?_
      refine X_ret_then ?_
      exact X_return _ rfl ⟨_, nc, rfl, ins_slt hB9 hi (by omega) (by rw [g3, g4]; omega) (by rw [List.length_map]; exact g2) Ci.len, hK0, fun k hk => .inr (by rw [inA_some hk]; omega)⟩
    · skip
      refine V_skip ?_
      refine X_then ?_
      refine V_seq ?_
      refine V_region ?_
      have hw23 : IntKind.i64.wrap (((xs.length : Nat) : Int) + 1) = ((xs.length + 1 : Nat) : Int) := (wrap64_id (by omega) (by omega)).trans (by omega)
      refine OI_static 4 [(1, .int .i64 ((i : Nat) : Int)), (2, .slice (some ⟨vb, 0, none⟩) 1 1), (7, .int .i64 1), (8, .int .i64 ((xs.length : Nat) : Int)), (56, .slice (some ⟨b, o, none⟩) xs.length cap), (59, .int .i64 (IntKind.i64.wrap (((xs.length : Nat) : Int) + 1)))] (by kernel_rfl) ?_
      refine OI_eq [(1, .int .i64 ((i : Nat) : Int)), (2, .slice (some ⟨vb, 0, none⟩) 1 1), (7, .int .i64 1), (8, .int .i64 ((xs.length : Nat) : Int)), (56, .slice (some ⟨b, o, none⟩) xs.length cap), (59, .int .i64 ((xs.length + 1 : Nat) : Int))] (by rw [hw23]) ?_
      refine OI_pure (some 60) ((Op.slice 73 (Operand.tmp 56) none (some (Operand.tmp 59)) none)) (by kernel_rfl) (pure_sliceTo (E := 78) (sz := 3) (by_ := 32) (base := (some ⟨b, o, none⟩)) (len := xs.length) (cap := cap) (h := xs.length + 1) (kd := .i64) (by kernel_rfl) (by kernel_rfl) (by kernel_rfl) (by omega)) ?_
      refine OI_static 6 [(0, .slice (some ⟨b, o, none⟩) (xs.length + 1) cap), (1, .int .i64 ((i : Nat) : Int)), (2, .slice (some ⟨vb, 0, none⟩) 1 1), (7, .int .i64 1), (8, .int .i64 ((xs.length : Nat) : Int))] (by kernel_rfl) ?_
      refine OI_end rfl ?_
      refine X_then ?_
      refine V_seq ?_
      refine V_seq ?_
      refine V_region ?_
      have hw24 : IntKind.i64.wrap (((i : Nat) : Int) + 1) = ((i + 1 : Nat) : Int) := (wrap64_id (by omega) (by omega)).trans (by omega)
      refine OI_static 5 [(0, .slice (some ⟨b, o, none⟩) (xs.length + 1) cap), (1, .int .i64 ((i : Nat) : Int)), (2, .slice (some ⟨vb, 0, none⟩) 1 1), (7, .int .i64 1), (8, .int .i64 ((xs.length : Nat) : Int)), (61, .slice (some ⟨vb, 0, none⟩) 1 1), (62, .slice (some ⟨b, o, none⟩) (xs.length + 1) cap), (65, .int .i64 (IntKind.i64.wrap (((i : Nat) : Int) + 1)))] (by kernel_rfl) ?_
      refine OI_eq [(0, .slice (some ⟨b, o, none⟩) (xs.length + 1) cap), (1, .int .i64 ((i : Nat) : Int)), (2, .slice (some ⟨vb, 0, none⟩) 1 1), (7, .int .i64 1), (8, .int .i64 ((xs.length : Nat) : Int)), (61, .slice (some ⟨vb, 0, none⟩) 1 1), (62, .slice (some ⟨b, o, none⟩) (xs.length + 1) cap), (65, .int .i64 ((i + 1 : Nat) : Int))] (by rw [hw24]) ?_
      refine OI_pure (some 66) ((Op.slice 73 (Operand.tmp 62) (some (Operand.tmp 65)) none none)) (by kernel_rfl) (pure_sliceFrom (E := 78) (sz := 3) (by_ := 32) (b := b) (o := o) (len := xs.length + 1) (cap := cap) (l := i + 1) (kd := .i64) (by kernel_rfl) (by kernel_rfl) (by kernel_rfl) (by omega) (by omega) (by omega)) ?_
      refine OI_value (d := some 67) (op := (Op.call { callee := (Callee.value (Operand.func 50)), args := #[(Operand.tmp 61), (Operand.tmp 66)], argTypes := #[73, 73] })) (v := .bool false) (by kernel_rfl) (overlaps_run (f := 50) (fn := Try.f50) (tS := 73) (tR := 4) (E := 78) (sz := 3) (by_ := 32) (vb := vb) (vo := 0) (b := b) (o := o + (i + 1) * 3) (la := 1) (ca := 1) (lb := xs.length + 1 - (i + 1)) (cb := cap - (i + 1)) rfl (by kernel_rfl) (by kernel_rfl) (by kernel_rfl) (by kernel_rfl) (by kernel_rfl) (by kernel_rfl) hne hv (At.blk h) (by intro hL; have := h.room; rw [hL] at this; simp at this; omega)) ?_
      refine OI_static 8 [(0, .slice (some ⟨b, o, none⟩) (xs.length + 1) cap), (1, .int .i64 ((i : Nat) : Int)), (2, .slice (some ⟨vb, 0, none⟩) 1 1), (7, .int .i64 1), (8, .int .i64 ((xs.length : Nat) : Int)), (68, .bool true)] (by kernel_rfl) ?_
      refine OI_end rfl ?_
      refine X_then ?_
      refine V_true rfl ?_
      refine V_seq ?_
      refine V_draws (acts [8]) (only b) [[0, 1, 2, 3, 4, 5, 6, 7, 8]] (by kernel_rfl) (by repeat first | exact sure_body (by rintro _ _ ⟨_, _, h, _⟩; exact ⟨_, h⟩) | refine sure_then ?_ | refine sure_block ?_ | refine sure_join ?_) (by kernel_rfl) ?_
      intro w26 hk25 he27 L hL28
      have hsz29 := Keep.size hk25
      replace hv := hv.keep hk25 (fun f => f)
      have hvblt := hv.lt
      replace h := h.keep hk25 (fun f => f)
      have hblt := h.blk.lt
      replace hK0 := Keep.tr hK0 (Keep.ofNone hk25); have hzhK0 := Keep.size hK0
      have qhv := hv
      have qh := h
      have K30 : Keep (only b) w26 w26 := Keep.refl _ _
      obtain rfl := List.mem_singleton.1 hL28
      have hw31 : IntKind.i64.wrap (((i : Nat) : Int) + 1) = ((i + 1 : Nat) : Int) := (wrap64_id (by omega) (by omega)).trans (by omega)
      refine GI_static [4, 5, 6, 7, 8] [(0, .slice (some ⟨b, o, none⟩) (xs.length + 1) cap), (1, .int .i64 ((i : Nat) : Int)), (2, .slice (some ⟨vb, 0, none⟩) 1 1), (69, .slice (some ⟨b, o, none⟩) (xs.length + 1) cap), (72, .int .i64 (IntKind.i64.wrap (((i : Nat) : Int) + 1)))] (by kernel_rfl) ?_
      refine GI_eq [(0, .slice (some ⟨b, o, none⟩) (xs.length + 1) cap), (1, .int .i64 ((i : Nat) : Int)), (2, .slice (some ⟨vb, 0, none⟩) 1 1), (69, .slice (some ⟨b, o, none⟩) (xs.length + 1) cap), (72, .int .i64 ((i + 1 : Nat) : Int))] (by rw [hw31]) ?_
      refine GI_pure (some 73) ((Op.slice 73 (Operand.tmp 69) (some (Operand.tmp 72)) none none)) (by kernel_rfl) (by kernel_rfl) (pure_sliceFrom (E := 78) (sz := 3) (by_ := 32) (b := b) (o := o) (len := xs.length + 1) (cap := cap) (l := i + 1) (kd := .i64) (by kernel_rfl) (by kernel_rfl) (by kernel_rfl) (by omega) (by omega) (by omega)) ?_
      refine GI_static [7, 8] [(0, .slice (some ⟨b, o, none⟩) (xs.length + 1) cap), (1, .int .i64 ((i : Nat) : Int)), (2, .slice (some ⟨vb, 0, none⟩) 1 1), (73, .slice (some ⟨b, o + (i + 1) * 3, none⟩) (xs.length + 1 - (i + 1)) (cap - (i + 1))), (74, .slice (some ⟨b, o, none⟩) (xs.length + 1) cap), (75, .int .i64 ((i : Nat) : Int))] (by kernel_rfl) ?_
      refine GI_pure (some 76) ((Op.slice 73 (Operand.tmp 74) (some (Operand.tmp 75)) none none)) (by kernel_rfl) (by kernel_rfl) (pure_sliceFrom (E := 78) (sz := 3) (by_ := 32) (b := b) (o := o) (len := xs.length + 1) (cap := cap) (l := i) (kd := .i64) (by kernel_rfl) (by kernel_rfl) (by kernel_rfl) (by omega) (by omega) (by omega)) ?_
      refine GI_final 8 (by kernel_rfl) (by kernel_rfl) ?_
      obtain ⟨g1, g2, g3⟩ := ins_cells (i := i) (c := Ci.cells x) h (by simp; omega) (by simp; omega) (Ci.len x)
      have hdc := h.dropcells (i := i)
      have hroom := h.room
      rw [List.length_map] at g1 g2 g3 hdc
      have hdl : ((L.drop (o + i * 3)).take ((xs.length + 1 - i) * 3)).take ((xs.length - i) * 3) = (L.drop (o + i * 3)).take ((xs.length - i) * 3) := by rw [List.take_take, Nat.min_eq_left (by omega)]
      refine OI_turn (some 77) ((Op.call { callee := (Callee.builtin Builtin.copy), args := #[(Operand.tmp 73), (Operand.tmp 76)], argTypes := #[73, 73] })) (by kernel_rfl) (Blk.lt (At.blk h)) (copy_run (t := 73) (E := 78) (at2 := 73) (sz := 3) (by_ := 32) (b := b) (o := o + (i + 1) * 3) (dl := xs.length + 1 - (i + 1)) (dc := cap - (i + 1)) (k := xs.length + 1 - i) (m := xs.length - i) (cells := (L.drop (o + i * 3)).take ((xs.length + 1 - i) * 3)) (x := (.tmp 73)) (y := (.tmp 76)) (by kernel_rfl) (by kernel_rfl) (At.blk h) (slr_blk (At.blk h) (by omega) (by omega)) (by omega) (by omega) (fun u hu => one_flatten (xs := xs.drop i) Ci.one u (by rw [List.map_drop, ← hdc, ← hdl]; exact hu))) ?_
      intro w32 hB hk33 hz34
      replace hB : Blk w32 b (over L (o + (i + 1) * 3) ((L.drop (o + i * 3)).take ((xs.length - i) * 3))) T := by rwa [hdl] at hB
      have hsz35 := Keep.size hk33
      replace hv := hv.keep hk33 (by show ¬ (_ = _); omega)
      have hvblt := hv.lt
      replace hK0 := Keep.fresh hK0 hk33 (by intro i hi hs; first | exact hs | exact Or.inl hs | exact Or.inr hs | (exfalso; have hs2 : i = b := hs; omega)); have hzhK0 := Keep.size hK0
      refine OI_end rfl ?_
      refine X_then ?_
      refine V_seq ?_
      refine V_region ?_
      refine OI_static 2 [(0, .slice (some ⟨b, o, none⟩) (xs.length + 1) cap), (2, .slice (some ⟨vb, 0, none⟩) 1 1), (78, .slice (some ⟨b, o, none⟩) (xs.length + 1) cap), (79, .int .i64 ((i : Nat) : Int))] (by kernel_rfl) ?_
      refine OI_pure (some 80) ((Op.slice 73 (Operand.tmp 78) (some (Operand.tmp 79)) none none)) (by kernel_rfl) (pure_sliceFrom (E := 78) (sz := 3) (by_ := 32) (b := b) (o := o) (len := xs.length + 1) (cap := cap) (l := i) (kd := .i64) (by kernel_rfl) (by kernel_rfl) (by kernel_rfl) (by omega) (by omega) (by omega)) ?_
      refine OI_static 4 [(0, .slice (some ⟨b, o, none⟩) (xs.length + 1) cap), (80, .slice (some ⟨b, o + i * 3, none⟩) (xs.length + 1 - i) (cap - i)), (81, .slice (some ⟨vb, 0, none⟩) 1 1)] (by kernel_rfl) ?_
      refine OI_turn (some 82) ((Op.call { callee := (Callee.builtin Builtin.copy), args := #[(Operand.tmp 80), (Operand.tmp 81)], argTypes := #[73, 73] })) (by kernel_rfl) (Blk.lt hB) (copy_run (t := 73) (E := 78) (at2 := 73) (sz := 3) (by_ := 32) (b := b) (o := o + i * 3) (dl := xs.length + 1 - i) (dc := cap - i) (k := 1) (m := 1) (cells := Ci.cells x) (x := (.tmp 80)) (y := (.tmp 81)) (by kernel_rfl) (by kernel_rfl) hB (slr_one hv (Ci.len _)) (by omega) (by omega) (fun u hu => Ci.one _ u (List.mem_of_mem_take hu))) ?_
      intro w36 hB hk37 hz38
      replace hB : Blk w36 b (over (over L (o + (i + 1) * 3) ((L.drop (o + i * 3)).take ((xs.length - i) * 3))) (o + i * 3) (Ci.cells x)) T := by rwa [show (Ci.cells x).take (1 * 3) = Ci.cells x from List.take_of_length_le (by rw [Ci.len]; omega)] at hB
      have hsz39 := Keep.size hk37
      replace hv := hv.keep hk37 (by show ¬ (_ = _); omega)
      have hvblt := hv.lt
      replace hK0 := Keep.fresh hK0 hk37 (by intro i hi hs; first | exact hs | exact Or.inl hs | exact Or.inr hs | (exfalso; have hs2 : i = b := hs; omega)); have hzhK0 := Keep.size hK0
      refine OI_end rfl ?_
      refine X_then ?_
      refine V_seq ?_
      refine V_region ?_
      refine OI_static 2 [(6, .slice (some ⟨b, o, none⟩) (xs.length + 1) cap)] (by kernel_rfl) ?_
      refine OI_end rfl ?_
      refine X_then ?_
      refine V_ret ?_
      refine X_ret_then ?_
      exact X_return _ rfl ⟨_, cap, rfl, ins_slt hB hi (by omega) (by rw [g3]; omega) (by rw [List.length_map]; exact g2) Ci.len, hK0, fun k hk => .inl (inA_some hk)⟩

theorem insert_spec (A : Option Addr) (cap vb i : Nat) (xs : List Ci) (x : Ci) (w : World) (hA : SlT w 3 Ci.cells A cap xs) (hv : Blk w vb (Ci.cells x) 78) (hne : ¬ inA A vb) (hi : i ≤ xs.length) (hn : xs.length ≤ 1000000) : Calls Try.prog 35 #[.slice A xs.length cap, .int .i64 (i : Int), .slice (some ⟨vb, 0, none⟩) 1 1] w fun e w' => ∃ A' cap', e = .returned (.slice A' (xs.length + 1) cap') ∧ SlT w' 3 Ci.cells A' cap' (xs.take i ++ x :: xs.drop i) ∧ Keep (inA A) w w' ∧ (∀ k, inA A' k → inA A k ∨ w.heap.size ≤ k) := by
  rcases hA with ⟨rfl, rfl, h0⟩ | ⟨b, o, L, T, rfl, h1, h2, h3, h4, h5⟩
  · obtain rfl : xs = [] := by simpa using h0
    obtain rfl : i = 0 := by simpa using hi
    exact (insert_nil vb x w hv).mono (by rintro e w' ⟨A', cap', rfl, h1, h2, h3⟩; exact ⟨A', cap', rfl, h1, h2.ofNone, fun k hk => .inr (h3 k hk)⟩)
  · exact (insert_at b o cap vb i L T xs x w ⟨h1, h2, h3, h4, h5⟩ hv (fun h => hne ⟨_, rfl, h⟩) hi hn).mono (by
      rintro e w' ⟨A', cap', rfl, h1, h2, h3⟩
      exact ⟨A', cap', rfl, h1, h2.mono (fun k _ hk => ⟨_, rfl, hk⟩), fun k hk => (h3 k hk).imp (fun h => ⟨_, rfl, h⟩) id⟩)
end Go.Al.GS


namespace Go.Al.GS
open Go Go.RowKit Go.Proofs
/-! ### The grid of integers -/
def ltC (a b a' b' : Int) : Prop := a < a' ∨ (a = a' ∧ b < b')
instance (a b a' b' : Int) : Decidable (ltC a b a' b') := by unfold ltC; infer_instance
theorem ordC_neg (a b : Int) (c : Ci) : ordC a b c < 0 ↔ ltC c.a c.b a b := by
  unfold ordC ltC
  simp only [orI, cmpI]
  rcases Int.lt_trichotomy c.a a with h1 | h1 | h1 <;> rcases Int.lt_trichotomy c.b b with h2 | h2 | h2 <;> simp_all <;> (repeat' split) <;> omega
theorem ordC_zero (a b : Int) (c : Ci) : ordC a b c = 0 ↔ c.a = a ∧ c.b = b := by
  unfold ordC
  simp only [orI, cmpI]
  rcases Int.lt_trichotomy c.a a with h1 | h1 | h1 <;> rcases Int.lt_trichotomy c.b b with h2 | h2 | h2 <;> simp_all <;> (repeat' split) <;> omega
theorem ltC_trans {a b c d e f : Int} (h : ltC a b c d) (k : ltC c d e f) : ltC a b e f := by unfold ltC at *; omega
def Srt (cs : List Ci) : Prop := cs.Pairwise fun x y => ltC x.a x.b y.a y.b
theorem Srt.mono {cs : List Ci} (h : Srt cs) (a b : Int) (i j : Nat) (x y : Ci) (hij : i ≤ j) (hx : cs[i]? = some x) (hy : cs[j]? = some y) (hlt : ordC a b y < 0) : ordC a b x < 0 := by
  rw [ordC_neg] at *
  rcases Nat.lt_or_eq_of_le hij with hij | rfl
  · obtain ⟨h1, rfl⟩ := List.getElem?_eq_some_iff.1 hx
    obtain ⟨h2, rfl⟩ := List.getElem?_eq_some_iff.1 hy
    exact ltC_trans (List.pairwise_iff_getElem.1 h i j h1 h2 hij) hlt
  · rw [hx] at hy; cases hy; exact hlt
structure GrAt (w : World) (g : Nat) (A : Option Addr) (cap : Nat) (cs : List Ci) : Prop where
  blk : Blk w g [.slice A cs.length cap] 75
  sl : SlT w 3 Ci.cells A cap cs
  off : ¬ inA A g
/-- The grid at g holds the cells cs, in order; its array lies in a block of D. -/
def Gr (D : Nat → Prop) (w : World) (g : Nat) (cs : List Ci) : Prop := Srt cs ∧ cs.length ≤ 100000 ∧ ∃ A cap, GrAt w g A cap cs ∧ ∀ k, inA A k → D k

theorem place_spec (g cap : Nat) (A : Option Addr) (cs : List Ci) (a b : Int) (w : World) (h : GrAt w g A cap cs) (hs : Srt cs) (hn : cs.length ≤ 100000) : Calls Try.prog 33 #[.pointer (some ⟨g, 0, none⟩), .int .i64 a, .int .i64 b] w fun e w' => ∃ (i : Nat) (ok : Bool), e = .returned (.tuple #[.int .i64 (i : Int), .bool ok]) ∧ Keep none_ w w' ∧ i ≤ cs.length ∧ (∀ (j : Nat) y, j < i → cs[j]? = some y → ordC a b y < 0) ∧ (∀ (j : Nat) y, i ≤ j → cs[j]? = some y → ¬ ordC a b y < 0) ∧ ok = (match cs[i]? with | some y => decide (ordC a b y = 0) | none => false) := by
  have hg := h.blk
  have hA := h.sl
  have hglt := hg.lt
  have hK0 : Keep none_ w w := Keep.refl _ _
  have hzhK0 := Keep.size hK0
  refine enterV Try.func33 rfl [.pointer (some ⟨g, 0, none⟩), .int .i64 a, .int .i64 b] 18 rfl rfl rfl ?_
  refine V_pick [(0, .pointer (some ⟨g, 0, none⟩)), (1, .int .i64 a), (2, .int .i64 b)] rfl ?_
  refine V_seq ?_
  refine V_region ?_
  refine OI_static 2 [(0, .pointer (some ⟨g, 0, none⟩)), (1, .int .i64 a), (2, .int .i64 b)] (by kernel_rfl) ?_
  refine OI_end rfl ?_
  refine X_then ?_
  refine V_seq ?_
  refine V_region ?_
  refine OI_static 3 [(1, .int .i64 a), (2, .int .i64 b), (10, .pointer (some ⟨g, 0, none⟩))] (by kernel_rfl) ?_
  refine OI_cell 73 (.tmp 10) 0 (.slice A cs.length cap) (some 11) (by kernel_rfl) (by kernel_rfl) hg (m := 1) (by kernel_rfl) rfl ?_
  refine OI_static 7 [(11, .slice A cs.length cap), (14, .agg #[.int .i64 a, .int .i64 b])] (by kernel_rfl) ?_
  refine OI_call { callee := (Callee.value (Operand.func 48)), args := #[(Operand.tmp 11), (Operand.tmp 14), (Operand.func 49)], argTypes := #[73, 68, 91] } 48 #[.slice A cs.length cap, .agg #[.int .i64 a, .int .i64 b], .func (.func 49) #[] #[]] (some 15) (by kernel_rfl) (by kernel_rfl) (by kernel_rfl) (bsearch_spec A cap 49 cs [.int .i64 a, .int .i64 b] (ordC a b) _ hA rfl (by omega) (by kernel_rfl) (fun c w => place1_spec c a b w) (Srt.mono hs a b)) ?_
  rintro _ w1 ⟨i, bb, rfl, hk2, hi, hbef, haft, hbb⟩
  refine ⟨_, rfl, ?_⟩
  have hsz3 := Keep.size hk2
  replace hg := hg.keep hk2 (fun f => f)
  have hglt := hg.lt
  replace hA := SlT.keep0 hA hk2
  replace hK0 := Keep.tr hK0 (Keep.ofNone hk2); have hzhK0 := Keep.size hK0
  refine OI_static 12 [(6, .int .i64 ((i : Nat) : Int)), (7, .bool bb)] (by kernel_rfl) ?_
  refine OI_end rfl ?_
  refine X_then ?_
  refine V_ret ?_
  exact X_return _ rfl ⟨i, bb, rfl, hK0, hi, hbef, haft, hbb⟩

theorem new_spec (D : Nat → Prop) (w : World) : Calls Try.prog 15 #[] w fun e w' => ∃ g, e = .returned (.pointer (some ⟨g, 0, none⟩)) ∧ Gr D w' g [] ∧ Keep none_ w w' ∧ w.heap.size ≤ g := by
  have hK0 : Keep none_ w w := Keep.refl _ _
  have hzhK0 := Keep.size hK0
  refine enterV Try.func15 rfl [] 3 rfl rfl rfl ?_
  refine V_pick [] rfl ?_
  refine V_seq ?_
  refine V_region ?_
  refine OI_static 1 [] (by kernel_rfl) ?_
  refine OI_end rfl ?_
  refine X_then ?_
  refine V_seq ?_
  refine V_region ?_
  refine OI_static 1 [(1, .agg #[.slice none 0 0])] (by kernel_rfl) ?_
  refine OI_box 75 (.tmp 1) (.agg #[.slice none 0 0]) [.slice none 0 0] (some 2) (by kernel_rfl) (by kernel_rfl) (by kernel_rfl) ?_
  intro b1 w1 e1 hb1 k1 z1
  have hsz2 := Keep.size k1
  replace hK0 := Keep.tr hK0 (Keep.ofNone k1); have hzhK0 := Keep.size hK0
  have hb1lt := hb1.lt
  refine OI_static 3 [(0, .pointer (some ⟨b1, 0, none⟩))] (by kernel_rfl) ?_
  refine OI_end rfl ?_
  refine X_then ?_
  refine V_ret ?_
  exact X_return _ rfl ⟨_, rfl, ⟨List.Pairwise.nil, by simp, none, 0, ⟨hb1, SlT.nil _ _ _, fun h => inA_none h⟩, fun k hk => (inA_none hk).elim⟩, hK0, by omega⟩

theorem len_spec (D : Nat → Prop) (g : Nat) (cs : List Ci) (w : World) (h : Gr D w g cs) : Calls Try.prog 18 #[.pointer (some ⟨g, 0, none⟩)] w fun e w' => e = .returned (.int .i64 (cs.length : Int)) ∧ w' = w := by
  obtain ⟨_, _, A, cap, h, _⟩ := h
  have hg := h.blk
  have hA := h.sl
  have hglt := hg.lt
  refine enterV Try.func18 rfl [.pointer (some ⟨g, 0, none⟩)] 10 rfl rfl rfl ?_
  refine V_pick [(0, .pointer (some ⟨g, 0, none⟩))] rfl ?_
  refine V_seq ?_
  refine V_region ?_
  refine OI_static 1 [(0, .pointer (some ⟨g, 0, none⟩))] (by kernel_rfl) ?_
  refine OI_end rfl ?_
  refine X_then ?_
  refine V_seq ?_
  refine V_seq ?_
  refine V_region ?_
  refine OI_static 2 [(0, .pointer (some ⟨g, 0, none⟩)), (4, .bool false)] (by kernel_rfl) ?_
  refine OI_end rfl ?_
  refine X_then ?_
  refine V_false rfl ?_
  refine V_skip ?_
  refine X_then ?_
  refine V_seq ?_
  refine V_region ?_
  refine OI_static 3 [(7, .pointer (some ⟨g, 0, none⟩))] (by kernel_rfl) ?_
  refine OI_cell 73 (.tmp 7) 0 (.slice A cs.length cap) (some 8) (by kernel_rfl) (by kernel_rfl) hg (m := 1) (by kernel_rfl) rfl ?_
  refine OI_static 6 [(2, .int .i64 ((cs.length : Nat) : Int))] (by kernel_rfl) ?_
  refine OI_end rfl ?_
  refine X_then ?_
  refine V_ret ?_
  exact X_return _ rfl ⟨rfl, rfl⟩

def getC (a b : Int) : List Ci → Option ByteArray
  | [] => none
  | x :: l => if x.a = a ∧ x.b = b then some x.v else getC a b l
def setC (a b : Int) (v : ByteArray) : List Ci → List Ci
  | [] => [⟨a, b, v⟩]
  | x :: l => if x.a = a ∧ x.b = b then ⟨a, b, v⟩ :: l else if ltC x.a x.b a b then x :: setC a b v l else ⟨a, b, v⟩ :: x :: l
def delC (a b : Int) : List Ci → List Ci
  | [] => []
  | x :: l => if x.a = a ∧ x.b = b then l else x :: delC a b l
theorem none_later {a b : Int} : ∀ {l : List Ci}, (∀ y ∈ l, ltC a b y.a y.b) → getC a b l = none ∧ delC a b l = l
  | [], _ => ⟨rfl, rfl⟩
  | y :: l, h => by
    have hy := h y (List.mem_cons_self ..)
    have hne : ¬ (y.a = a ∧ y.b = b) := by unfold ltC at hy; omega
    obtain ⟨h1, h2⟩ := none_later (fun z hz => h z (List.mem_cons_of_mem _ hz))
    exact ⟨by simp only [getC, if_neg hne, h1], by simp only [delC, if_neg hne, h2]⟩
theorem place_at {a b : Int} : ∀ (cs : List Ci) (i : Nat), Srt cs → i ≤ cs.length → (∀ (j : Nat) y, j < i → cs[j]? = some y → ordC a b y < 0) → (∀ (j : Nat) y, i ≤ j → cs[j]? = some y → ¬ ordC a b y < 0) →
    (∃ y, cs[i]? = some y ∧ ordC a b y = 0 ∧ y.a = a ∧ y.b = b ∧ getC a b cs = some y.v ∧ (∀ v, cs.set i ⟨a, b, v⟩ = setC a b v cs) ∧ cs.take i ++ cs.drop (i + 1) = delC a b cs) ∨
    ((∀ y, cs[i]? = some y → ordC a b y ≠ 0) ∧ getC a b cs = none ∧ (∀ v, cs.take i ++ ⟨a, b, v⟩ :: cs.drop i = setC a b v cs) ∧ delC a b cs = cs)
  | [], i, _, hi, _, _ => by
    obtain rfl : i = 0 := by simpa using hi
    right; exact ⟨fun y hy => by simp at hy, rfl, fun v => rfl, rfl⟩
  | x :: l, 0, hs, _, _, h2 => by
    have hx := h2 0 x (Nat.le_refl _) rfl
    have hs := List.pairwise_cons.1 hs
    by_cases h0 : ordC a b x = 0
    · left
      have he := (ordC_zero a b x).1 h0
      exact ⟨x, rfl, h0, he.1, he.2, by simp only [getC, if_pos he], fun v => by simp only [List.set_cons_zero, setC, if_pos he], by simp only [delC, if_pos he]; simp⟩
    · right
      have hne : ¬ (x.a = a ∧ x.b = b) := fun h => h0 ((ordC_zero a b x).2 h)
      have hnl : ¬ ltC x.a x.b a b := fun h => hx ((ordC_neg a b x).2 h)
      have hgt : ltC a b x.a x.b := by unfold ltC at *; omega
      obtain ⟨h3, h4⟩ := none_later (a := a) (b := b) (l := l) (fun y hy => ltC_trans hgt (hs.1 y hy))
      refine ⟨fun y hy => by simp at hy; subst hy; exact h0, by simp only [getC, if_neg hne, h3], fun v => by simp only [setC, if_neg hne, if_neg hnl]; simp, by simp only [delC, if_neg hne, h4]⟩
  | x :: l, i + 1, hs, hi, h1, h2 => by
    have hx := h1 0 x (Nat.succ_pos _) rfl
    have hlt := (ordC_neg a b x).1 hx
    have hne : ¬ (x.a = a ∧ x.b = b) := by unfold ltC at hlt; omega
    have hs := List.pairwise_cons.1 hs
    rcases place_at l i hs.2 (by simpa using hi) (fun j y hj hy => h1 (j + 1) y (by omega) (by simpa using hy)) (fun j y hj hy => h2 (j + 1) y (by omega) (by simpa using hy)) with ⟨y, g1, g2, g3, g4, g5, g6, g7⟩ | ⟨g1, g2, g3, g4⟩
    · left; exact ⟨y, by simpa using g1, g2, g3, g4, by simp only [getC, if_neg hne, g5], fun v => by simp only [List.set_cons_succ, setC, if_neg hne, if_pos hlt, g6], by simp only [delC, if_neg hne, ← g7]; simp⟩
    · right; exact ⟨fun y hy => g1 y (by simpa using hy), by simp only [getC, if_neg hne, g2], fun v => by simp only [setC, if_neg hne, if_pos hlt, ← g3 v]; simp, by simp only [delC, if_neg hne, g4]⟩

theorem get_spec (D : Nat → Prop) (g : Nat) (cs : List Ci) (a b : Int) (w : World) (h : Gr D w g cs) : Calls Try.prog 17 #[.pointer (some ⟨g, 0, none⟩), .int .i64 a, .int .i64 b] w fun e w' => e = .returned (.tuple #[.string ((getC a b cs).getD (ByteArray.mk #[])), .bool (getC a b cs).isSome]) ∧ Keep none_ w w' := by
  obtain ⟨hs, hlen, A, cap, h, _⟩ := h
  have hgA := h.off
  have hg := h.blk
  have hA := h.sl
  have hglt := hg.lt
  have hK0 : Keep none_ w w := Keep.refl _ _
  have hzhK0 := Keep.size hK0
  refine enterV Try.func17 rfl [.pointer (some ⟨g, 0, none⟩), .int .i64 a, .int .i64 b] 30 rfl rfl rfl ?_
  refine V_pick [(0, .pointer (some ⟨g, 0, none⟩)), (1, .int .i64 a), (2, .int .i64 b)] rfl ?_
  refine V_seq ?_
  refine V_region ?_
  refine OI_static 2 [(0, .pointer (some ⟨g, 0, none⟩)), (1, .int .i64 a), (2, .int .i64 b), (6, (Value.string { data := #[] }))] (by kernel_rfl) ?_
  refine OI_end rfl ?_
  refine X_then ?_
  refine V_seq ?_
  refine V_seq ?_
  refine V_region ?_
  refine OI_static 2 [(0, .pointer (some ⟨g, 0, none⟩)), (1, .int .i64 a), (2, .int .i64 b), (6, (Value.string { data := #[] })), (10, .bool false)] (by kernel_rfl) ?_
  refine OI_end rfl ?_
  refine X_then ?_
  refine V_false rfl ?_
  refine V_skip ?_
  refine X_then ?_
  refine V_seq ?_
  refine V_region ?_
  refine OI_static 3 [(0, .pointer (some ⟨g, 0, none⟩)), (6, (Value.string { data := #[] })), (13, .pointer (some ⟨g, 0, none⟩)), (14, .int .i64 a), (15, .int .i64 b)] (by kernel_rfl) ?_
  refine OI_call { callee := (Callee.value (Operand.func 33)), args := #[(Operand.tmp 13), (Operand.tmp 14), (Operand.tmp 15)], argTypes := #[32, 3, 3] } 33 #[.pointer (some ⟨g, 0, none⟩), .int .i64 a, .int .i64 b] (some 16) (by kernel_rfl) (by kernel_rfl) (by kernel_rfl) (place_spec g cap A cs a b _ ⟨hg, hA, hgA⟩ hs hlen) ?_
  rintro _ w1 ⟨i, bb, rfl, hk2, hi, hbef, haft, hbb⟩
  refine ⟨_, rfl, ?_⟩
  have hsz3 := Keep.size hk2
  replace hg := hg.keep hk2 (fun f => f)
  have hglt := hg.lt
  replace hA := SlT.keep0 hA hk2
  replace hK0 := Keep.tr hK0 (Keep.ofNone hk2); have hzhK0 := Keep.size hK0
  refine OI_static 9 [(0, .pointer (some ⟨g, 0, none⟩)), (6, (Value.string { data := #[] })), (7, .bool bb), (8, .int .i64 ((i : Nat) : Int))] (by kernel_rfl) ?_
  refine OI_end rfl ?_
  refine X_then ?_
  refine V_seq ?_
  refine V_seq ?_
  refine V_region ?_
  refine OI_static 1 [(0, .pointer (some ⟨g, 0, none⟩)), (6, (Value.string { data := #[] })), (7, .bool bb), (8, .int .i64 ((i : Nat) : Int)), (19, .bool bb)] (by kernel_rfl) ?_
  refine OI_end rfl ?_
  refine X_then ?_
  refine V_ifb (bb) (by kernel_rfl) (fun hc4 => ?_) (fun hc4 => ?_)
  · skip
    rcases place_at cs i hs hi hbef haft with ⟨y, g1, g2, g3, g4, g5, g6, g7⟩ | ⟨g1, _⟩
    rotate_left
    · exact absurd hc4 (by rw [hbb]; split <;> simp_all)
    have hilt := (List.getElem?_eq_some_iff.1 g1).1
    refine V_region ?_
    refine OI_static 3 [(7, .bool bb), (8, .int .i64 ((i : Nat) : Int)), (22, .pointer (some ⟨g, 0, none⟩))] (by kernel_rfl) ?_
    refine OI_cell 73 (.tmp 22) 0 (.slice A cs.length cap) (some 23) (by kernel_rfl) (by kernel_rfl) hg (m := 1) (by kernel_rfl) rfl ?_
    refine OI_static 5 [(7, .bool bb), (23, .slice A cs.length cap), (24, .int .i64 ((i : Nat) : Int))] (by kernel_rfl) ?_
    obtain ⟨b5, o5, L5, T5, rfl, hat5⟩ := SlT.open_ hA (by first | omega | (simp only [List.length_map]; omega) | (simp; done) | (simp; omega))
    have hb5lt := hat5.blk.lt
    refine OI_pure (some 25) (.indexAddr 73 (.tmp 23) (.tmp 24)) (by kernel_rfl) (pure_idxN (b := b5) (o := o5) (len := cs.length) (cap := cap) (kd := .i64) (j := i) (E := 78) (sz := 3) (by_ := 32) (by kernel_rfl) (by kernel_rfl) (by kernel_rfl) (by omega)) ?_
    refine OI_static 7 [(7, .bool bb), (26, .pointer (some ⟨b5, o5 + i * 3 + 2, none⟩))] (by kernel_rfl) ?_
    refine OI_cell 9 (.tmp 26) (o5 + i * 3 + 2) (.string y.v) (some 27) (by kernel_rfl) (by kernel_rfl) hat5.blk (m := 1) (by kernel_rfl) (At.cell hat5 (es_at g1) rfl) ?_
    refine OI_static 9 [(6, .string y.v), (7, .bool bb)] (by kernel_rfl) ?_
    refine OI_end rfl ?_
    refine X_then ?_
    refine V_seq ?_
    refine V_region ?_
    refine OI_static 4 [(6, .string y.v), (7, .bool bb)] (by kernel_rfl) ?_
    refine OI_end rfl ?_
    refine X_then ?_
    refine V_ret ?_
    exact X_return (.tuple #[.string y.v, .bool bb]) rfl ⟨by rw [g5, hc4]; rfl, hK0⟩
  · skip
    rcases place_at cs i hs hi hbef haft with ⟨y, g1, g2, _⟩ | ⟨g1, g2, g3, g4⟩
    · exact absurd hc4 (by rw [hbb, g1]; simp [g2])
    refine V_skip ?_
    refine X_then ?_
    refine V_seq ?_
    refine V_region ?_
    refine OI_static 4 [(6, (Value.string { data := #[] })), (7, .bool bb)] (by kernel_rfl) ?_
    refine OI_end rfl ?_
    refine X_then ?_
    refine V_ret ?_
    exact X_return (.tuple #[(Value.string { data := #[] }), .bool bb]) rfl ⟨by rw [g2, hc4]; rfl, hK0⟩

end Go.Al.GS


namespace Go.Al.GS
open Go Go.RowKit Go.Proofs
theorem setC_mem {a b : Int} {v : ByteArray} {y : Ci} : ∀ {cs : List Ci}, y ∈ setC a b v cs → (y.a = a ∧ y.b = b) ∨ y ∈ cs
  | [], h => by simp only [setC, List.mem_singleton] at h; subst h; exact .inl ⟨rfl, rfl⟩
  | x :: l, h => by
    simp only [setC] at h
    split at h
    · rcases List.mem_cons.1 h with rfl | h
      · exact .inl ⟨rfl, rfl⟩
      · exact .inr (List.mem_cons_of_mem _ h)
    · split at h
      · rcases List.mem_cons.1 h with rfl | h
        · exact .inr (List.mem_cons_self ..)
        · exact (setC_mem h).imp id (List.mem_cons_of_mem _)
      · rcases List.mem_cons.1 h with rfl | h
        · exact .inl ⟨rfl, rfl⟩
        · exact .inr h
theorem Srt.set {a b : Int} {v : ByteArray} : ∀ {cs : List Ci}, Srt cs → Srt (setC a b v cs) ∧ (setC a b v cs).length ≤ cs.length + 1
  | [], _ => ⟨by simp [setC, Srt], by simp [setC]⟩
  | x :: l, h => by
    have h := List.pairwise_cons.1 h
    simp only [setC]
    split
    · rename_i he
      exact ⟨List.pairwise_cons.2 ⟨fun y hy => by have := h.1 y hy; rw [he.1, he.2] at this; exact this, h.2⟩, by simp⟩
    · rename_i he
      split
      · rename_i hlt
        obtain ⟨h1, h2⟩ := Srt.set (a := a) (b := b) (v := v) h.2
        refine ⟨List.pairwise_cons.2 ⟨fun y hy => ?_, h1⟩, by simpa using h2⟩
        rcases setC_mem hy with ⟨e1, e2⟩ | hy
        · rw [e1, e2]; exact hlt
        · exact h.1 y hy
      · rename_i hnl
        have hgt : ltC a b x.a x.b := by unfold ltC at *; omega
        refine ⟨List.pairwise_cons.2 ⟨fun y hy => ?_, List.pairwise_cons.2 h⟩, by simp⟩
        rcases List.mem_cons.1 hy with rfl | hy
        · exact hgt
        · exact ltC_trans hgt (h.1 y hy)

theorem set_spec (D : Nat → Prop) (g : Nat) (cs : List Ci) (a b : Int) (v : ByteArray) (w : World) (h : Gr D w g cs) (hD : ∀ k, w.heap.size ≤ k → D k) (hmax : cs.length < 100000) : Calls Try.prog 16 #[.pointer (some ⟨g, 0, none⟩), .int .i64 a, .int .i64 b, .string v] w fun e w' => e = .returned (.tuple #[]) ∧ Gr D w' g (setC a b v cs) ∧ Keep (only g) w w' := by
  obtain ⟨hs, hlen, A, cap, h, hDA⟩ := h
  have hgA := h.off
  have hg := h.blk
  have hA := h.sl
  have hglt := hg.lt
  have hltA := SlT.lt hA
  have hK0 : Keep (only g) w w := Keep.refl _ _
  have hzhK0 := Keep.size hK0
  refine enterV Try.func16 rfl [.pointer (some ⟨g, 0, none⟩), .int .i64 a, .int .i64 b, .string v] 44 rfl rfl rfl ?_
  refine V_pick [(0, .pointer (some ⟨g, 0, none⟩)), (1, .int .i64 a), (2, .int .i64 b), (3, .string v)] rfl ?_
  refine V_seq ?_
  refine V_seq ?_
  refine V_region ?_
  refine OI_static 2 [(0, .pointer (some ⟨g, 0, none⟩)), (1, .int .i64 a), (2, .int .i64 b), (3, .string v), (12, .bool false)] (by kernel_rfl) ?_
  refine OI_end rfl ?_
  refine X_then ?_
  refine V_false rfl ?_
  refine V_skip ?_
  refine X_then ?_
  refine V_seq ?_
  refine V_region ?_
  refine OI_static 3 [(0, .pointer (some ⟨g, 0, none⟩)), (1, .int .i64 a), (2, .int .i64 b), (3, .string v), (14, .pointer (some ⟨g, 0, none⟩)), (15, .int .i64 a), (16, .int .i64 b)] (by kernel_rfl) ?_
  refine OI_call { callee := (Callee.value (Operand.func 33)), args := #[(Operand.tmp 14), (Operand.tmp 15), (Operand.tmp 16)], argTypes := #[32, 3, 3] } 33 #[.pointer (some ⟨g, 0, none⟩), .int .i64 a, .int .i64 b] (some 17) (by kernel_rfl) (by kernel_rfl) (by kernel_rfl) (place_spec g cap A cs a b _ ⟨hg, hA, hgA⟩ hs hlen) ?_
  rintro _ w5 ⟨i, bb, rfl, hk6, hi, hbef, haft, hbb⟩
  refine ⟨_, rfl, ?_⟩
  have hsz7 := Keep.size hk6
  replace hg := hg.keep hk6 (fun f => f)
  have hglt := hg.lt
  replace hA := SlT.keep0 hA hk6
  replace hK0 := Keep.tr hK0 (Keep.ofNone hk6); have hzhK0 := Keep.size hK0
  refine OI_static 9 [(0, .pointer (some ⟨g, 0, none⟩)), (1, .int .i64 a), (2, .int .i64 b), (3, .string v), (8, .int .i64 ((i : Nat) : Int)), (9, .bool bb)] (by kernel_rfl) ?_
  refine OI_end rfl ?_
  refine X_then ?_
  refine V_seq ?_
  refine V_region ?_
  refine OI_static 3 [(0, .pointer (some ⟨g, 0, none⟩)), (1, .int .i64 a), (2, .int .i64 b), (3, .string v), (8, .int .i64 ((i : Nat) : Int)), (9, .bool bb), (22, .pointer (some ⟨g, 0, none⟩))] (by kernel_rfl) ?_
  refine OI_cell 73 (.tmp 22) 0 (.slice A cs.length cap) (some 23) (by kernel_rfl) (by kernel_rfl) hg (m := 1) (by kernel_rfl) rfl ?_
  refine OI_call { callee := (Callee.value (Operand.func 34)), args := #[(Operand.tmp 23)], argTypes := #[73] } 34 #[.slice A cs.length cap] (some 24) (by kernel_rfl) (by kernel_rfl) (by kernel_rfl) (clone_spec A cap cs _ hA (by omega)) ?_
  rintro _ w10 ⟨A9, cap9, rfl, h9, hk11, hown9⟩
  refine ⟨_, rfl, ?_⟩
  have hsz12 := Keep.size hk11
  replace hg := hg.keep hk11 (fun f => f)
  have hglt := hg.lt
  replace hA := SlT.keep0 hA hk11
  replace hK0 := Keep.tr hK0 (Keep.ofNone hk11); have hzhK0 := Keep.size hK0
  have hlt9 := SlT.lt h9
  refine OI_static 6 [(0, .pointer (some ⟨g, 0, none⟩)), (1, .int .i64 a), (2, .int .i64 b), (3, .string v), (8, .int .i64 ((i : Nat) : Int)), (9, .bool bb), (10, .slice A9 cs.length cap9)] (by kernel_rfl) ?_
  refine OI_end rfl ?_
  refine X_then ?_
  refine V_seq ?_
  refine V_seq ?_
  refine V_region ?_
  refine OI_static 1 [(0, .pointer (some ⟨g, 0, none⟩)), (1, .int .i64 a), (2, .int .i64 b), (3, .string v), (8, .int .i64 ((i : Nat) : Int)), (10, .slice A9 cs.length cap9), (25, .bool bb)] (by kernel_rfl) ?_
  refine OI_end rfl ?_
  refine X_then ?_
  refine V_ifb (bb) (by kernel_rfl) (fun hc13 => ?_) (fun hc13 => ?_)
  · skip
    rcases place_at cs i hs hi hbef haft with ⟨y, g1, g2, g3, g4, g5, g6, g7⟩ | ⟨g1, _⟩
    rotate_left
    · exact absurd hc13 (by rw [hbb]; split <;> simp_all)
    have hilt := (List.getElem?_eq_some_iff.1 g1).1
    refine V_region ?_
    refine OI_static 3 [(0, .pointer (some ⟨g, 0, none⟩)), (10, .slice A9 cs.length cap9), (26, .slice A9 cs.length cap9), (27, .int .i64 ((i : Nat) : Int)), (28, .string v)] (by kernel_rfl) ?_
    obtain ⟨b14, o14, L14, T14, rfl, hat14⟩ := SlT.open_ h9 (by first | omega | (simp only [List.length_map]; omega) | (simp; done) | (simp; omega))
    have hb14lt := hat14.blk.lt
    refine OI_pure (some 29) (.indexAddr 73 (.tmp 26) (.tmp 27)) (by kernel_rfl) (pure_idxN (b := b14) (o := o14) (len := cs.length) (cap := cap9) (kd := .i64) (j := i) (E := 78) (sz := 3) (by_ := 32) (by kernel_rfl) (by kernel_rfl) (by kernel_rfl) (by omega)) ?_
    refine OI_static 5 [(0, .pointer (some ⟨g, 0, none⟩)), (10, .slice (some ⟨b14, o14, none⟩) cs.length cap9), (28, .string v), (30, .pointer (some ⟨b14, o14 + i * 3 + 2, none⟩))] (by kernel_rfl) ?_
    refine OI_set (m := 1) (kd := false) 9 (.tmp 30) (.tmp 28) (o14 + i * 3 + 2) (.string v) [.string v] none (by kernel_rfl) (by kernel_rfl) (by kernel_rfl) (At.blk hat14) (by kernel_rfl) (by kernel_rfl) rfl (by have h1 := At.room hat14; have h2 := At.le hat14; rw [List.length_map] at h2; omega) (by simp [Value.oneCell']) ?_
    intro w8 hn8 hk8 hz8
    have hat8 := At.set (y := (⟨a, b, v⟩ : Ci)) (k := 2) hat14 g1 (by omega) (by simp [Ci.cells, over, g3, g4]) hn8
    have hbge := hown9 b14 ⟨_, rfl, rfl⟩
    have hsz15 := Keep.size hk8
    replace hg := hg.keep hk8 (by show ¬ (_ = _); omega)
    have hglt := hg.lt
    replace hA := SlT.keep hA hk8 (fun k hk hs => by have hs : k = b14 := hs; have h2 := hltA _ hk; omega)
    replace hK0 := Keep.fresh hK0 hk8 (by intro i hi hs; first | exact hs | exact Or.inl hs | exact Or.inr hs | (exfalso; have hs2 : i = b14 := hs; omega)); have hzhK0 := Keep.size hK0
    refine OI_end rfl ?_
    refine X_then ?_
    refine V_region ?_
    refine OI_static 4 [(41, .slice (some ⟨b14, o14, none⟩) cs.length cap9), (43, .pointer (some ⟨g, 0, none⟩))] (by kernel_rfl) ?_
    refine OI_set (m := 1) (kd := false) 73 (.tmp 43) (.tmp 41) 0 (.slice (some ⟨b14, o14, none⟩) cs.length cap9) [.slice (some ⟨b14, o14, none⟩) cs.length cap9] none (by kernel_rfl) (by kernel_rfl) (by kernel_rfl) hg (by kernel_rfl) (by kernel_rfl) (by kernel_rfl) (Nat.le_of_ble_eq_true (by kernel_rfl)) (by simp [Value.oneCell']) ?_
    intro w16 hg_19 hk17 hz18
    replace hg_19 : Blk w16 g [.slice (some ⟨b14, o14, none⟩) cs.length cap9] 75 := hg_19
    have hsz20 := Keep.size hk17
    replace hat8 := hat8.keep hk17 (by show ¬ (_ = _); omega)
    have hb14lt := hat8.blk.lt
    replace hA := SlT.keep hA hk17 (fun k hk hs => by have hs : k = g := hs; subst hs; exact hgA hk)
    replace hK0 := Keep.fresh hK0 hk17 (by intro i hi hs; first | exact hs | exact Or.inl hs | exact Or.inr hs | (exfalso; have hs2 : i = g := hs; omega)); have hzhK0 := Keep.size hK0
    refine OI_end rfl ?_
    obtain ⟨hs1, hs2⟩ := Srt.set (a := a) (b := b) (v := v) hs
    have hl : (setC a b v cs).length = cs.length := by rw [← g6 v]; simp
    exact X_end _ rfl ⟨rfl, ⟨hs1, by omega, _, cap9, ⟨by rw [hl]; exact hg_19, by rw [← g6 v]; exact At.slt hat8, fun h => by have := inA_some h; omega⟩, fun k hk => hD k (by have := inA_some hk; omega)⟩, hK0⟩
  · skip
    rcases place_at cs i hs hi hbef haft with ⟨y, g1, g2, _⟩ | ⟨g1, g2, g3, g4⟩
    · exact absurd hc13 (by rw [hbb, g1]; simp [g2])
    refine V_region ?_
    refine OI_static 7 [(0, .pointer (some ⟨g, 0, none⟩)), (31, .slice A9 cs.length cap9), (32, .int .i64 ((i : Nat) : Int)), (37, .agg #[.int .i64 a, .int .i64 b, .string v])] (by kernel_rfl) ?_
    refine OI_slit (E := 78) (zv := .agg #[.int .i64 0, .int .i64 0, .string ⟨#[]⟩]) (sz := 3) (by_ := 32) 73 1 #[(0, (Operand.tmp 37))] [.agg #[.int .i64 a, .int .i64 b, .string v]] [.int .i64 a, .int .i64 b, .string v] (some 38) (by kernel_rfl) (by kernel_rfl) (by kernel_rfl) (by omega) rfl (by omega) (by intro v hv; simp only [List.mem_cons, List.not_mem_nil, or_false] at hv; rcases hv with rfl <;> rfl) (by kernel_rfl) rfl ?_
    intro b21 w21 e21 hb21 k21 z21
    have hsz22 := Keep.size k21
    replace hg := hg.keep k21 (fun f => f)
    have hglt := hg.lt
    replace hA := SlT.keep0 hA k21
    replace h9 := SlT.keep0 h9 k21
    replace hK0 := Keep.tr hK0 (Keep.ofNone k21); have hzhK0 := Keep.size hK0
    have hb21lt := hb21.lt
    have hne9 : ¬ inA A9 b21 := fun hs => by have h1 := hlt9 _ hs; have h2 := hown9 _ hs; omega
    refine OI_call { callee := (Callee.value (Operand.func 35)), args := #[(Operand.tmp 31), (Operand.tmp 32), (Operand.tmp 38)], argTypes := #[73, 3, 73] } 35 #[.slice A9 cs.length cap9, .int .i64 ((i : Nat) : Int), .slice (some ⟨b21, 0, none⟩) 1 1] (some 39) (by kernel_rfl) (by kernel_rfl) (by kernel_rfl) (insert_spec A9 cap9 b21 i cs ⟨a, b, v⟩ _ h9 hb21 hne9 hi (by omega)) ?_
    rintro _ w23 ⟨A10, cap10, rfl, h10, hk24, hown10⟩
    refine ⟨_, rfl, ?_⟩
    have hsz25 := Keep.size hk24
    replace hg := hg.keep hk24 (fun hs => by have h1 := hlt9 _ hs; have h2 := hown9 _ hs; omega)
    have hglt := hg.lt
    replace hb21 := hb21.keep hk24 (fun hs => by have h1 := hlt9 _ hs; have h2 := hown9 _ hs; omega)
    have hb21lt := hb21.lt
    replace hA := SlT.keep hA hk24 (fun k hk hs => by have h1 := hltA k hk; have h2 := hown9 _ hs; omega)
    replace hK0 := Keep.fresh hK0 hk24 (by intro i hi hs; exfalso; have h2 := hown9 i hs; omega); have hzhK0 := Keep.size hK0
    have hgA10 : ¬ inA A10 g := fun hs => by rcases hown10 _ hs with h | h; (have h2 := hown9 _ h; omega); omega
    refine OI_static 10 [(0, .pointer (some ⟨g, 0, none⟩)), (10, .slice A10 (cs.length + 1) cap10)] (by kernel_rfl) ?_
    refine OI_end rfl ?_
    refine X_then ?_
    refine V_region ?_
    refine OI_static 4 [(41, .slice A10 (cs.length + 1) cap10), (43, .pointer (some ⟨g, 0, none⟩))] (by kernel_rfl) ?_
    refine OI_set (m := 1) (kd := false) 73 (.tmp 43) (.tmp 41) 0 (.slice A10 (cs.length + 1) cap10) [.slice A10 (cs.length + 1) cap10] none (by kernel_rfl) (by kernel_rfl) (by kernel_rfl) hg (by kernel_rfl) (by kernel_rfl) (by kernel_rfl) (Nat.le_of_ble_eq_true (by kernel_rfl)) (by simp [Value.oneCell']) ?_
    intro w26 hg_29 hk27 hz28
    replace hg_29 : Blk w26 g [.slice A10 (cs.length + 1) cap10] 75 := hg_29
    have hsz30 := Keep.size hk27
    replace hb21 := hb21.keep hk27 (by show ¬ (_ = _); omega)
    have hb21lt := hb21.lt
    replace hA := SlT.keep hA hk27 (fun k hk hs => by have hs : k = g := hs; subst hs; exact hgA hk)
    replace h10 := SlT.keep h10 hk27 (fun k hk hs => by have hs : k = g := hs; subst hs; exact hgA10 hk)
    replace hK0 := Keep.fresh hK0 hk27 (by intro i hi hs; first | exact hs | exact Or.inl hs | exact Or.inr hs | (exfalso; have hs2 : i = g := hs; omega)); have hzhK0 := Keep.size hK0
    refine OI_end rfl ?_
    obtain ⟨hs1, hs2⟩ := Srt.set (a := a) (b := b) (v := v) hs
    rw [g3 v] at h10
    have hl : (setC a b v cs).length = cs.length + 1 := by rw [← g3 v]; simp; omega
    exact X_end _ rfl ⟨rfl, ⟨hs1, by omega, A10, cap10, ⟨by rw [hl]; exact hg_29, h10, hgA10⟩, fun k hk => hD k (by rcases hown10 _ hk with h | h; (have h2 := hown9 _ h; omega); omega)⟩, hK0⟩

end Go.Al.GS


namespace Go.Al.GS
open Go Go.RowKit Go.Proofs
/-! ### A row, a column -/
theorem GrAt.quiet {N g cap : Nat} {A : Option Addr} {cs : List Ci} {W W' : World} (h : GrAt W g A cap cs) (k : Keep (lb N W) W W') : GrAt W' g A cap cs := ⟨h.blk.quiet k, h.sl.quiet k, h.off⟩
theorem GrAt.keep0 {g cap : Nat} {A : Option Addr} {cs : List Ci} {W W' : World} (h : GrAt W g A cap cs) (k : Keep none_ W W') : GrAt W' g A cap cs := ⟨h.blk.keep k (fun f => f), h.sl.keep0 k, h.off⟩
end Go.Al.GS


namespace Go.Al.GS
open Go Go.RowKit Go.Proofs
/-! ### A grid, with its footprint -/
theorem Srt.nil : Srt [] := List.Pairwise.nil
/-- The grid at g holds cs; all of its blocks lie in F. -/
def Grd (F : Nat → Prop) (w : World) (g : Nat) (cs : List Ci) : Prop := Srt cs ∧ cs.length ≤ 100000 ∧ F g ∧ (∀ q, F q → q < w.heap.size) ∧ ∃ A cap, GrAt w g A cap cs ∧ ∀ q, inA A q → F q
theorem Grd.lt {F : Nat → Prop} {w : World} {g : Nat} {cs : List Ci} (h : Grd F w g cs) : ∀ q, F q → q < w.heap.size := h.2.2.2.1
theorem Grd.at_ {F : Nat → Prop} {w : World} {g : Nat} {cs : List Ci} (h : Grd F w g cs) : F g := h.2.2.1
theorem Grd.len {F : Nat → Prop} {w : World} {g : Nat} {cs : List Ci} (h : Grd F w g cs) : cs.length ≤ 100000 := h.2.1
theorem Grd.keep {S F : Nat → Prop} {w w' : World} {g : Nat} {cs : List Ci} (h : Grd F w g cs) (k : Keep S w w') (hS : ∀ q, F q → ¬ S q) : Grd F w' g cs := by
  obtain ⟨h1, h2, h3, h4, A, cap, h5, h6⟩ := h
  exact ⟨h1, h2, h3, fun q hq => Nat.lt_of_lt_of_le (h4 q hq) k.size, A, cap, ⟨h5.blk.keep k (hS _ h3), h5.sl.keep k (fun q hq => hS q (h6 q hq)), h5.off⟩, h6⟩
theorem Grd.quiet {N : Nat} {F : Nat → Prop} {w w' : World} {g : Nat} {cs : List Ci} (h : Grd F w g cs) (k : Keep (lb N w) w w') : Grd F w' g cs := by
  obtain ⟨h1, h2, h3, h4, A, cap, h5, h6⟩ := h
  exact ⟨h1, h2, h3, fun q hq => Nat.lt_of_lt_of_le (h4 q hq) k.size, A, cap, h5.quiet k, h6⟩
theorem Grd.mono {F F' : Nat → Prop} {w : World} {g : Nat} {cs : List Ci} (h : Grd F w g cs) (hF : ∀ q, F q → F' q) (hlt : ∀ q, F' q → q < w.heap.size) : Grd F' w g cs := by
  obtain ⟨h1, h2, h3, h4, A, cap, h5, h6⟩ := h
  exact ⟨h1, h2, hF _ h3, hlt, A, cap, h5, fun q hq => hF q (h6 q hq)⟩
theorem Grd.of {D F : Nat → Prop} {w : World} {g : Nat} {cs : List Ci} (h : Gr D w g cs) (hg : F g) (hD : ∀ q, q < w.heap.size → D q → F q) (hlt : ∀ q, F q → q < w.heap.size) : Grd F w g cs := by
  obtain ⟨h1, h2, A, cap, h5, h6⟩ := h
  exact ⟨h1, h2, hg, hlt, A, cap, h5, fun q hq => hD q (h5.sl.lt q hq) (h6 q hq)⟩
theorem Grd.gr {F : Nat → Prop} {w : World} {g : Nat} {cs : List Ci} (h : Grd F w g cs) : Gr F w g cs := by
  obtain ⟨h1, h2, h3, h4, A, cap, h5, h6⟩ := h
  exact ⟨h1, h2, A, cap, h5, h6⟩
/-- A footprint, and what has been laid since. -/
def more (F : Nat → Prop) (w w' : World) : Nat → Prop := fun q => F q ∨ (w.heap.size ≤ q ∧ q < w'.heap.size)
theorem Gr.mono {D D' : Nat → Prop} {w : World} {g : Nat} {cs : List Ci} (h : Gr D w g cs) (hD : ∀ k, D k → D' k) : Gr D' w g cs := by
  obtain ⟨h1, h2, A, cap, h5, h6⟩ := h
  exact ⟨h1, h2, A, cap, h5, fun q hq => hD q (h6 q hq)⟩

theorem new_grd (w : World) : Calls Try.prog 15 #[] w fun e w' => ∃ g F, e = .returned (.pointer (some ⟨g, 0, none⟩)) ∧ Grd F w' g [] ∧ Keep none_ w w' ∧ (∀ q, F q → w.heap.size ≤ q) := (new_spec (fun q => w.heap.size ≤ q) w).mono (by
  rintro e w' ⟨g, rfl, h1, h2, h3⟩
  have hg : g < w'.heap.size := by obtain ⟨_, _, A, cap, h, _⟩ := h1; exact h.blk.lt
  exact ⟨g, fun q => w.heap.size ≤ q ∧ q < w'.heap.size, rfl, Grd.of h1 ⟨h3, hg⟩ (fun q h1 h2 => ⟨h2, h1⟩) (fun q h => h.2), h2, fun q h => h.1⟩)

theorem set_grd (F : Nat → Prop) (g : Nat) (cs : List Ci) (a b : Int) (v : ByteArray) (w : World) (h : Grd F w g cs) (hmax : cs.length < 100000) : Calls Try.prog 16 #[.pointer (some ⟨g, 0, none⟩), .int .i64 a, .int .i64 b, .string v] w fun e w' => e = .returned (.tuple #[]) ∧ (∃ F', Grd F' w' g (setC a b v cs) ∧ (∀ q, F' q → F q ∨ w.heap.size ≤ q)) ∧ Keep F w w' :=
  (set_spec (fun q => F q ∨ w.heap.size ≤ q) g cs a b v w (h.gr.mono (fun _ h => .inl h)) (fun _ h => .inr h) hmax).mono (by
    rintro e w' ⟨rfl, h1, h2⟩
    exact ⟨rfl, ⟨more F w w', Grd.of h1 (.inl h.at_) (fun q hq hD => hD.imp id (fun h => ⟨h, hq⟩)) (fun q hq => by rcases hq with hq | hq; exact Nat.lt_of_lt_of_le (h.lt q hq) h2.size; exact hq.2), fun q hq => hq.imp id (·.1)⟩, h2.mono (fun q _ hq => by rw [show q = g from hq]; exact h.at_)⟩)
end Go.Al.GS


namespace Go.Al
open Go Go.RowKit Go.MapKept
/-! ### What a map holds: keys in the order in which they came, each with what it has now -/
def kvE (e : MapEntry) : Value × Value := (e.key, e.val)
def kvM (p : Int × ByteArray) : Value × Value := (.int .i64 p.1, .string p.2)
def MapT (w : World) (r : Nat) (m : List (Int × ByteArray)) : Prop := ∃ (es : Array MapEntry) (clock : Nat), w.heap[r]? = some (.map es clock) ∧ es.toList.map kvE = m.map kvM
def mget (k : Int) : List (Int × ByteArray) → Option ByteArray
  | [] => none
  | p :: l => if p.1 = k then some p.2 else mget k l
def mset (k : Int) (v : ByteArray) : List (Int × ByteArray) → List (Int × ByteArray)
  | [] => [(k, v)]
  | p :: l => if p.1 = k then (k, v) :: l else p :: mset k v l
section
variable {S : Nat → Prop} {w w' : World} {r : Nat} {m : List (Int × ByteArray)}
theorem MapT.lt (h : MapT w r m) : r < w.heap.size := by
  obtain ⟨es, c, h, _⟩ := h
  exact (Array.getElem?_eq_some_iff.1 h).1
theorem MapT.keep (h : MapT w r m) (k : Keep S w w') (hS : ¬ S r) : MapT w' r m := by
  have hl := h.lt
  obtain ⟨es, c, h1, h2⟩ := h
  exact ⟨es, c, (k.block r hl hS).trans h1, h2⟩
end
theorem map_find (k : Int) : ∀ (l : List MapEntry) (m : List (Int × ByteArray)) (i : Nat), l.map kvE = m.map kvM →
    (Instr.findNow (.int .i64) (.int .i64 k) l i = some none ∧ mget k m = none ∧ ∀ v, mset k v m = m ++ [(k, v)]) ∨
    ∃ j v0 e0, Instr.findNow (.int .i64) (.int .i64 k) l i = some (some (i + j, .string v0)) ∧ mget k m = some v0 ∧ l[j]? = some e0 ∧ e0.key = .int .i64 k ∧ ∀ v : ByteArray, (l.modify j fun e => { e with key := .int .i64 k, val := .string v }).map kvE = (mset k v m).map kvM
  | [], [], _, _ => .inl ⟨rfl, rfl, fun _ => rfl⟩
  | [], _ :: _, _, h => by cases h
  | _ :: _, [], _, h => by cases h
  | e :: es, p :: m, i, h => by
    simp only [List.map_cons, List.cons.injEq] at h
    obtain ⟨h1, h2⟩ := h
    have hk : e.key = .int .i64 p.1 := congrArg Prod.fst h1
    have hv : e.val = .string p.2 := congrArg Prod.snd h1
    have hs : Instr.sameNow (.int .i64) (.int .i64 k) e.key = some (k == p.1) := by rw [hk]; rfl
    by_cases hp : p.1 = k
    · refine .inr ⟨0, p.2, e, ?_, ?_, rfl, by rw [hk, hp], fun v => ?_⟩
      · simp only [Instr.findNow, hs, hp, beq_self_eq_true, hv]; rfl
      · simp only [mget, if_pos hp]
      · simp only [mset, if_pos hp, List.map_cons, ← h2]; rfl
    · have hb : (k == p.1) = false := by simpa using fun e => hp e.symm
      rcases map_find k es m (i + 1) h2 with ⟨g1, g2, g3⟩ | ⟨j, v0, e0, g1, g2, g3, g4, g5⟩
      · refine .inl ⟨by simp only [Instr.findNow, hs, hb, g1], by simp only [mget, if_neg hp, g2], fun v => by simp only [mset, if_neg hp, g3 v, List.cons_append]⟩
      · refine .inr ⟨j + 1, v0, e0, ?_, by simp only [mget, if_neg hp, g2], by simpa using g3, g4, fun v => ?_⟩
        · simp only [Instr.findNow, hs, hb, g1]; rw [show i + 1 + j = i + (j + 1) by omega]
        · simp only [mset, if_neg hp, List.map_cons, ← g5 v, ← h1]; rfl
section
variable {P : Program} {r0 : Option Nat} {n : Nat} {ds : List Deferred} {ops : Array Oper} {Q : Post} {i : Nat} {e : Env} {w : World} {op : Op} {d : Option Tmp} {r : Nat} {m : List (Int × ByteArray)} {act : Nat → Bool} {S : Nat → Prop} {w1 : World} {l : List Nat}
theorem mp_get {es : Array MapEntry} {clock : Nat} (hb : w.heap[r]? = some (.map es clock)) : (getObj r).run P w = .ok (.map es clock) w := by simp [getObj, Sem.run, hb]
theorem mp_set {es : Array MapEntry} {clock : Nat} (o : Obj) (hb : w.heap[r]? = some (.map es clock)) : (setObj r o).run P w = .ok () (turned w r o) := by simp [setObj, Sem.run, hb, turned]
theorem OI_map {t : TypeId} (d : Option Tmp) (h : site ops e i = some (d, .makeMap t none)) (k : ∀ r w', r = w.heap.size → MapT w' r [] → Keep none_ w w' → w'.heap.size = r + 1 → OI P r0 n ds ops Q (i + 1) (putE n d (.map (some r)) e) w') : OI P r0 n ds ops Q i e w :=
  OI_value (w' := laid w (.map #[] 0)) h (fun o ho => by unfold execOp; simp only [ho]; rfl) (k _ _ rfl ⟨#[], 0, by show (w.heap.push _)[w.heap.size]? = _; simp, rfl⟩ (laid_keep _ _ (by intro c t f hc; cases hc)) (laid_size _ _))
theorem mapset_run {t kt et : TypeId} {x : Int} {s : ByteArray} (ht : P.underlying t = some (.map kt et)) (hk : P.underlying kt = some (.int .i64)) (h : MapT w r m) :
    ∃ w', (Instr.mapUpdate t (.map (some r)) (.int .i64 x) (.string s)).run P w = .ok () w' ∧ MapT w' r (mset x s m) ∧ Keep (only r) w w' ∧ w'.heap.size = w.heap.size := by
  obtain ⟨es, clock, hb, hm⟩ := h
  have hlt : r < w.heap.size := (Array.getElem?_eq_some_iff.1 hb).1
  have hkey : IsKey (.int .i64) (.int .i64 x) := by simp [IsKey]
  have hset : ∀ o : Obj, (∀ c t f, o = Obj.cells c t f → f = (0, 0)) → Keep (only r) w (turned w r o) := fun o ho => turned_keep ho
  rcases map_find x es.toList m 0 hm with ⟨h1, _, h3⟩ | ⟨j, v0, e0, h1, _, h3, h4, h5⟩
  · refine ⟨turned w r (.map (es.push { key := .int .i64 x, val := .string s, born := clock }) (clock + 1)), ?_, ⟨_, _, (heap_set hb).1, ?_⟩, hset _ (by intro c t f hc; cases hc), turned_size _ _ _⟩
    · simp [Instr.mapUpdate, run_underlying ht, mp_get hb, run_checkKey hk hkey, run_findKey hk h1, mp_set _ hb, Result.andThen]
    · rw [h3 s, Array.toList_push, List.map_append, hm, List.map_append]; rfl
  · have hj : es[j]? = some e0 := by simpa using h3
    rw [Nat.zero_add] at h1
    refine ⟨turned w r (.map (es.modify j fun e => { e with key := .int .i64 x, val := .string s }) clock), ?_, ⟨_, _, (heap_set hb).1, ?_⟩, hset _ (by intro c t f hc; cases hc), turned_size _ _ _⟩
    · simp [Instr.mapUpdate, run_underlying ht, mp_get hb, run_checkKey hk hkey, run_findKey hk h1, hj, h4, run_keyThatStays hkey, mp_set _ hb, Result.andThen]
    · rw [Array.toList_modify]; exact h5 s
theorem OI_mapset {t kt et : TypeId} {x : Int} {s : ByteArray} (tm tk_ tv : Operand) (d : Option Tmp) (h : site ops e i = some (d, .mapUpdate t tm tk_ tv)) (h1 : ev e tm = .map (some r)) (h2 : ev e tk_ = .int .i64 x) (h3 : ev e tv = .string s) (ht : P.underlying t = some (.map kt et)) (hk : P.underlying kt = some (.int .i64)) (hM : MapT w r m)
    (k : ∀ w', MapT w' r (mset x s m) → Keep (only r) w w' → w'.heap.size = w.heap.size → OI P r0 n ds ops Q (i + 1) (putE n d undef e) w') : OI P r0 n ds ops Q i e w := by
  obtain ⟨w', g1, g2, g3, g4⟩ := mapset_run (x := x) (s := s) ht hk hM
  refine OI_skipped h (fun o ho => ?_) (k w' g2 g3 g4)
  unfold execOp
  simp only [ho, h1, h2, h3, Sem.run_bind, g1, Result.andThen, Sem.run_pure]
theorem mapget_run {t kt et : TypeId} {x : Int} (ht : P.underlying t = some (.map kt et)) (hk : P.underlying kt = some (.int .i64)) (hz : zeroV P et = some (.string ⟨#[]⟩)) (h : MapT w r m) :
    (Instr.lookup t (.map (some r)) (.int .i64 x) false).run P w = .ok (.string ((mget x m).getD ⟨#[]⟩)) w := by
  obtain ⟨es, clock, hb, hm⟩ := h
  have hkey : IsKey (.int .i64) (.int .i64 x) := by simp [IsKey]
  rcases map_find x es.toList m 0 hm with ⟨h1, h2, _⟩ | ⟨j, v0, e0, h1, h2, _⟩
  · simp [Instr.lookup, run_underlying ht, mp_get hb, run_checkKey hk hkey, run_findKey hk h1, Result.andThen, zeroV_run hz, h2]
  · simp [Instr.lookup, run_underlying ht, mp_get hb, run_checkKey hk hkey, run_findKey hk h1, Result.andThen, h2]
theorem OI_mapget {t kt et : TypeId} {x : Int} (tm tk_ : Operand) (d : Option Tmp) (h : site ops e i = some (d, .lookup t tm tk_ false)) (h1 : ev e tm = .map (some r)) (h2 : ev e tk_ = .int .i64 x) (ht : P.underlying t = some (.map kt et)) (hk : P.underlying kt = some (.int .i64)) (hz : zeroV P et = some (.string ⟨#[]⟩)) (hM : MapT w r m)
    (k : OI P r0 n ds ops Q (i + 1) (putE n d (.string ((mget x m).getD ⟨#[]⟩)) e) w) : OI P r0 n ds ops Q i e w :=
  OI_value h (fun o ho => by
    unfold execOp
    simp only [ho, h1, h2, Sem.run_bind, mapget_run (x := x) ht hk hz hM, Result.andThen, Sem.run_pure]) k
theorem maplen_run {t kt et : TypeId} {x : Operand} (ht : P.underlying t = some (.map kt et)) (hx : ev e x = .map (some r)) (h : MapT w r m) (o : Oper) (ho : o.op = .call { callee := .builtin .len, args := #[x], argTypes := #[t] }) :
    (execOp (ev e) o).run P w = .ok (.value (.int .i64 (m.length : Int))) w := by
  obtain ⟨es, clock, hb, hm⟩ := h
  have hl : es.size = m.length := by
    have h9 := congrArg List.length hm
    simpa using h9
  refine builtin_run _ (fun _ _ _ _ => rfl) o ho ?_
  simp only [List.map_toArray, List.map_cons, List.map_nil, hx]
  simp [Builtin.len_, run_underlying ht, mp_get hb, Result.andThen, goInt, hl]
theorem OI_maplen {t kt et : TypeId} (x : Operand) (d : Option Tmp) (h : site ops e i = some (d, .call { callee := .builtin .len, args := #[x], argTypes := #[t] })) (hx : ev e x = .map (some r)) (ht : P.underlying t = some (.map kt et)) (hM : MapT w r m)
    (k : OI P r0 n ds ops Q (i + 1) (putE n d (.int .i64 (m.length : Int)) e) w) : OI P r0 n ds ops Q i e w := OI_value h (fun o ho => maplen_run ht hx hM o ho) k
theorem pure_lens {t : TypeId} {x : Operand} {s : ByteArray} (hx : ev e x = .string s) (ht : P.underlying t = some .string) : PureOp P e (.call { callee := .builtin .len, args := #[x], argTypes := #[t] }) (.int .i64 (s.size : Int)) := fun o ho w => by
  refine builtin_run _ (fun _ _ _ _ => rfl) o ho ?_
  simp only [List.map_toArray, List.map_cons, List.map_nil, hx]
  simp [Builtin.len_, run_underlying ht, Result.andThen, goInt]
theorem pure_sneq {t z : TypeId} {x y : Operand} {s : ByteArray} (hx : ev e x = .string s) (hy : ev e y = .string s) : PureOp P e (.binOp .neq t x y z) (.bool false) := fun o ho w => by
  unfold execOp
  simp only [ho, hx, hy, Sem.run_bind]
  simp [eqGuard, binOp, Op.stringOp, Result.andThen]
end
/-! ### A map, as an object -/
def MapO (F : Nat → Prop) (w : World) (r : Nat) (m : List (Int × ByteArray)) : Prop := F r ∧ (∀ q, F q → q = r) ∧ MapT w r m
section
variable {F S : Nat → Prop} {w w' : World} {r : Nat} {m m' : List (Int × ByteArray)}
theorem MapO.at_ (h : MapO F w r m) : F r := h.1
theorem MapO.lt (h : MapO F w r m) : ∀ q, F q → q < w.heap.size := fun q hq => by rw [h.2.1 q hq]; exact h.2.2.lt
theorem MapO.keep (h : MapO F w r m) (k : Keep S w w') (hS : ∀ q, F q → ¬ S q) : MapO F w' r m := ⟨h.1, h.2.1, h.2.2.keep k (hS r h.1)⟩
theorem MapO.new (h : MapT w r m) (hr : r = w'.heap.size) : ∃ F, MapO F w r m ∧ ∀ q, F q → w'.heap.size ≤ q := ⟨fun q => q = r, ⟨rfl, fun _ h => h, h⟩, fun q hq => by omega⟩
theorem MapO.set (h : MapO F w r m) (h2 : MapT w' r m') : MapO F w' r m' := ⟨h.1, h.2.1, h2⟩
theorem MapO.only (h : MapO F w r m) (k : Keep (only r) w w') : Keep F w w' := k.mono fun q _ hq => by have e : q = r := hq; rw [e]; exact h.1
end
end Go.Al


namespace Go.Al
open Go Go.RowKit Go.Proofs
namespace GS
theorem getC_set (a b : Int) (x : ByteArray) : ∀ (cs : List Ci), Srt cs → ∀ a' b', getC a' b' (setC a b x cs) = if a' = a ∧ b' = b then some x else getC a' b' cs
  | [], _, a', b' => by
    simp only [setC, getC]
    by_cases h : a' = a ∧ b' = b
    · rw [if_pos ⟨h.1.symm, h.2.symm⟩, if_pos h]
    · rw [if_neg (fun e => h ⟨e.1.symm, e.2.symm⟩), if_neg h]
  | c :: l, hs, a', b' => by
    have hs2 := List.pairwise_cons.1 hs
    have ih := getC_set a b x l hs2.2 a' b'
    simp only [setC]
    split
    · rename_i he
      simp only [getC]
      by_cases h : a' = a ∧ b' = b
      · rw [if_pos ⟨h.1.symm, h.2.symm⟩, if_pos h]
      · rw [if_neg (fun e => h ⟨e.1.symm, e.2.symm⟩), if_neg h, if_neg (fun e => h ⟨by omega, by omega⟩)]
    · rename_i he
      split
      · simp only [getC]
        rw [ih]
        by_cases h : a' = a ∧ b' = b
        · rw [if_pos h, if_pos h, if_neg (fun e => he ⟨by omega, by omega⟩)]
        · rw [if_neg h, if_neg h]
      · simp only [getC]
        by_cases h : a' = a ∧ b' = b
        · rw [if_pos ⟨h.1.symm, h.2.symm⟩, if_pos h]
        · rw [if_neg (fun e => h ⟨e.1.symm, e.2.symm⟩), if_neg h]
theorem setC_cnt (a b : Int) (x : ByteArray) : ∀ (cs : List Ci), Srt cs → (setC a b x cs).length = if (getC a b cs).isSome = true then cs.length else cs.length + 1
  | [], _ => rfl
  | c :: l, hs => by
    have hs2 := List.pairwise_cons.1 hs
    have ih := setC_cnt a b x l hs2.2
    simp only [setC, getC]
    by_cases he : c.a = a ∧ c.b = b
    · simp [he]
    · simp only [if_neg he]
      by_cases hl : ltC c.a c.b a b
      · rw [if_pos hl, List.length_cons, ih]
        split <;> rfl
      · rw [if_neg hl]
        have hn : getC a b l = none := (none_later (fun y hy => by have h1 := hs2.1 y hy; unfold ltC at h1 hl ⊢; omega)).1
        rw [hn]; rfl
theorem setC_memb {a b : Int} {x : ByteArray} {y : Ci} : ∀ {cs : List Ci}, y ∈ setC a b x cs → y = ⟨a, b, x⟩ ∨ y ∈ cs
  | [], h => by simp only [setC, List.mem_singleton] at h; exact .inl h
  | c :: l, h => by
    simp only [setC] at h
    split at h
    · rcases List.mem_cons.1 h with h | h
      · exact .inl h
      · exact .inr (List.mem_cons_of_mem _ h)
    · split at h
      · rcases List.mem_cons.1 h with rfl | h
        · exact .inr (List.mem_cons_self ..)
        · exact (setC_memb h).imp id (List.mem_cons_of_mem _)
      · rcases List.mem_cons.1 h with h | h
        · exact .inl h
        · exact .inr h
theorem getC_none {a b : Int} : ∀ {cs : List Ci}, (∀ c ∈ cs, c.b ≠ b) → getC a b cs = none
  | [], _ => rfl
  | c :: l, h => by
    simp only [getC]
    rw [if_neg (fun e => h c (List.mem_cons_self ..) e.2)]
    exact getC_none (fun x hx => h x (List.mem_cons_of_mem _ hx))
end GS

def strc (x : ByteArray) : List Value := [.string x]
theorem lift_str (x : List Value) (h : Flat [.str] x) : ∃ y : ByteArray, strc y = x := by
  cases x with
  | nil => exact h.elim
  | cons v l =>
    cases l with
    | nil => obtain ⟨⟨s, rfl⟩, _⟩ := h; exact ⟨s, rfl⟩
    | cons u l => exact h.2.elim
theorem lift_int (x : List Value) (h : Flat [.int .i64] x) : ∃ y : Int, intc y = x := by
  cases x with
  | nil => exact h.elim
  | cons v l =>
    cases l with
    | nil => obtain ⟨⟨n, rfl, _⟩, _⟩ := h; exact ⟨n, rfl⟩
    | cons u l => exact h.2.elim
theorem mget_mset (k : Int) (v : ByteArray) (x : Int) : ∀ m : List (Int × ByteArray), mget x (mset k v m) = if x = k then some v else mget x m
  | [] => by
    simp only [mset, mget]
    by_cases h : x = k
    · rw [if_pos h, if_pos h.symm]
    · rw [if_neg h, if_neg (fun e => h e.symm)]
  | p :: l => by
    have ih := mget_mset k v x l
    simp only [mset]
    by_cases hp : p.1 = k
    · rw [if_pos hp]; simp only [mget]
      by_cases h : x = k
      · rw [if_pos h, if_pos h.symm]
      · rw [if_neg h, if_neg (fun e => h e.symm), if_neg (fun e => h (by omega))]
    · rw [if_neg hp]; simp only [mget]
      by_cases h : p.1 = x
      · rw [if_pos h, if_neg (by omega), if_pos h]
      · rw [if_neg h, ih]
        by_cases h2 : x = k
        · rw [if_pos h2, if_pos h2]
        · rw [if_neg h2, if_neg h2, if_neg h]
theorem mset_cnt (k : Int) (v : ByteArray) : ∀ m : List (Int × ByteArray), (mset k v m).length = if (mget k m).isSome = true then m.length else m.length + 1
  | [] => rfl
  | p :: l => by
    have ih := mset_cnt k v l
    simp only [mset, mget]
    by_cases hp : p.1 = k
    · simp [hp]
    · simp only [if_neg hp]
      rw [List.length_cons, ih]
      split <;> rfl
/-- The second number that goes with a first one. -/
def gB (x : Int) : Int := bAnd (IntKind.i64.wrap (0 - x)) 7
theorem gB_ge (x : Int) : 0 ≤ gB x := (bAnd_le _ 7 (by decide)).1
structure TI (az : List Int) (i : Nat) (C : List GS.Ci) (M : List (Int × ByteArray)) : Prop where
  get : ∀ x, GS.getC x (gB x) C = mget x M
  only : ∀ c ∈ C, c.b = gB c.a
  len : C.length = M.length
  cln : C.length ≤ i
  seen : ∀ (j : Nat) (x : Int), j < i → az[j]? = some x → (mget x M).isSome = true
theorem TI.nil (az : List Int) : TI az 0 [] [] := ⟨fun _ => rfl, fun c hc => (by cases hc), rfl, Nat.le_refl _, fun j x hj => absurd hj (Nat.not_lt_zero _)⟩
theorem TI.step {az : List Int} {i : Nat} {C : List GS.Ci} {M : List (Int × ByteArray)} (h : TI az i C M) (hs : GS.Srt C) {x : Int} (hx : az[i]? = some x) (s : ByteArray) : TI az (i + 1) (GS.setC x (gB x) s C) (mset x s M) := by
  have h1 := GS.setC_cnt x (gB x) s C hs
  have h2 := mset_cnt x s M
  rw [h.get] at h1
  refine ⟨fun y => ?_, fun c hc => ?_, ?_, ?_, fun j y hj hy => ?_⟩
  · rw [GS.getC_set x (gB x) s C hs, mget_mset, h.get]
    by_cases e : y = x
    · rw [if_pos ⟨e, by rw [e]⟩, if_pos e]
    · rw [if_neg (fun h9 => e h9.1), if_neg e]
  · rcases GS.setC_memb hc with rfl | hc
    · rfl
    · exact h.only c hc
  · rw [h1, h2, h.len]
  · have := h.cln
    rw [h1]; split <;> omega
  · rw [mget_mset]
    split
    · rfl
    · rename_i e
      rcases Nat.lt_or_ge j i with g | g
      · exact h.seen j y g hy
      · have : j = i := by omega
        subst this; rw [hx] at hy; cases hy; exact absurd rfl e
theorem TI.no {az : List Int} {i : Nat} {C : List GS.Ci} {M : List (Int × ByteArray)} (h : TI az i C M) (a : Int) : GS.getC a (-1) C = none :=
  GS.getC_none (fun c hc e => by have h1 := h.only c hc; have h2 := gB_ge c.a; omega)
end Go.Al

