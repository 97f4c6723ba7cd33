/-
  Arguments, read as data: what cells a value of a type without pointers fills; slices of such values; loads from memory that is only read.
-/
import Derived.Test.YtijhhcnahepdlaaIns
import Derived.WalkKit
import Derived.ProofKit
import Derived.OpenShut
import Derived.Deep.Slices
namespace Go.Al
open Go Go.RowKit Go.ChangeShapes Go.WideShapes

/-! ### Cells of a type without pointers -/
inductive CK where
  | int (k : IntKind)
  | bool
def CK.fits : CK → Value → Prop
  | .int k, v => ∃ n, v = .int k n ∧ (Lit.int k n).wf = true
  | .bool, v => ∃ b, v = .bool b
def Flat : List CK → List Value → Prop
  | [], [] => True
  | k :: ks, v :: vs => k.fits v ∧ Flat ks vs
  | _, _ => False
theorem Flat.append : ∀ {ks js : List CK} {vs us : List Value}, Flat ks vs → Flat js us → Flat (ks ++ js) (vs ++ us)
  | [], _, [], _, _, h => h
  | _ :: _, _, _ :: _, _, h, h' => ⟨h.1, h.2.append h'⟩
  | [], _, _ :: _, _, h, _ => h.elim
  | _ :: _, _, [], _, h, _ => h.elim
theorem Flat.length : ∀ {ks : List CK} {vs : List Value}, Flat ks vs → vs.length = ks.length
  | [], [], _ => rfl
  | _ :: _, _ :: _, h => by simp [h.2.length]
  | [], _ :: _, h => h.elim
  | _ :: _, [], h => h.elim
theorem Flat.one : ∀ {ks : List CK} {vs : List Value}, Flat ks vs → ∀ u ∈ vs, u.oneCell' = true
  | [], [], _, u, hu => by cases hu
  | k :: _, v :: _, h, u, hu => by
    rcases List.mem_cons.1 hu with rfl | hu
    · have h1 := h.1
      cases k with
      | int k => obtain ⟨n, rfl, _⟩ := h1; rfl
      | bool => obtain ⟨b, rfl⟩ := h1; rfl
    · exact h.2.one u hu
  | [], _ :: _, h, _, _ => h.elim
  | _ :: _, [], h, _, _ => h.elim

def flatFs (P : Program) (r : TypeId → Option (List CK)) : List Field → List CK → Option (List CK)
  | [], acc => some acc
  | f :: fs, acc => match r f.type with
    | some l => bif Nat.beq f.offset acc.length && Nat.beq (P.cellsOf f.type) l.length then flatFs P r fs (acc ++ l) else none
    | none => none
def flatK (P : Program) : Nat → TypeId → Option (List CK)
  | 0, _ => none
  | n + 1, t =>
    match P.underlying t with
    | some (.int k) => some [.int k]
    | some .bool => some [.bool]
    | some (.struct fs) => match flatFs P (flatK P n) fs.toList [] with
      | some l => bif Nat.beq (P.cellsOf t) l.length then some l else none
      | none => none
    | some (.array m e) => match flatK P n e with
      | some l => bif Nat.beq (P.cellsOf e) l.length && Nat.beq (P.cellsOf t) (m * l.length) then some (List.replicate m l).flatten else none
      | none => none
    | _ => none

section
variable {H : Type} {enc : TypeId × Value → H} {P : Program} {w : World} {base : Nat} {spare : Nat → Bool} {held : Bool}
theorem flatFs_ok {r : TypeId → Option (List CK)} {cs : List Value} (hr : ∀ t l vs, r t = some l → (∃ m x, DataW.trod enc P w base spare held m t vs = some x) → Flat l vs) :
    ∀ (fs : List Field) (acc l : List CK), flatFs P r fs acc = some l → (∀ f ∈ fs, ∃ m x, DataW.trod enc P w base spare held m f.type ((cs.drop f.offset).take (P.cellsOf f.type)) = some x) → Flat acc (cs.take acc.length) → Flat l (cs.take l.length)
  | [], acc, l, h, _, ha => by simp only [flatFs, Option.some.injEq] at h; subst h; exact ha
  | f :: fs, acc, l, h, hf, ha => by
    simp only [flatFs] at h
    cases hl : r f.type with
    | none => simp [hl] at h
    | some k =>
      simp only [hl] at h
      cases hc : (Nat.beq f.offset acc.length && Nat.beq (P.cellsOf f.type) k.length) with
      | false => simp [hc] at h
      | true =>
        simp only [hc, cond_true] at h
        simp only [Bool.and_eq_true, Nat.beq_eq] at hc
        have h1 := hr f.type k _ hl (hf f (List.mem_cons_self ..))
        rw [hc.1, hc.2] at h1
        refine flatFs_ok hr fs (acc ++ k) l h (fun g hg => hf g (List.mem_cons_of_mem _ hg)) ?_
        have h2 := ha.append h1
        rw [List.length_append]
        have e : cs.take (acc.length + k.length) = cs.take acc.length ++ (cs.drop acc.length).take k.length := List.take_add
        rw [e]; exact h2
theorem flatA_ok {l : List CK} : ∀ (m : Nat) (cs : List Value), cs.length = m * l.length → (∀ i, i < m → Flat l ((cs.drop (i * l.length)).take l.length)) → Flat (List.replicate m l).flatten cs
  | 0, cs, h, _ => by
    have : cs = [] := List.length_eq_zero_iff.1 (by simpa using h)
    subst this; exact trivial
  | m + 1, cs, h, hi => by
    rw [Nat.add_mul, Nat.one_mul] at h
    have h0 := hi 0 (Nat.succ_pos _)
    rw [Nat.zero_mul, List.drop_zero] at h0
    have hr := flatA_ok (l := l) m (cs.drop l.length) (by rw [List.length_drop]; omega) (fun i hlt => by
      have := hi (i + 1) (by omega)
      rw [List.drop_drop]
      rwa [Nat.add_mul, Nat.one_mul, Nat.add_comm] at this)
    rw [List.replicate_succ, List.flatten_cons, ← List.take_append_drop l.length cs]
    exact h0.append hr
theorem flat_trod : ∀ (n : Nat) (t : TypeId) (l : List CK) (cs : List Value), flatK P n t = some l → (∃ m x, DataW.trod enc P w base spare held m t cs = some x) → Flat l cs
  | 0, _, _, _, h, _ => by simp [flatK] at h
  | n + 1, t, l, cs, h, ⟨m, x, hx⟩ => by
    simp only [flatK] at h
    split at h
    · rename_i k hu
      simp only [Option.some.injEq] at h; subst h
      obtain ⟨z, rfl, _, hw⟩ := DataW.trod_int hu hx
      exact ⟨⟨z, rfl, hw⟩, trivial⟩
    · rename_i hu
      simp only [Option.some.injEq] at h; subst h
      cases m with
      | zero => simp [DataW.trod] at hx
      | succ m =>
        unfold DataW.trod at hx
        rw [hu] at hx
        split at hx <;> simp_all
        exact ⟨⟨_, rfl⟩, trivial⟩
    · rename_i fs hu
      cases hl : flatFs P (flatK P n) fs.toList [] with
      | none => simp [hl] at h
      | some k =>
        simp only [hl] at h
        cases hc : Nat.beq (P.cellsOf t) k.length with
        | false => simp [hc] at h
        | true =>
          simp only [hc, cond_true, Option.some.injEq] at h
          subst h
          obtain ⟨xs, m', rfl, _, hlen, hxl, hf⟩ := DataW.trod_struct hu hx
          rw [Nat.beq_eq] at hc
          have := flatFs_ok (enc := enc) (w := w) (base := base) (spare := spare) (held := held) (cs := cs) (fun t l vs hl hx => flat_trod n t l vs hl hx) fs.toList [] k hl (fun f hf' => by
            obtain ⟨i, hi⟩ := List.mem_iff_getElem?.1 hf'
            have hi2 : fs[i]? = some f := by simpa using hi
            have h3 := hf i f hi2
            have hlt : i < xs.length := by rw [hxl]; exact (Array.getElem?_eq_some_iff.1 hi2).1
            rw [List.getElem?_eq_getElem hlt] at h3
            exact ⟨m', _, h3⟩) trivial
          rwa [List.take_of_length_le (by omega)] at this
    · rename_i q e hu
      cases hl : flatK P n e with
      | none => simp [hl] at h
      | some k =>
        simp only [hl] at h
        cases hc : (Nat.beq (P.cellsOf e) k.length && Nat.beq (P.cellsOf t) (q * k.length)) with
        | false => simp [hc] at h
        | true =>
          simp only [hc, cond_true, Option.some.injEq] at h
          subst h
          simp only [Bool.and_eq_true, Nat.beq_eq] at hc
          obtain ⟨xs, m', rfl, _, hlen, hxl, hf⟩ := DataW.trod_array hu hx
          refine flatA_ok q cs (by omega) (fun i hi => ?_)
          have h3 := hf i hi
          rw [List.getElem?_eq_getElem (by omega), hc.1] at h3
          exact flat_trod n e k _ hl ⟨m', _, h3⟩
    · cases h

/-! ### Memory that is only read -/
def BlkR (w : World) (b : Nat) (l : List Value) : Prop := ∃ T f, w.heap[b]? = some (.cells l.toArray T f)
theorem Blk.r {w : World} {b : Nat} {l : List Value} {T : TypeId} (h : Blk w b l T) : BlkR w b l := ⟨T, _, h⟩
theorem BlkR.lt {w : World} {b : Nat} {l : List Value} (h : BlkR w b l) : b < w.heap.size := by obtain ⟨T, f, h⟩ := h; exact (Array.getElem?_eq_some_iff.1 h).1
theorem BlkR.keep {S : Nat → Prop} {w w' : World} {b : Nat} {l : List Value} (h : BlkR w b l) (k : Keep S w w') (hS : ¬ S b) : BlkR w' b l := by
  have hlt := h.lt
  obtain ⟨T, f, h⟩ := h
  exact ⟨T, f, (k.block b hlt hS).trans h⟩
theorem blkR_cell {w : World} {b : Nat} {l : List Value} (h : BlkR w b l) (o : Nat) : w.cell? ⟨b, o, none⟩ = l[o]? := by
  obtain ⟨T, f, h⟩ := h
  simp [World.cell?, h]
/-- A slice that is only read, opened. -/
structure AtR (w : World) (b o : Nat) (L : List Value) (sz cap : Nat) (es : List (List Value)) : Prop where
  blk : BlkR w b L
  elem' : ∀ (i : Nat) e, es[i]? = some e → (L.drop (o + i * sz)).take sz = e
  sizes : ∀ e ∈ es, e.length = sz
theorem AtR.keep {S : Nat → Prop} {w w' : World} {sz cap b o : Nat} {L : List Value} {es : List (List Value)} (h : AtR w b o L sz cap es) (hk : Keep S w w') (hS : ¬ S b) : AtR w' b o L sz cap es := ⟨h.blk.keep hk hS, h.elem', h.sizes⟩
theorem AtR.cell {w : World} {sz cap b o i f : Nat} {L e : List Value} {v : Value} {es : List (List Value)} (h : AtR w b o L sz cap es) (hi : es[i]? = some e) (hf : e[f]? = some v) : L[o + i * sz + f]? = some v := by
  have h1 := h.elem' i e hi
  have hl := h.sizes e (List.mem_of_getElem? hi)
  have hf' : f < sz := by rw [← hl]; exact (List.getElem?_eq_some_iff.1 hf).1
  rw [← h1, List.getElem?_take, if_pos hf', List.getElem?_drop] at hf
  exact hf
theorem AtR.cell0 {w : World} {sz cap b o i : Nat} {L e : List Value} {v : Value} {es : List (List Value)} (h : AtR w b o L sz cap es) (hi : es[i]? = some e) (hf : e[0]? = some v) : L[o + i * sz]? = some v := h.cell hi hf
theorem AtR.len {w : World} {sz cap b o i : Nat} {L e : List Value} {es : List (List Value)} (h : AtR w b o L sz cap es) (hi : es[i]? = some e) : e.length = sz := h.sizes e (List.mem_of_getElem? hi)
/-- An argument: a slice that is only read. -/
def ArgT {α : Type} (w : World) (sz : Nat) (f : α → List Value) (A : Option Addr) (cap : Nat) (xs : List α) : Prop := xs = [] ∨ ∃ b o L, A = some ⟨b, o, none⟩ ∧ AtR w b o L sz cap (xs.map f)
theorem ArgT.keep0 {α : Type} {w w' : World} {sz cap : Nat} {f : α → List Value} {A : Option Addr} {xs : List α} (h : ArgT w sz f A cap xs) (hk : Keep none_ w w') : ArgT w' sz f A cap xs := by
  rcases h with h | ⟨b, o, L, h1, h2⟩
  · exact .inl h
  · exact .inr ⟨b, o, L, h1, h2.keep hk (fun f => f)⟩
theorem ArgT.keep {α : Type} {S : Nat → Prop} {w0 w w' : World} {sz cap : Nat} {f : α → List Value} {A : Option Addr} {xs : List α} (h : ArgT w sz f A cap xs) (hk : Keep S w w') (hA : ArgT w0 sz f A cap xs) (hS : ∀ k, k < w0.heap.size → ¬ S k) : ArgT w' sz f A cap xs := by
  rcases h with h | ⟨b, o, L, h1, h2⟩
  · exact .inl h
  · rcases hA with h | ⟨b', o', L', h1', h2'⟩
    · exact .inl h
    · rw [h1] at h1'; cases h1'
      exact .inr ⟨b, o, L, h1, h2.keep hk (hS b h2'.blk.lt)⟩
theorem ArgT.open_ {α : Type} {w : World} {sz cap : Nat} {f : α → List Value} {A : Option Addr} {xs : List α} (h : ArgT w sz f A cap xs) (hi : 0 < xs.length) : ∃ b o L, A = some ⟨b, o, none⟩ ∧ AtR w b o L sz cap (xs.map f) := by
  rcases h with rfl | h
  · simp at hi
  · exact h

theorem ArgT.lt {α : Type} {w : World} {sz cap b o : Nat} {f : α → List Value} {xs : List α} (h : ArgT w sz f (some ⟨b, o, none⟩) cap xs) (hi : 0 < xs.length) : b < w.heap.size := by
  obtain ⟨b', o', L, h1, h2⟩ := h.open_ hi
  cases h1
  exact h2.blk.lt

/-- A slice argument whose elements have no pointers. -/
theorem read_slice {t e : TypeId} {ks : List CK} {n sz : Nat} {A : Option Addr} {len cap : Nat} {d : DataW H} {ps : List MemPlace} (ht : P.underlying t = some (.slice e)) (hk : flatK P n e = some ks) (hc : P.cellsOf e = ks.length) (hsz : ks.length = sz) (hk0 : 0 < ks.length)
    (h : DataW.Trod enc P w 0 (fun _ => true) true t (.slice A len cap) d ps) : ∃ xs : List (List Value), xs.length = len ∧ (∀ x ∈ xs, Flat ks x) ∧ ArgT w sz id A cap xs ∧ len ≤ cap ∧ cap ≤ maxLen := by
  subst hsz
  obtain ⟨fuel, hf⟩ := h
  rcases Deep.open_slice ht hf with ⟨hcs, _⟩ | ⟨a, len', cap', m, n', D, Pl, hcs, _, hl, hm, hmm, _, hx⟩
  · simp [Value.cells] at hcs
    obtain ⟨rfl, rfl, rfl⟩ := hcs
    exact ⟨[], rfl, fun x hx => (by cases hx), .inl rfl, Nat.le_refl _, Nat.zero_le _⟩
  · simp [Value.cells] at hcs
    obtain ⟨rfl, rfl, rfl⟩ := hcs
    simp only [if_true] at hmm
    subst hmm
    rcases Nat.eq_zero_or_pos len with h0 | h0
    · subst h0
      exact ⟨[], rfl, fun x hx => (by cases hx), .inl rfl, hl, hm⟩
    have hflat : ∀ i, i < len → ∃ cs, w.cells? 0 (a.add (i * ks.length)) ks.length = some cs ∧ Flat ks cs := by
      intro i hi
      obtain ⟨cs, h1, h2⟩ := hx i (by omega)
      rw [hc] at h1
      exact ⟨cs, h1, flat_trod n e ks cs hk ⟨_, _, h2⟩⟩
    obtain ⟨V, hV⟩ : ∃ V : Nat → List Value, ∀ i, i < len → w.cells? 0 (a.add (i * ks.length)) ks.length = some (V i) ∧ Flat ks (V i) :=
      ⟨fun i => if h : i < len then Classical.choose (hflat i h) else [], fun i hi => by simp only [hi, dif_pos]; exact Classical.choose_spec (hflat i hi)⟩
    refine ⟨(List.range len).map V, by simp, ?_, ?_, hl, hm⟩
    · intro x hx
      obtain ⟨i, hi, rfl⟩ := List.mem_map.1 hx
      exact (hV i (List.mem_range.1 hi)).2
    · right
      · skip
        obtain ⟨hc0, _⟩ := hV 0 h0
        obtain ⟨_, hl0, hcell⟩ := World.cells?_some hc0
        have h00 := hcell 0 hk0
        rw [Nat.zero_mul] at h00
        have hadd : (a.add 0).add 0 = a := by simp [Addr.add]
        rw [hadd] at h00
        have hsome : ∃ v, w.cell? a = some v := by rw [h00]; exact ⟨_, List.getElem?_eq_getElem (by omega)⟩
        obtain ⟨v, hv⟩ := hsome
        obtain ⟨b, o, sp⟩ := a
        unfold World.cell? at hv
        simp only at hv
        split at hv
        · rename_i c T f hb
          split at hv
          · cases hv
          · rename_i hsp
            obtain rfl : sp = none := by cases sp <;> simp_all
            refine ⟨b, o, c.toList, rfl, ⟨⟨T, f, by simpa using hb⟩, ?_, ?_⟩⟩
            · intro i e he
              simp only [List.map_id, List.getElem?_map] at he
              obtain ⟨j, hj, rfl⟩ := Option.map_eq_some_iff.1 he
              obtain ⟨hlt, rfl⟩ := List.getElem?_eq_some_iff.1 hj
              simp only [List.length_range] at hlt
              simp only [List.getElem_range]
              obtain ⟨_, hli, hci⟩ := World.cells?_some (hV i hlt).1
              apply List.ext_getElem?
              intro q
              rw [List.getElem?_take]
              split
              · rename_i hq
                have := hci q hq
                rw [add_plain, add_plain] at this
                rw [← this, List.getElem?_drop]
                simp [World.cell?, hb]
              · rename_i hq
                rw [List.getElem?_eq_none (by omega)]
            · intro e he
              simp only [List.map_id] at he
              obtain ⟨i, hi, rfl⟩ := List.mem_map.1 he
              exact (hV i (List.mem_range.1 hi)).2.length
        · cases hv
end

/-- Elements, told by what lays them in cells. -/
theorem lift_all {α : Type} {f : α → List Value} {ks : List CK} (hf : ∀ x, Flat ks x → ∃ y, f y = x) : ∀ xs : List (List Value), (∀ x ∈ xs, Flat ks x) → ∃ ys : List α, ys.map f = xs
  | [], _ => ⟨[], rfl⟩
  | x :: xs, h => by
    obtain ⟨y, hy⟩ := hf x (h x (List.mem_cons_self ..))
    obtain ⟨ys, hys⟩ := lift_all hf xs (fun z hz => h z (List.mem_cons_of_mem _ hz))
    exact ⟨y :: ys, by simp [hy, hys]⟩
theorem ArgT.conv {α : Type} {w : World} {sz cap : Nat} {f : α → List Value} {A : Option Addr} {ys : List α} (h : ArgT w sz id A cap (ys.map f)) : ArgT w sz f A cap ys := by
  rcases h with h | ⟨b, o, L, h1, h2⟩
  · exact .inl (by simpa using h)
  · exact .inr ⟨b, o, L, h1, by simpa using h2⟩
theorem read_elems {H : Type} {enc : TypeId × Value → H} {P : Program} {w : World} {α : Type} {f : α → List Value} {t e : TypeId} {ks : List CK} {n sz : Nat} {A : Option Addr} {len cap : Nat} {d : DataW H} {ps : List MemPlace} (hf : ∀ x, Flat ks x → ∃ y, f y = x) (ht : P.underlying t = some (.slice e)) (hk : flatK P n e = some ks) (hc : P.cellsOf e = ks.length) (hsz : ks.length = sz) (hk0 : 0 < ks.length)
    (h : DataW.Trod enc P w 0 (fun _ => true) true t (.slice A len cap) d ps) : ∃ xs : List α, xs.length = len ∧ ArgT w sz f A cap xs ∧ len ≤ cap ∧ cap ≤ maxLen := by
  obtain ⟨xs, h1, h2, h3, h4, h5⟩ := read_slice ht hk hc hsz hk0 h
  obtain ⟨ys, rfl⟩ := lift_all hf xs h2
  exact ⟨ys, by simpa using h1, h3.conv, h4, h5⟩
theorem read_agg {H : Type} {enc : TypeId × Value → H} {P : Program} {w : World} {t : TypeId} {ks : List CK} {n : Nat} {c : Array Value} {d : DataW H} {ps : List MemPlace} (hk : flatK P n t = some ks) (h : DataW.Trod enc P w 0 (fun _ => true) true t (.agg c) d ps) : Flat ks c.toList := by
  obtain ⟨fuel, hf⟩ := h
  exact flat_trod n t ks _ hk ⟨fuel, _, hf⟩

/-! ### Loads from memory that is only read -/
theorem loads_cellR {P : Program} {w : World} {t : TypeId} {b o n : Nat} {l : List Value} {v : Value} (h : BlkR w b l) (ht : tk P t = some (false, n)) (hv : l[o]? = some v) : Loads P w t ⟨b, o, none⟩ v := by
  unfold Loads Instr.loadAt Instr.sureAddr loadVar load
  have hc := blkR_cell h o
  rw [hv] at hc
  simp [Sem.run_bind, (tk_agg ht w).1, Result.andThen, Sem.run, hc]
theorem loads_aggR {P : Program} {w : World} {t : TypeId} {b o n : Nat} {l cs : List Value} (h : BlkR w b l) (ht : tk P t = some (true, n)) (hc : (l.drop o).take n = cs) (hn : cs.length = n) : Loads P w t ⟨b, o, none⟩ (.agg cs.toArray) := by
  subst hc
  have hl : (loadCells ⟨b, o, none⟩ ((l.drop o).take n).length).run P w = .ok ((l.drop o).take n).toArray w :=
    run_loadCells_list (P := P) w ⟨b, o, none⟩ _ (fun j v hv => by
      rw [add_plain, blkR_cell h]
      rw [List.getElem?_take] at hv
      split at hv
      · rw [List.getElem?_drop] at hv; exact hv
      · cases hv)
  rw [hn] at hl
  unfold Loads Instr.loadAt Instr.sureAddr loadVar
  simp [Sem.run_bind, (tk_agg ht w).1, (tk_agg ht w).2, Result.andThen, hl]
section
variable {P : Program} {r : Option Nat} {n : Nat} {ds : List Deferred} {ops : Array Oper} {Q : Post} {act : Nat → Bool} {S : Nat → Prop} {w1 : World} {i : Nat} {l : List Nat} {e : Env} {w : World}
theorem OI_cellR {b m : Nat} {L : List Value} (t : TypeId) (x : Operand) (o : Nat) (v : Value) (d : Option Tmp) (h : site ops e i = some (d, .load t x)) (hx : ev e x = .pointer (some ⟨b, o, none⟩)) (hb : BlkR w b L) (ht : tk P t = some (false, m)) (hv : L[o]? = some v)
    (k : OI P r n ds ops Q (i + 1) (putE n d v e) w) : OI P r n ds ops Q i e w := OI_load d h hx (loads_cellR hb ht hv) k
theorem OI_aggR {b m : Nat} {L : List Value} (t : TypeId) (x : Operand) (o : Nat) (cs : List Value) (d : Option Tmp) (h : site ops e i = some (d, .load t x)) (hx : ev e x = .pointer (some ⟨b, o, none⟩)) (hb : BlkR w b L) (ht : tk P t = some (true, m)) (hv : (L.drop o).take m = cs) (hm : cs.length = m)
    (k : OI P r n ds ops Q (i + 1) (putE n d (.agg cs.toArray) e) w) : OI P r n ds ops Q i e w := OI_load d h hx (loads_aggR hb ht hv hm) k
theorem GI_cellR {b m : Nat} {L : List Value} (t : TypeId) (x : Operand) (o : Nat) (v : Value) (d : Option Tmp) (h : site ops e i = some (d, .load t x)) (hact : act i = false) (hx : ev e x = .pointer (some ⟨b, o, none⟩)) (hb : BlkR w1 b L) (hS : ¬ S b) (ht : tk P t = some (false, m)) (hv : L[o]? = some v)
    (k : GI P r n ds ops Q act S w1 l (putE n d v e) w) : GI P r n ds ops Q act S w1 (i :: l) e w :=
  GI_quiet d _ h hact (fun o' _ ho w' hw' => by
    replace hw' : Keep S w1 w' := hw'.resolve_right (by unfold noLoad; rw [ho]; exact Bool.false_ne_true)
    have hl := loads_cellR (P := P) (hb.keep hw' hS) ht hv
    unfold Loads at hl
    unfold execOp
    simp only [ho, hx, Sem.run_bind, hl, Result.andThen, Sem.run_pure]) k
theorem GI_aggR {b m : Nat} {L : List Value} (t : TypeId) (x : Operand) (o : Nat) (cs : List Value) (d : Option Tmp) (h : site ops e i = some (d, .load t x)) (hact : act i = false) (hx : ev e x = .pointer (some ⟨b, o, none⟩)) (hb : BlkR w1 b L) (hS : ¬ S b) (ht : tk P t = some (true, m)) (hv : (L.drop o).take m = cs) (hm : cs.length = m)
    (k : GI P r n ds ops Q act S w1 l (putE n d (.agg cs.toArray) e) w) : GI P r n ds ops Q act S w1 (i :: l) e w :=
  GI_quiet d _ h hact (fun o' _ ho w' hw' => by
    replace hw' : Keep S w1 w' := hw'.resolve_right (by unfold noLoad; rw [ho]; exact Bool.false_ne_true)
    have hl := loads_aggR (P := P) (hb.keep hw' hS) ht hv hm
    unfold Loads at hl
    unfold execOp
    simp only [ho, hx, Sem.run_bind, hl, Result.andThen, Sem.run_pure]) k
end

/-! ### Bits -/
def bAnd (x y : Int) : Int := IntKind.i64.wrap ((BitVec.ofInt 64 x &&& BitVec.ofInt 64 y).toNat : Int)
theorem bAnd_le (x : Int) (m : Nat) (hm : m < 9223372036854775808) : 0 ≤ bAnd x (m : Int) ∧ bAnd x (m : Int) ≤ m := by
  unfold bAnd
  have h1 : (BitVec.ofInt 64 x &&& BitVec.ofInt 64 (m : Int)).toNat ≤ m := by
    rw [BitVec.toNat_and]
    refine Nat.le_trans Nat.and_le_right ?_
    rw [BitVec.toNat_ofInt]
    have : ((m : Int) % (2 ^ 64 : Nat)).toNat = m := by
      rw [Int.emod_eq_of_lt (by omega) (by omega)]; omega
    omega
  rw [wrapN (by omega)]
  omega
theorem over_whole {l cs : List Value} (h : l.length = cs.length) : over l 0 cs = cs := by
  unfold over
  rw [List.take_zero, List.nil_append, Nat.zero_add, ← h, List.drop_length, List.append_nil]
theorem i64_range {n : Int} (h : (Lit.int .i64 n).wf = true) : -9223372036854775808 ≤ n ∧ n ≤ 9223372036854775807 := by
  have h1 : IntKind.i64.min = -9223372036854775808 := by decide
  have h2 : IntKind.i64.max = 9223372036854775807 := by decide
  simp only [Lit.wf, h1, h2, Bool.and_eq_true, decide_eq_true_eq] at h
  omega
end Go.Al
