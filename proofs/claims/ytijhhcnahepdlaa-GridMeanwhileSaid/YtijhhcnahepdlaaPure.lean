/-
  The rules for a region that draws its order; operations that ask whether an index fits; slices and what they hold; append, copy, clear.
-/
import Derived.Test.YtijhhcnahepdlaaDraw
namespace Go.Al
open Go Go.RowKit

theorem sure_then {K : Act → World → Prop} {Q : Post} (h : Sure Q) : Sure (Exit.then K Q) := ⟨fun c a w => h.panic c a w, fun a w => h.outgrown a w⟩
theorem sure_block {id : Nat} {Q : Post} (h : Sure Q) : Sure (Exit.inBlock id Q) := ⟨fun c a w => h.panic c a w, fun a w => h.outgrown a w⟩
theorem sure_body {P : Program} {fn : Func} {R : Ending → World → Prop} (h : ∀ e w, R e w → ∃ v, e = .returned v) : Sure (bodyPost P fn R) :=
  ⟨fun c a w hh => (by obtain ⟨v, hv⟩ := h _ _ hh.2; cases hv), fun a w hh => (by obtain ⟨v, hv⟩ := h _ _ hh; cases hv)⟩

def GI (P : Program) (r : Option Nat) (n : Nat) (ds : List Deferred) (ops : Array Oper) (Q : Post) (act : Nat → Bool) (S : Nat → Prop) (w1 : World) (l : List Nat) (e : Env) (w : World) : Prop :=
  ∀ a, Has n ds e a → wpG P r ops Q act (Keep S w1) l a w

section
variable {P : Program} {r : Option Nat} {n : Nat} {ds : List Deferred} {ops : Array Oper} {Q : Post} {act : Nat → Bool} {S : Nat → Prop} {w1 : World} {i : Nat} {l : List Nat} {e : Env} {w w' : World} {op : Op}

theorem V_draws {id : Nat} (act : Nat → Bool) (S : Nat → Prop) (Ls : List (List Nat)) (hm : P.follows .mixedOrders = true) (hQ : Sure Q) (hk : drawOk ops act Ls = true)
    (k : ∀ w1, Keep none_ w w1 → w1.heap = w.heap → ∀ L, L ∈ Ls → GI P r n ds ops Q act S w1 L e w1) : V P r n ds (.region id ops true) Q e w := fun a ha =>
  W_draw act (Keep S { w with drawn := w.drawn + 1 }) Ls hm hQ hk (Keep.refl _ _) (fun L hL => k { w with drawn := w.drawn + 1 } ((Keep.refl _ w).drew _) rfl L hL a ha)
theorem V_draw {id : Nat} (act : Nat → Bool) (S : Nat → Prop) (L : List Nat) (hm : P.follows .mixedOrders = true) (hQ : Sure Q) (hk : drawOk ops act [L] = true)
    (k : ∀ w1, Keep none_ w w1 → w1.heap = w.heap → GI P r n ds ops Q act S w1 L e w1) : V P r n ds (.region id ops true) Q e w :=
  V_draws act S [L] hm hQ hk (fun w1 h1 h2 L' hL => by
    rw [List.mem_singleton] at hL
    subst hL
    exact k w1 h1 h2)
theorem V_draw2 {id : Nat} (act : Nat → Bool) (S : Nat → Prop) (L L2 : List Nat) (hm : P.follows .mixedOrders = true) (hQ : Sure Q) (hk : drawOk ops act [L, L2] = true)
    (k : ∀ w1, Keep none_ w w1 → w1.heap = w.heap → GI P r n ds ops Q act S w1 L e w1) (k2 : ∀ w1, Keep none_ w w1 → w1.heap = w.heap → GI P r n ds ops Q act S w1 L2 e w1) : V P r n ds (.region id ops true) Q e w :=
  V_draws act S [L, L2] hm hQ hk (fun w1 h1 h2 L' hL => by
    rcases List.mem_cons.1 hL with hL | hL
    · subst hL; exact k w1 h1 h2
    · rw [List.mem_singleton] at hL
      subst hL
      exact k2 w1 h1 h2)
theorem Blk.same {w w1 : World} {b : Nat} {l : List Value} {t : TypeId} (h : Blk w b l t) (he : w1.heap = w.heap) : Blk w1 b l t := by unfold Blk at *; rw [he]; exact h

theorem GI_end (k : XV n ds .normal Q e w) : GI P r n ds ops Q act S w1 [] e w := fun a ha => k a ha
theorem GI_eq (e' : Env) (h : e = e') (k : GI P r n ds ops Q act S w1 l e' w) : GI P r n ds ops Q act S w1 l e w := by subst h; exact k
theorem GI_pick (e' : Env) (h : pick (e'.map (·.1)) e = some e') (k : GI P r n ds ops Q act S w1 l e' w) : GI P r n ds ops Q act S w1 l e w :=
  fun a ha => k a (ha.weaken (pick_look _ _ _ h))
/-- An operation that answers the same whatever the acting ones have done. -/
theorem GI_quiet {v : Value} (d : Option Tmp) (op : Op) (h : site ops e i = some (d, op)) (hact : act i = false) (hx : ∀ o : Oper, ops[i]? = some o → o.op = op → ∀ w', (Keep S w1 w' ∨ noLoad o = true) → (execOp (ev e) o).run P w' = .ok (.value v) w')
    (k : GI P r n ds ops Q act S w1 l (putE n d v e) w) : GI P r n ds ops Q act S w1 (i :: l) e w := fun a ha => by
  obtain ⟨o, ho, hd, hop, hg, hr, _, hs⟩ := site_spec h
  subst hop
  simp only [wpG, ho, hact, Bool.false_and, Bool.false_eq_true, if_false]
  refine ⟨v, .inl ⟨guardE_spec ha hg, fun w' hw' => ?_⟩, ?_⟩
  · rw [execOp_has ha hr hs]; exact hx o ho rfl w' hw'
  · rw [hd]; exact k _ (ha.put d v)
theorem GI_not {o : Oper} (ho : ops[i]? = some o) (hg : guardE ops e o = some false) (k : GI P r n ds ops Q act S w1 l (putE n o.dst undef e) w) : GI P r n ds ops Q act S w1 (i :: l) e w := fun a ha => by
  have hw := guardE_spec ha hg
  simp only [wpG, ho, hw, Bool.and_false, Bool.false_eq_true, if_false]
  exact ⟨undef, .inr ⟨hw, rfl⟩, k _ (ha.put _ _)⟩
/-- An operation that acts. -/
theorem GI_do (d : Option Tmp) (op : Op) (h : site ops e i = some (d, op)) (hact : act i = true) (k : ∀ o : Oper, o.op = op → o.dst = d → ∀ a, Has n ds e a → execOp a.eval o = execOp (ev e) o → Does P r o a w (fun a' w' => Keep S w1 w' ∧ wpG P r ops Q act (Keep S w1) l a' w') Q) : GI P r n ds ops Q act S w1 (i :: l) e w := fun a ha => by
  obtain ⟨o, ho, hd, hop, hg, hr, hdf, hs⟩ := site_spec h
  subst hop
  simp only [wpG, ho, hact, Bool.true_and, guardE_spec ha hg, if_true]
  exact Does_mono (fun a' w' _ hk => ⟨fun _ => hk.1, hk.2⟩) (k o rfl hd a ha (execOp_has ha hr hs))
/-- The last ones of a region, all of which act, and behind which none stands that does not: from here on they come one behind the other. -/
theorem OA_wpG {G : World → Prop} : ∀ (l : List Nat) (a : Act) (w : World), l.all (fun j => act j && !need ops act j && (match ops[j]? with | some o => !isDefer o.op | none => false)) = true → OA P r ops Q l a w → wpG P r ops Q act G l a w
  | [], a, w, _, h => h
  | i :: l, a, w, hl, h => by
    simp only [List.all_cons, Bool.and_eq_true, Bool.not_eq_true'] at hl
    obtain ⟨⟨⟨h1, h2⟩, h3⟩, hl⟩ := hl
    simp only [OA, wpOpsIn] at h
    simp only [wpG]
    cases ho : ops[i]? with
    | none => rw [ho] at h3; cases h3
    | some o =>
      simp only [ho] at h h3 ⊢
      have hd : isDefer o.op = false := by simpa using h3
      by_cases hw : Region.wanted o (yielded ops a.tmps) = true
      · rw [if_pos hw] at h
        rw [if_pos (by simp [h1, hw])]
        exact Does_mono (fun a' w' _ hk => ⟨fun hn => absurd (h2.symm.trans hn) (by decide), OA_wpG l a' w' hl hk⟩) ((wpIn_iff _ hd).1 h)
      · rw [if_neg hw] at h
        rw [if_neg (by simp [hw])]
        exact ⟨undef, .inr ⟨by simpa using hw, rfl⟩, OA_wpG l _ w hl h.2⟩
theorem GI_final (j : Nat) (hl : l = List.range' j (ops.size - j)) (hact : l.all (fun j => act j && !need ops act j && (match ops[j]? with | some o => !isDefer o.op | none => false)) = true) (k : OI P r n ds ops Q j e w) : GI P r n ds ops Q act S w1 l e w := fun a ha => by
  subst hl
  exact OA_wpG _ a w hact (k a ha)

/-- An operation that acts, and behind which nothing is looked at that it may change. -/
theorem GI_do0 (d : Option Tmp) (op : Op) (h : site ops e i = some (d, op)) (hact : act i = true) (hn : need ops act i = false) (k : ∀ o : Oper, o.op = op → o.dst = d → ∀ a, Has n ds e a → execOp a.eval o = execOp (ev e) o → Does P r o a w (fun a' w' => wpG P r ops Q act (Keep S w1) l a' w') Q) : GI P r n ds ops Q act S w1 (i :: l) e w := fun a ha => by
  obtain ⟨o, ho, hd, hop, hg, hr, hdf, hs⟩ := site_spec h
  subst hop
  simp only [wpG, ho, hact, Bool.true_and, guardE_spec ha hg, if_true]
  exact Does_mono (fun a' w' _ hk => ⟨fun hh => absurd (hn.symm.trans hh) Bool.false_ne_true, hk⟩) (k o rfl hd a ha (execOp_has ha hr hs))
def runG (P : Program) (ops : Array Oper) (n : Nat) (act : Nat → Bool) : List Nat → Env → Option Env
  | [], e => some e
  | i :: l, e =>
    match ops[i]? with
    | none => none
    | some o =>
      match guardE ops e o with
      | none => none
      | some false => runG P ops n act l (putE n o.dst undef e)
      | some true =>
        match site ops e i, act i with
        | some _, false =>
          match static P (execOp (ev e) o) with
          | some (.value v) => runG P ops n act l (putE n o.dst v e)
          | _ => none
        | _, _ => none
theorem runG_sound : ∀ (m l : List Nat) (e e' : Env), runG P ops n act m e = some e' → GI P r n ds ops Q act S w1 l e' w → GI P r n ds ops Q act S w1 (m ++ l) e w
  | [], l, e, e', h, k => by simp only [runG, Option.some.injEq] at h; subst h; exact k
  | i :: m, l, e, e', h, k => by
    simp only [runG] at h
    rw [List.cons_append]
    split at h
    · cases h
    · rename_i o ho
      split at h
      · cases h
      · rename_i hg; exact GI_not ho hg (runG_sound m l _ _ h k)
      · rename_i hg
        split at h
        · rename_i so hso hact
          split at h
          · rename_i v hv
            obtain ⟨d, op⟩ := so
            obtain ⟨o', ho', hd, hop, _⟩ := site_spec hso
            rw [ho] at ho'
            simp only [Option.some.injEq] at ho'
            subst ho'
            subst hd
            refine GI_quiet (v := v) _ _ hso hact (fun o2 hi2 _ w' _ => ?_) (runG_sound m l _ _ h k)
            rw [ho] at hi2
            simp only [Option.some.injEq] at hi2
            subst hi2
            exact static_run _ hv w'
          · cases h
        · cases h
def statG (P : Program) (ops : Array Oper) (n : Nat) (act : Nat → Bool) (l l' : List Nat) (e : Env) (ks : List Nat) : Option Env :=
  bif sameList l (l.take (l.length - l'.length) ++ l') then (runG P ops n act (l.take (l.length - l'.length)) e).bind (pick ks) else none
theorem GI_static (l' : List Nat) (e' : Env) (h : statG P ops n act l l' e (e'.map (·.1)) = some e') (k : GI P r n ds ops Q act S w1 l' e' w) : GI P r n ds ops Q act S w1 l e w := by
  unfold statG at h
  cases hij : sameList l (l.take (l.length - l'.length) ++ l') with
  | false => rw [hij] at h; cases h
  | true =>
    rw [hij] at h
    simp only [cond_true] at h
    cases hr : runG P ops n act (l.take (l.length - l'.length)) e with
    | none => rw [hr] at h; cases h
    | some e2 =>
      rw [hr] at h
      simp only [Option.bind_some] at h
      rw [sameList_eq _ _ hij]
      exact runG_sound _ l' e e2 hr (GI_pick e' h k)
theorem GI_cell {T : TypeId} {b m : Nat} {L : List Value} (t : TypeId) (x : Operand) (o : Nat) (v : Value) (d : Option Tmp) (h : site ops e i = some (d, .load t x)) (hact : act i = false) (hx : ev e x = .pointer (some ⟨b, o, none⟩)) (hb : Blk w1 b L T) (hS : ¬ S b) (ht : tk P t = some (false, m)) (hv : L[o]? = some v)
    (k : GI P r n ds ops Q act S w1 l (putE n d v e) w) : GI P r n ds ops Q act S w1 (i :: l) e w :=
  GI_quiet d _ h hact (fun o' _ ho w' hw' => by
    replace hw' : Keep S w1 w' := hw'.resolve_right (by unfold noLoad; rw [ho]; exact Bool.false_ne_true)
    have hl := loads_cell (P := P) (hb.keep hw' hS) ht hv
    unfold Loads at hl
    unfold execOp
    simp only [ho, hx, Sem.run_bind, hl, Result.andThen, Sem.run_pure]) k
theorem GI_agg {T : TypeId} {b m : Nat} {L : List Value} (t : TypeId) (x : Operand) (o : Nat) (cs : List Value) (d : Option Tmp) (h : site ops e i = some (d, .load t x)) (hact : act i = false) (hx : ev e x = .pointer (some ⟨b, o, none⟩)) (hb : Blk w1 b L T) (hS : ¬ S b) (ht : tk P t = some (true, m)) (hv : (L.drop o).take m = cs) (hm : cs.length = m)
    (k : GI P r n ds ops Q act S w1 l (putE n d (.agg cs.toArray) e) w) : GI P r n ds ops Q act S w1 (i :: l) e w :=
  GI_quiet d _ h hact (fun o' _ ho w' hw' => by
    replace hw' : Keep S w1 w' := hw'.resolve_right (by unfold noLoad; rw [ho]; exact Bool.false_ne_true)
    have hl := loads_agg' (P := P) (hb.keep hw' hS) ht hv hm
    unfold Loads at hl
    unfold execOp
    simp only [ho, hx, Sem.run_bind, hl, Result.andThen, Sem.run_pure]) k
theorem GI_call {R : Ending → World → Prop} (c : Call) (f : FuncId) (args : Array Value) (d : Option Tmp) (h : site ops e i = some (d, .call c)) (hact : act i = true) (hc : callee e c = some (f, args)) (hf : bodied P f = true) (hR : Calls P f args w R)
    (k : ∀ e' w', R e' w' → ∃ v, e' = .returned v ∧ Keep S w1 w' ∧ GI P r n ds ops Q act S w1 l (putE n d v e) w') : GI P r n ds ops Q act S w1 (i :: l) e w :=
  GI_do d _ h hact fun o ho hd a ha he => does_call (by rw [he]; exact call_run hc hf o ho w) (hR.mono fun e' w' hr => by
    obtain ⟨v, hv, hK, hk⟩ := k e' w' hr
    exact ⟨v, hv, hK, by rw [hd]; exact hk _ (ha.put d v)⟩)
theorem GI_call0 {R : Ending → World → Prop} (c : Call) (f : FuncId) (args : Array Value) (d : Option Tmp) (h : site ops e i = some (d, .call c)) (hact : act i = true) (hn : need ops act i = false) (hc : callee e c = some (f, args)) (hf : bodied P f = true) (hR : Calls P f args w R)
    (k : ∀ e' w', R e' w' → ∃ v, e' = .returned v ∧ GI P r n ds ops Q act S w1 l (putE n d v e) w') : GI P r n ds ops Q act S w1 (i :: l) e w :=
  GI_do0 d _ h hact hn fun o ho hd a ha he => does_call (by rw [he]; exact call_run hc hf o ho w) (hR.mono fun e' w' hr => by
    obtain ⟨v, hv, hk⟩ := k e' w' hr
    exact ⟨v, hv, by rw [hd]; exact hk _ (ha.put d v)⟩)
theorem GI_value {v : Value} (d : Option Tmp) (op : Op) (h : site ops e i = some (d, op)) (hact : act i = true) (hx : ∀ o : Oper, o.op = op → (execOp (ev e) o).run P w = .ok (.value v) w') (hK : Keep S w1 w') (k : GI P r n ds ops Q act S w1 l (putE n d v e) w') : GI P r n ds ops Q act S w1 (i :: l) e w :=
  GI_do d op h hact fun o ho hd a ha he => does_value (by rw [he]; exact hx o ho) ⟨hK, by rw [hd]; exact k _ (ha.put d v)⟩
theorem GI_skipped (d : Option Tmp) (op : Op) (h : site ops e i = some (d, op)) (hact : act i = true) (hx : ∀ o : Oper, o.op = op → (execOp (ev e) o).run P w = .ok .skip w') (hK : Keep S w1 w') (k : GI P r n ds ops Q act S w1 l (putE n d undef e) w') : GI P r n ds ops Q act S w1 (i :: l) e w :=
  GI_do d op h hact fun o ho hd a ha he => does_skip (by rw [he]; exact hx o ho) ⟨hK, by rw [hd]; exact k _ (ha.put d undef)⟩
theorem GI_laid {L : List Value} {t : TypeId} {v : Value} (d : Option Tmp) (op : Op) (h : site ops e i = some (d, op)) (hact : act i = true) (hK : Keep S w1 w) (hx : ∀ o : Oper, o.op = op → (execOp (ev e) o).run P w = .ok (.value v) (laid w (.cells L.toArray t)))
    (k : ∀ w', Blk w' w.heap.size L t → Keep none_ w w' → w'.heap.size = w.heap.size + 1 → Keep S w1 w' → GI P r n ds ops Q act S w1 l (putE n d v e) w') : GI P r n ds ops Q act S w1 (i :: l) e w :=
  have hk : Keep none_ w (laid w (.cells L.toArray t)) := laid_keep _ _ (by intro c t f hc; cases hc; rfl)
  GI_value d op h hact hx (hK.tr hk.ofNone) (k _ (laid_blk _ _ _) hk (laid_size _ _) (hK.tr hk.ofNone))
theorem GI_box (t : TypeId) (x : Operand) (v : Value) (L : List Value) (d : Option Tmp) (h : site ops e i = some (d, .box t x)) (hact : act i = true) (hK : Keep S w1 w) (hx : ev e x = v) (hl : v.cells = L.toArray)
    (k : ∀ b w', b = w.heap.size → Blk w' b L t → Keep none_ w w' → w'.heap.size = b + 1 → Keep S w1 w' → GI P r n ds ops Q act S w1 l (putE n d (.pointer (some ⟨b, 0, none⟩)) e) w') : GI P r n ds ops Q act S w1 (i :: l) e w :=
  GI_laid d _ h hact hK (fun o ho => by
    unfold execOp
    simp only [ho, hx]
    unfold Instr.box newVar newRow newObj
    simp only [hl]
    rfl) (fun w' => k _ w' rfl)
theorem GI_set {T : TypeId} {b m : Nat} {kd : Bool} {L : List Value} (t : TypeId) (x y : Operand) (o : Nat) (v : Value) (cs : List Value) (d : Option Tmp) (h : site ops e i = some (d, .store t x y)) (hact : act i = true) (hx : ev e x = .pointer (some ⟨b, o, none⟩)) (hy : ev e y = v)
    (hb : Blk w b L T) (ht : tk P t = some (kd, m)) (hv : v.cells = cs.toArray) (hn : cs.length = m) (hl : o + m ≤ L.length) (h1 : ∀ u ∈ cs, u.oneCell' = true) (hK : Keep S w1 w) (hS : b < w1.heap.size → S b)
    (k : ∀ w', Blk w' b (over L o cs) T → Keep (only b) w w' → w'.heap.size = w.heap.size → Keep S w1 w' → GI P r n ds ops Q act S w1 l (putE n d undef e) w') : GI P r n ds ops Q act S w1 (i :: l) e w := by
  have hs := stores (P := P) hb ht hv hn hl h1
  have hk : Keep (only b) w (turned w b (.cells (over L o cs).toArray T)) := turned_keep (by intro c t f hc; cases hc; rfl)
  have hK' : Keep S w1 (turned w b (.cells (over L o cs).toArray T)) := hK.fresh hk (fun i hi hS' => by rw [show i = b from hS'] at hi ⊢; exact hS hi)
  exact GI_skipped d _ h hact (fun o' ho => by
    unfold Stores at hs
    unfold execOp
    simp only [ho, hx, hy, Sem.run_bind, hs, Result.andThen, Sem.run_pure]) hK' (k _ (turned_blk _ _ hb.lt) hk (turned_size _ _ _) hK')

/-! ### Operations that answer the same in every world, under a condition -/

def PureOp (P : Program) (e : Env) (op : Op) (v : Value) : Prop := ∀ o : Oper, o.op = op → ∀ w, (execOp (ev e) o).run P w = .ok (.value v) w
theorem OI_pure {v : Value} (d : Option Tmp) (op : Op) (h : site ops e i = some (d, op)) (hx : PureOp P e op v) (k : OI P r n ds ops Q (i + 1) (putE n d v e) w) : OI P r n ds ops Q i e w :=
  OI_value h (fun o ho => hx o ho w) k
theorem GI_pure {v : Value} (d : Option Tmp) (op : Op) (h : site ops e i = some (d, op)) (hact : act i = false) (hx : PureOp P e op v) (k : GI P r n ds ops Q act S w1 l (putE n d v e) w) : GI P r n ds ops Q act S w1 (i :: l) e w :=
  GI_quiet d op h hact (fun o _ ho w' _ => hx o ho w') k

/-- A slice type's elements: their type, how many cells each, how many bytes. -/
def slk (P : Program) (t : TypeId) : Option (TypeId × Nat × Nat) :=
  match P.underlying t with
  | some (.slice E) => (P.info? E).map fun inf => (E, inf.size, inf.bytes)
  | _ => none
theorem slk_spec {t E : TypeId} {sz by_ : Nat} (h : slk P t = some (E, sz, by_)) : P.underlying t = some (.slice E) ∧ ∃ inf, P.info? E = some inf ∧ inf.size = sz ∧ inf.bytes = by_ := by
  unfold slk at h
  split at h
  · rename_i E' hu
    cases hi : P.info? E' with
    | none => simp [hi] at h
    | some inf =>
      simp only [hi, Option.map_some, Option.some.injEq, Prod.mk.injEq] at h
      obtain ⟨rfl, h2, h3⟩ := h
      exact ⟨hu, inf, hi, h2, h3⟩
  · cases h
theorem run_und {t : TypeId} {d : TypeDesc} (h : P.underlying t = some d) (w : World) : (underlying t).run P w = .ok d w := by
  unfold underlying
  simp [Sem.run_bind, program, Sem.run, h, Result.andThen]
theorem run_size {t : TypeId} {inf : TypeInfo} (h : P.info? t = some inf) (w : World) : (sizeOf t).run P w = .ok inf.size w := by
  unfold sizeOf typeInfo
  simp [Sem.run_bind, program, Sem.run, h, Result.andThen]
theorem pure_idx {t E : TypeId} {x y : Operand} {b o len cap sz by_ : Nat} {kd : IntKind} {j : Int} (hx : ev e x = .slice (some ⟨b, o, none⟩) len cap) (hy : ev e y = .int kd j) (hs : slk P t = some (E, sz, by_)) (h0 : 0 ≤ j) (h1 : j < len) :
    PureOp P e (.indexAddr t x y) (.pointer (some ⟨b, o + j.toNat * sz, none⟩)) := fun op ho w => by
  obtain ⟨hu, inf, hi, hsz, _⟩ := slk_spec hs
  unfold execOp
  simp only [ho, hx, hy]
  unfold Instr.indexAt
  simp only [Sem.run_bind, asIntOf, Sem.run_pure, Result.andThen, run_und hu, run_size hi, h0, h1, and_self, if_true, add_plain, hsz]

/-! ### Slices -/

/-- A slice of m elements, sz cells each: nil, or a stretch of a block; the cells that the elements fill. -/
def SlR (w : World) (sz : Nat) (v : Value) (m : Nat) (cells : List Value) : Prop :=
  (v = .slice none 0 0 ∧ m = 0 ∧ cells = []) ∨
  ∃ b o cap L T, v = .slice (some ⟨b, o, none⟩) m cap ∧ Blk w b L T ∧ m ≤ cap ∧ o + cap * sz ≤ L.length ∧ (L.drop o).take (m * sz) = cells
/-- The block that a slice leads to. -/
def blkOf : Value → Nat → Prop
  | .slice (some a) _ _, k => k = a.block
  | _, _ => False
theorem SlR.keep {w w' : World} {S : Nat → Prop} {sz m : Nat} {v : Value} {cells : List Value} (h : SlR w sz v m cells) (hk : Keep S w w') (hS : ∀ k, blkOf v k → ¬ S k) : SlR w' sz v m cells := by
  rcases h with h | ⟨b, o, cap, L, T, rfl, hb, h1, h2, h3⟩
  · exact .inl h
  · exact .inr ⟨b, o, cap, L, T, rfl, hb.keep hk (hS b rfl), h1, h2, h3⟩
theorem SlR.length {w : World} {sz m : Nat} {v : Value} {cells : List Value} (h : SlR w sz v m cells) : cells.length = m * sz := by
  rcases h with ⟨_, rfl, rfl⟩ | ⟨b, o, cap, L, T, rfl, hb, h1, h2, h3⟩
  · simp
  · subst h3
    have : m * sz ≤ cap * sz := Nat.mul_le_mul_right _ h1
    simp; omega
theorem SlR.lt {w : World} {sz m : Nat} {v : Value} {cells : List Value} (h : SlR w sz v m cells) : ∀ k, blkOf v k → k < w.heap.size := by
  rcases h with ⟨rfl, _, _⟩ | ⟨b, o, cap, L, T, rfl, hb, h1, h2, h3⟩
  · intro k hk; exact hk.elim
  · intro k hk; rw [show k = b from hk]; exact hb.lt

theorem cells_slice {α : Type} {L : List α} {o a b n : Nat} (hab : a + b ≤ n) : ((L.drop o).take n |>.drop a).take b = (L.drop (o + a)).take b := by
  rw [List.drop_take, List.take_take, List.drop_drop, Nat.min_eq_left (by omega)]

/-- Loading the first cells of a slice. -/
theorem first_run {w : World} {sz m j : Nat} {v : Value} {cells : List Value} (h : SlR w sz v m cells) (hj : j ≤ m) : (Builtin.firstCells sz j v).run P w = .ok (cells.take (j * sz)).toArray w := by
  rcases h with ⟨rfl, rfl, rfl⟩ | ⟨b, o, cap, L, T, rfl, hb, h1, h2, h3⟩
  · simp [Builtin.firstCells, Sem.run_pure]
  · unfold Builtin.firstCells
    subst h3
    have hm : m * sz ≤ cap * sz := Nat.mul_le_mul_right _ h1
    have hjm : j * sz ≤ m * sz := Nat.mul_le_mul_right _ hj
    have hlen : ((L.drop o).take (j * sz)).length = j * sz := by simp; omega
    have hl : (loadCells ⟨b, o, none⟩ ((L.drop o).take (j * sz)).length).run P w = .ok ((L.drop o).take (j * sz)).toArray w :=
      run_loadCells_list (P := P) w ⟨b, o, none⟩ _ (fun q u hu => by
        rw [add_plain, blk_cell hb]
        rw [List.getElem?_take] at hu
        split at hu
        · rw [List.getElem?_drop] at hu; exact hu
        · cases hu)
    rw [hlen] at hl
    rw [List.take_take, Nat.min_eq_left hjm]
    exact hl

def maxBytes : Nat := 1048576
/-- How large the next capacity may be: far from the bound. -/
theorem nextcap_le {need cap : Nat} (h : cap < need) : Builtin.nextslicecap need cap ≤ 4 * need + 4096 := by
  unfold Builtin.nextslicecap
  split
  · omega
  · split
    · omega
    · have g : ∀ (c : Nat), c ≤ need → c + (c + 768) / 4 ≤ need + (need + 768) / 4 := fun c hc => by omega
      have step : ∀ (k c : Nat), Builtin.growBy need k c ≤ max c (need + (need + 768) / 4) := by
        intro k
        induction k with
        | zero => intro c; simp only [Builtin.growBy]; omega
        | succ k ih =>
          intro c
          simp only [Builtin.growBy]
          split
          · omega
          · rename_i hc
            have := ih (c + (c + 768) / 4)
            omega
      have := step 4 cap
      omega

theorem askRoom_run (b : Nat) (w : World) : (askRoom b).run P w = .ok () w := by
  unfold askRoom
  split <;> rfl
theorem typeInfo_run {t : TypeId} {inf : TypeInfo} (h : P.info? t = some inf) (w : World) : (typeInfo t).run P w = .ok inf w := by
  unfold typeInfo
  simp [Sem.run_bind, program, Sem.run, h, Result.andThen]
/-- What 'append(s, x...)' hands back. -/
structure Appended (w : World) (sz : Nat) (s : Value) (m : Nat) (old new : List Value) (k : Nat) (v : Value) (w' : World) : Prop where
  holds : SlR w' sz v (m + k) (old ++ new)
  keep : Keep (blkOf s) w w'
  own : ∀ b, blkOf v b → blkOf s b ∨ (w.heap.size ≤ b)
  new_ : v = .slice none 0 0 → s = .slice none 0 0 ∧ k = 0

theorem append_run {t E E2 at2 : TypeId} {sz by_ m k : Nat} {zv s x : Value} {old new : List Value} {w : World} (hs : slk P t = some (E, sz, by_)) (hz : zeroV P E = some zv) (hzl : zv.cells.size = sz) (h : SlR w sz s m old) (hx : SlR w sz x k new)
    (h1 : ∀ u ∈ new, u.oneCell' = true) (hb : (m + k) * by_ ≤ 1099511627776) (hby : by_ ≤ 1048576) (hmk : m + k ≤ 1099511627776) (hby0 : by_ ≠ 0) (h2 : P.underlying at2 = some (.slice E2)) (ty : TypeId) :
    ∃ v w', (Builtin.append_ #[t, at2] ty #[s, x]).run P w = .ok v w' ∧ Appended w sz s m old new k v w' := by
  obtain ⟨hu, inf, hi, hsz, hbs⟩ := slk_spec hs
  have hnew : new.length = k * sz := hx.length
  have hold : old.length = m * sz := h.length
  have hlx : (Builtin.lenOf x).run P w = .ok k w := by
    rcases hx with ⟨rfl, rfl, rfl⟩ | ⟨b, o, cap, L, T, rfl, _, _, _, _⟩ <;> rfl
  have hfx : ∀ w', SlR w' sz x k new → (Builtin.firstCells sz k x).run P w' = .ok new.toArray w' := by
    intro w' hx'
    rw [first_run hx' (Nat.le_refl _), List.take_of_length_le (by omega)]
  obtain ⟨base, cap, hsv⟩ : ∃ base cap, s = .slice base m cap := by
    rcases h with ⟨rfl, rfl, rfl⟩ | ⟨b, o, cap, L, T, rfl, _, _, _, _⟩
    · exact ⟨_, _, rfl⟩
    · exact ⟨_, _, rfl⟩
  have hfs : ∀ w', SlR w' sz s m old → (Builtin.firstCells sz m s).run P w' = .ok old.toArray w' := by
    intro w' hs'
    rw [first_run hs' (Nat.le_refl _), List.take_of_length_le (by omega)]
  by_cases hroom : m + k ≤ cap
  · -- there is room
    rcases h with ⟨rfl, rfl, rfl⟩ | ⟨b, o, cap', L, T, hv, hblk, hm, hL, hcells⟩
    · obtain ⟨rfl, rfl⟩ : base = none ∧ cap = 0 := by cases hsv; exact ⟨rfl, rfl⟩
      have hk0 : k = 0 := by omega
      subst hk0
      have hn0 : new = [] := List.length_eq_zero_iff.1 (by omega)
      subst hn0
      refine ⟨.slice none 0 0, w, ?_, ⟨.inl ⟨rfl, rfl, rfl⟩, Keep.refl _ _, fun b hb => hb.elim, fun _ => ⟨rfl, rfl⟩⟩⟩
      unfold Builtin.append_
      simp [Sem.run_bind, run_und hu, run_und h2, run_size hi, Result.andThen, hlx, hsz, hfx w hx]
    · rw [hsv] at hv
      obtain ⟨rfl, rfl⟩ : base = some ⟨b, o, none⟩ ∧ cap = cap' := by cases hv; exact ⟨rfl, rfl⟩
      subst hsv
      have hle : (m + k) * sz ≤ cap * sz := Nat.mul_le_mul_right _ hroom
      have hsplit : (m + k) * sz = m * sz + k * sz := Nat.add_mul ..
      have hst := run_storeCells (P := P) new (o + m * sz) 0 L w hblk (by omega) h1
      refine ⟨.slice (some ⟨b, o, none⟩) (m + k) cap, turned w b (.cells (over L (o + m * sz) new).toArray T), ?_, ⟨.inr ⟨b, o, cap, over L (o + m * sz) new, T, rfl, turned_blk _ _ hblk.lt, hroom, ?_, ?_⟩, ?_, fun b' hb' => .inl hb', fun he => by cases he⟩⟩
      · unfold Builtin.append_
        simp [Sem.run_bind, run_und hu, run_und h2, run_size hi, Result.andThen, hlx, hsz, hfx w hx, hroom, add_plain, hst]
      · rw [over_length (by omega)]; exact hL
      · rw [hsplit, ← hcells]
        unfold over
        rw [List.append_assoc, List.drop_append_of_le_length (by simp; omega)]
        rw [List.take_append, List.take_append]
        have e1 : ((L.take (o + m * sz)).drop o) = (L.drop o).take (m * sz) := by rw [List.drop_take]; congr 1; omega
        rw [e1]
        have hl1 : ((L.drop o).take (m * sz)).length = m * sz := by simp; omega
        rw [hl1, List.take_of_length_le (by omega)]
        congr 1
        rw [show m * sz + k * sz - m * sz = k * sz by omega, List.take_of_length_le (by omega), hnew, Nat.sub_self, List.take_zero, List.append_nil]
      · refine (turned_keep (by intro c t f hc; cases hc; rfl)).mono ?_
        intro i _ hi'
        exact hi'
  · -- a new array
    have hcap : cap < m + k := by omega
    have hnc := nextcap_le hcap
    have hbig : ¬ (Builtin.nextslicecap (m + k) cap * inf.bytes > 2 ^ 48) := by
      rw [hbs]
      have : Builtin.nextslicecap (m + k) cap * by_ ≤ (4 * (m + k) + 4096) * by_ := Nat.mul_le_mul_right _ hnc
      have e : (4 * (m + k) + 4096) * by_ = 4 * ((m + k) * by_) + 4096 * by_ := by rw [Nat.add_mul, Nat.mul_assoc]
      omega
    have hq : (Question.appendCap (m + k) cap E).forced = false := rfl
    obtain ⟨nc, hnc⟩ : ∃ nc, nc = Question.cut (.appendCap (m + k) cap E) (w.tape w.drawn (.appendCap (m + k) cap E)) := ⟨_, rfl⟩
    have hnc1 : m + k ≤ nc := by rw [hnc]; simp only [Question.cut]; omega
    have hxd : SlR w.drew sz x k new := hx
    have hsd : SlR w.drew sz s m old := h
    obtain ⟨rest, hrest⟩ : ∃ rest : List Value, rest = (Builtin.zeroCells zv.cells (nc - (m + k))).toList := ⟨_, rfl⟩
    have hrl : rest.length = (nc - (m + k)) * sz := by rw [hrest]; simp [Builtin.zeroCells, hzl]
    refine ⟨.slice (some ⟨w.heap.size, 0, none⟩) (m + k) nc, laid w.drew (.cells (old ++ new ++ rest).toArray E), ?_, ⟨.inr ⟨w.heap.size, 0, nc, old ++ new ++ rest, E, rfl, laid_blk _ _ _, hnc1, ?_, ?_⟩, ?_, fun b' hb' => .inr (by rw [show b' = w.heap.size from hb']; exact Nat.le_refl _), fun he => by cases he⟩⟩
    · subst hsv
      have hrc : (Builtin.zeroCells zv.cells (nc - (m + k))) = rest.toArray := by rw [hrest]
      unfold Builtin.append_
      simp only [Sem.run_bind, run_und hu, run_und h2, run_size hi, Result.andThen, hlx, hsz, List.getElem?_toArray, List.getElem?_cons_zero, List.getElem?_cons_succ, Sem.run_pure, if_false, Bool.false_eq_true]
      simp [Sem.run_bind, Result.andThen, hroom, typeInfo_run hi, hbig, zeroV_run hz]
      rw [if_neg (by rw [hbs]; exact fun h => hby0 h.2)]
      simp only [hq, Bool.false_eq_true, if_false, ← hnc, hfs _ hsd, hfx _ hxd, hrc]
      unfold newRow newObj
      simp [Result.andThen, laid]
      rfl
    · have hsplit : nc * sz = (m + k) * sz + (nc - (m + k)) * sz := by rw [← Nat.add_mul]; congr 1; omega
      have hs2 : (m + k) * sz = m * sz + k * sz := Nat.add_mul ..
      simp [hrl, hold, hnew]; omega
    · have hs2 : (m + k) * sz = m * sz + k * sz := Nat.add_mul ..
      rw [List.drop_zero, List.take_append_of_le_length (by simp [hold, hnew]; omega), List.take_of_length_le (by simp [hold, hnew]; omega)]
    · exact (((Keep.refl none_ w).drew (w.drawn + 1)).tr (laid_keep _ _ (by intro c t f hc; cases hc; rfl))).ofNone

theorem builtin_run {b : Builtin} {xs : Array Operand} {ats : Array TypeId} {v : Value} {w w' : World} (f : Array TypeId → TypeId → Array Value → Sem Value) (hb : ∀ ats ty cs args, builtin b ats ty cs args = (do pure (.value (← f ats ty args)))) (o : Oper) (ho : o.op = .call { callee := .builtin b, args := xs, argTypes := ats })
    (h : (f ats o.type (xs.map (ev e))).run P w = .ok v w') : (execOp (ev e) o).run P w = .ok (.value v) w' := by
  unfold execOp
  simp only [ho, resolve, Sem.run_bind, Sem.run_pure, Result.andThen, invoke, hb, h]

theorem OI_append {t E E2 at2 : TypeId} {sz by_ m k : Nat} {zv : Value} {old new : List Value} (x y : Operand) (s xv : Value) (d : Option Tmp) (h : site ops e i = some (d, .call { callee := .builtin .append, args := #[x, y], argTypes := #[t, at2] })) (hx : ev e x = s) (hy : ev e y = xv)
    (hs : slk P t = some (E, sz, by_)) (hz : zeroV P E = some zv) (hzl : zv.cells.size = sz) (h2 : P.underlying at2 = some (.slice E2)) (hS : SlR w sz s m old) (hX : SlR w sz xv k new)
    (h1 : ∀ u ∈ new, u.oneCell' = true) (hb : (m + k) * by_ ≤ 1099511627776) (hby : by_ ≤ 1048576) (hmk : m + k ≤ 1099511627776) (hby0 : by_ ≠ 0)
    (kk : ∀ v w', Appended w sz s m old new k v w' → OI P r n ds ops Q (i + 1) (putE n d v e) w') : OI P r n ds ops Q i e w :=
  OI_do h fun o _ ho hd a ha he => by
    obtain ⟨v, w', hr, hA⟩ := append_run (P := P) hs hz hzl hS hX h1 hb hby hmk hby0 h2 o.type
    refine does_value (v := v) (w' := w') ?_ (by rw [hd]; exact kk v w' hA _ (ha.put d v))
    rw [he]
    exact builtin_run _ (fun _ _ _ _ => rfl) o ho (by simp only [List.map_toArray, List.map_cons, List.map_nil, hx, hy]; exact hr)
theorem GI_append {t E E2 at2 : TypeId} {sz by_ m k : Nat} {zv : Value} {old new : List Value} (x y : Operand) (s xv : Value) (d : Option Tmp) (h : site ops e i = some (d, .call { callee := .builtin .append, args := #[x, y], argTypes := #[t, at2] })) (hact : act i = true) (hx : ev e x = s) (hy : ev e y = xv)
    (hs : slk P t = some (E, sz, by_)) (hz : zeroV P E = some zv) (hzl : zv.cells.size = sz) (h2 : P.underlying at2 = some (.slice E2)) (hS : SlR w sz s m old) (hX : SlR w sz xv k new)
    (h1 : ∀ u ∈ new, u.oneCell' = true) (hb : (m + k) * by_ ≤ 1099511627776) (hby : by_ ≤ 1048576) (hmk : m + k ≤ 1099511627776) (hby0 : by_ ≠ 0)
    (kk : ∀ v w', Appended w sz s m old new k v w' → Keep S w1 w' ∧ GI P r n ds ops Q act S w1 l (putE n d v e) w') : GI P r n ds ops Q act S w1 (i :: l) e w :=
  GI_do d _ h hact fun o ho hd a ha he => by
    obtain ⟨v, w', hr, hA⟩ := append_run (P := P) hs hz hzl hS hX h1 hb hby hmk hby0 h2 o.type
    obtain ⟨hK, hk⟩ := kk v w' hA
    refine does_value (v := v) (w' := w') ?_ ⟨hK, by rw [hd]; exact hk _ (ha.put d v)⟩
    rw [he]
    exact builtin_run _ (fun _ _ _ _ => rfl) o ho (by simp only [List.map_toArray, List.map_cons, List.map_nil, hx, hy]; exact hr)

/-- A bound of a slice expression. -/
def bnd (e : Env) (x : Option Operand) (dflt : Nat) (j : Nat) : Prop := match x with | none => j = dflt | some x => ∃ kd, ev e x = .int kd (j : Int)

theorem bound_run {x : Value} {y j : Nat} {kd : IntKind} {c : BoundsCode} (hx : x = .int kd (j : Int)) (hj : j ≤ y) (w : World) : (Instr.sliceBound x y c).run P w = .ok j w := by
  subst hx
  unfold Instr.sliceBound
  have h2 : (0 : Int) ≤ (j : Int) ∧ (j : Int) ≤ (y : Int) := by omega
  simp only [Sem.run_bind, asIntOf, Sem.run_pure, Result.andThen, h2, and_self, if_true, Int.toNat_natCast]

/-- 'x[l:h]' of a slice. -/
theorem pure_slice {t E : TypeId} {x : Operand} {lo hi : Option Operand} {base : Option Addr} {len cap sz by_ l h : Nat} (hx : ev e x = .slice base len cap) (hs : slk P t = some (E, sz, by_)) (hl : bnd e lo 0 l) (hh : bnd e hi len h) (h1 : l ≤ h) (h2 : h ≤ cap) :
    PureOp P e (.slice t x lo hi none) (.slice (if cap = l then base else base.map (·.add (l * sz))) (h - l) (cap - l)) := fun op ho w => by
  obtain ⟨hu, inf, hi', hsz, _⟩ := slk_spec hs
  have hb : (Instr.sliceBounds true len cap (lo.map (ev e)) (hi.map (ev e)) none).run P w = .ok (l, h, cap) w := by
    unfold Instr.sliceBounds
    cases lo with
    | none =>
      simp only [bnd] at hl
      subst hl
      cases hi with
      | none =>
        simp only [bnd] at hh
        subst hh
        rfl
      | some y =>
        obtain ⟨kd, hy⟩ := hh
        simp only [Option.map_none, Option.map_some, Sem.run_bind, Sem.run_pure, Result.andThen, bound_run hy h2]
    | some z =>
      obtain ⟨kd', hz⟩ := hl
      cases hi with
      | none =>
        simp only [bnd] at hh
        subst hh
        simp only [Option.map_none, Option.map_some, Sem.run_bind, Sem.run_pure, Result.andThen, bound_run hz h1]
      | some y =>
        obtain ⟨kd, hy⟩ := hh
        simp only [Option.map_some, Sem.run_bind, Sem.run_pure, Result.andThen, bound_run hy h2, bound_run hz h1]
  unfold execOp
  simp only [ho]
  unfold Instr.sliceAt
  simp only [Sem.run_bind, run_und hu, Result.andThen, hx]
  unfold Instr.slice
  simp only [Sem.run_bind, run_und hu, Result.andThen, Option.map_none, hb, run_size hi', Sem.run_pure, hsz]
end
end Go.Al
