/-
  Iterators with memory of their own: a loop's rounds leave alone what the iterator has laid for itself.
-/
import Derived.Test.YtijhhcnahepdlaaRng
namespace Go.Al
open Go Go.RowKit

/-- What a loop's round may change: what lay there when the iterator was called, and what has been laid behind the iterator's own blocks. -/
def fen (N N1 : Nat) : Nat → Prop := fun k => k < N ∨ N1 ≤ k
def Iter2 (P : Program) (gf : FuncId) (caps : Array Value) (m : Nat) (enc : Nat → Array Value) (Pre Ok : World → Prop) : Prop :=
  ∀ (l : Nat) (J Jx : Nat → Nat → World → Prop) (W : World), Pre W → (∀ N1 k, Quiet W.heap.size (J N1 k)) → (∀ N1 k, Quiet W.heap.size (Jx N1 k)) →
    (∀ N1 k W1, W.heap.size ≤ N1 → N1 ≤ W1.heap.size → k < m → J N1 k W1 → Yields P l (enc k) W1 fun e W' => Keep (fen W.heap.size N1) W1 W' ∧ ((e = .returned (.bool true) ∧ J N1 (k + 1) W') ∨ (e = .returned (.bool false) ∧ Jx N1 (k + 1) W'))) →
    (∀ N1 k W1, J N1 k W1 → Ok W1) → (∀ N1, W.heap.size ≤ N1 → J N1 0 W) →
    Calls P gf (#[.func (.yield l) #[] #[]] ++ caps) W fun e W' => (∃ v, e = .returned v) ∧ ∃ N1, W.heap.size ≤ N1 ∧ (J N1 m W' ∨ ∃ k, k ≤ m ∧ Jx N1 k W')
theorem Yields.mono {P : Program} {l : Nat} {args : Array Value} {W : World} {R R' : Ending → World → Prop} (h : Yields P l args W R) (hR : ∀ e w, R e w → R' e w) : Yields P l args W R' := by
  obtain ⟨f, t, a, b, h1, h2⟩ := h
  exact ⟨f, t, a, b, h1, RoundIn.mono h2 hR⟩
/-- An iterator without memory of its own is one of the other kind, too. -/
theorem Iter.to2 {P : Program} {gf : FuncId} {caps : Array Value} {m : Nat} {enc : Nat → Array Value} {Pre Ok : World → Prop} (h : Iter P gf caps m enc Pre Ok) : Iter2 P gf caps m enc Pre Ok := by
  intro l J Jx W hP hJ hJx hY hOk h0
  refine (h l (fun k W1 => W.heap.size ≤ W1.heap.size ∧ J W.heap.size k W1) (fun k W1 => Jx W.heap.size k W1) W hP (fun k W1 W2 hj hk => ⟨Nat.le_trans hj.1 hk.size, hJ _ _ _ _ hj.2 hk⟩) (fun k => hJx _ _) ?_ (fun k W1 hj => hOk _ _ _ hj.2) ⟨Nat.le_refl _, h0 _ (Nat.le_refl _)⟩).mono ?_
  · intro k W1 hk hj
    refine (hY _ k W1 (Nat.le_refl _) hj.1 hk hj.2).mono ?_
    rintro e W' ⟨hk, (⟨h1, h2⟩ | h2)⟩
    · exact .inl ⟨h1, Nat.le_trans hj.1 hk.size, h2⟩
    · exact .inr h2
  · rintro e W' ⟨hv, (h1 | h1)⟩
    · exact ⟨hv, _, Nat.le_refl _, .inl h1.2⟩
    · exact ⟨hv, _, Nat.le_refl _, .inr h1⟩
theorem Keep.fen_same {n0 N1 : Nat} {W W1 : World} {l D : Nat} {r : Loop} {d : Option (List Deferred)} (h : Keep (fen n0 N1) W W1) (hl : W.heap[l]? = some (.loop r)) (hD : W.heap[D]? = some (.deferred d)) (h1 : D = n0) (h2 : l = n0 + 1) (h3 : n0 + 2 ≤ N1) : Al.same2 l D W W1 :=
  h.same2 (Array.getElem?_eq_some_iff.1 hl).1 (Array.getElem?_eq_some_iff.1 hD).1 (by show ¬ (_ ∨ _); omega) (by show ¬ (_ ∨ _); omega)
/-- How a round's body may be left. -/
def rQ2 (M N1 : Nat) (J : Nat → World → Prop) (Jx : Code → Nat → World → Prop) (k : Nat) (W : World) : Post := fun x _ W' =>
  match x with
  | .normal => Keep (fen M N1) W W' ∧ J (k + 1) W'
  | .ret => Keep (fen M N1) W W' ∧ Jx .ret (k + 1) W'
  | .exit id => Keep (fen M N1) W W' ∧ Jx (.exit id) (k + 1) W'
  | _ => False
theorem sure_rQ2 {M N1 k : Nat} {J : Nat → World → Prop} {Jx : Code → Nat → World → Prop} {W : World} : Sure (rQ2 M N1 J Jx k W) := ⟨fun _ _ _ h => h.elim, fun _ _ h => h.elim⟩
def beginK2 (P : Program) (M N1 l D : Nat) (body : Code) (J : Nat → World → Prop) (Jx : Code → Nat → World → Prop) (k : Nat) (W : World) (a1 : Act) (W1 : World) : Prop :=
  Keep (fen M N1) W W1 ∧ ∀ W2, Keep (lb M W1) W1 W2 → (∃ r, W2.heap[l]? = some (.loop r)) → W2.heap[D]? = W1.heap[D]? → Al.W P (some l) body (rQ2 M N1 J Jx k W2) a1 W2
section
variable {P : Program} {n : Nat} {ds : List Deferred} {Q : Post} {e : Env} {w : World} {assign body : Code}
theorem X_begin2 {M N1 l D k : Nat} {J : Nat → World → Prop} {Jx : Code → Nat → World → Prop} {W W1 : World} (hs : Keep (fen M N1) W W1) (h : ∀ W2, Keep (lb M W1) W1 W2 → (∃ r, W2.heap[l]? = some (.loop r)) → W2.heap[D]? = W1.heap[D]? → V P (some l) n [] body (rQ2 M N1 J Jx k W2) e W2) :
    XV n [] .normal (Exit.then (beginK2 P M N1 l D body J Jx k W) noPost) e W1 := fun a ha => ⟨hs, fun W2 h1 h2 h3 => h W2 h1 h2 h3 a ha⟩
theorem V_range2 {g : Operand} {ps : Array Tmp} {gf : FuncId} {caps : Array Value} {m : Nat} {enc : Nat → Array Value} {Pre Ok : World → Prop} (hg : ev e g = .func (.func gf) #[] caps) (hr : readable e g = true) (hb : bodied P gf = true) (hit : Iter2 P gf caps m enc Pre Ok) (hPre : Pre w) (hPq : Quiet w.heap.size Pre) (hps : ∀ k, (enc k).size = ps.size)
    (J : Nat → Nat → World → Prop) (Jx : Nat → Code → Nat → World → Prop) (hJ : ∀ N1 k, Quiet w.heap.size (J N1 k)) (hJx : ∀ N1 c k, Quiet w.heap.size (Jx N1 c k)) (h0 : ∀ N1, w.heap.size + 2 ≤ N1 → J N1 0 w) (hOk : ∀ N1 k W, J N1 k W → Ok W)
    (round : ∀ (l D N1 k : Nat) (W : World), D = w.heap.size → l = w.heap.size + 1 → w.heap.size + 2 ≤ N1 → N1 ≤ W.heap.size → k < m → J N1 k W → (∃ r, W.heap[l]? = some (.loop r)) → W.heap[D]? = some (.deferred (some [])) →
      V P (some l) n [] assign (Exit.then (beginK2 P w.heap.size N1 l D body (J N1) (Jx N1) k W) noPost) (putPs n ps.toList (enc k).toList e) W)
    (done : ∀ (D N1 : Nat) (W : World), D = w.heap.size → w.heap.size + 2 ≤ N1 → J N1 m W → W.heap[D]? = some (.deferred (some [])) → XV n (mark D :: ds) .normal Q e W)
    (stop : ∀ (D N1 k : Nat) (c : Code) (W : World), D = w.heap.size → w.heap.size + 2 ≤ N1 → k ≤ m → Jx N1 c k W → W.heap[D]? = some (.deferred (some [])) → V P none n (mark D :: ds) c Q e W) :
    V P none n ds (.rangeFunc g ps assign body) Q e w := by
  intro a ha
  show (Code.rangeFunc g ps assign body).wpIn (FR none) 0 P Q a w
  refine wpIn_rangeFunc ?_
  intro fn hfn
  obtain ⟨rec, hrec⟩ : ∃ rec : LoopState → Option Code → Loop, rec = fun st pe => { state := st, pending := pe, fn := fn, tmps := a.tmps, params := ps, assign := assign, body := body, defers := w.heap.size } := ⟨_, rfl⟩
  obtain ⟨D, hD⟩ : ∃ D, D = w.heap.size := ⟨_, rfl⟩
  obtain ⟨l, hl⟩ : ∃ l, l = w.heap.size + 1 := ⟨_, rfl⟩
  obtain ⟨W0, hW0⟩ : ∃ W0, laid w (.deferred (some [])) = W0 := ⟨_, rfl⟩
  obtain ⟨W1, hW1⟩ : ∃ W1, laid W0 (.loop (rec .ready none)) = W1 := ⟨_, rfl⟩
  have hs0 : W0.heap.size = w.heap.size + 1 := by rw [← hW0]; exact laid_size _ _
  have hs1 : W1.heap.size = w.heap.size + 2 := by rw [← hW1, laid_size, hs0]
  have k0 : Keep none_ w W0 := by rw [← hW0]; exact laid_keep _ _ (by intro c t f h; cases h)
  have k1 : Keep none_ W0 W1 := by rw [← hW1]; exact laid_keep _ _ (by intro c t f h; cases h)
  have hD0 : W0.heap[D]? = some (.deferred (some [])) := by rw [← hW0, hD]; show (w.heap.push _)[w.heap.size]? = _; exact Array.getElem?_push_size
  have hD1 : W1.heap[D]? = some (.deferred (some [])) := (k1.block D (by omega) (fun f => f)).trans hD0
  have hL1 : W1.heap[l]? = some (.loop (rec .ready none)) := by rw [← hW1, hl, ← hs0]; show (W0.heap.push _)[W0.heap.size]? = _; exact Array.getElem?_push_size
  have hJ1 : ∀ N1, W1.heap.size ≤ N1 → J N1 0 W1 := fun N1 h => hJ N1 0 w W1 (h0 N1 (by omega)) (k0.tr k1).ofNone
  -- a turn of the record
  have hput : ∀ (W : World) (o o' : Loop), W.heap[l]? = some (.loop o) → Keep (lb w.heap.size W) W (turned W l (.loop o')) ∧ (turned W l (.loop o')).heap[l]? = some (.loop o') ∧ (turned W l (.loop o')).heap[D]? = W.heap[D]? := by
    intro W o o' h
    have hlt : l < W.heap.size := (Array.getElem?_eq_some_iff.1 h).1
    refine ⟨(turned_keep (by intro c t f h; cases h)).mono (fun i _ hi => ?_), by simp [turned, hlt], by simp only [turned]; exact Array.getElem?_setIfInBounds_ne (by omega)⟩
    rw [show i = l from hi]
    exact ⟨by omega, fun c t f hh => by rw [h] at hh; cases hh⟩
  refine ⟨l, [mark D], W1, { target := .fn (.func gf) caps, args := #[.func (.yield l) #[] #[]] }, W1, gf, #[.func (.yield l) #[] #[]] ++ caps, W1, ?_, ?_, ?_, ?_, fun h => by simp [FR, Fence.wide] at h, ?_⟩
  · rw [hl, hD, ← hW1, ← hW0, hrec]
    exact run_enterLoop_outer _ _ _ _ _
  · have := ha.eval hr
    simp only [resolve, this, hg]
    simp [go_sem]
  · intro f' _; trivial
  · have := callFunc_run hb (#[.func (.yield l) #[] #[]] ++ caps) W1
    simp only [invoke]
    exact this
  refine calls_to_FR (Calls.mono (hit l (fun N1 k W => J N1 k W ∧ W.heap[l]? = some (.loop (rec .ready none)) ∧ W.heap[D]? = some (.deferred (some [])))
    (fun N1 k W => ∃ c, Jx N1 c k W ∧ W.heap[l]? = some (.loop (rec .done (some c))) ∧ W.heap[D]? = some (.deferred (some []))) W1 (hPq w W1 hPre (k0.tr k1).ofNone) ?_ ?_ ?_ (fun N1 k W h => hOk N1 k W h.1) (fun N1 h => ⟨hJ1 N1 h, hL1, hD1⟩)) ?_)
  · rintro N1 k W W' ⟨h1, h2, h3⟩ hk
    have e1 : l < W.heap.size := (Array.getElem?_eq_some_iff.1 h2).1
    have e2 : D < W.heap.size := (Array.getElem?_eq_some_iff.1 h3).1
    exact ⟨(hJ N1 k).mono (by omega) W W' h1 hk, (hk.block l e1 (fun h => by have := h.1; omega)).trans h2, (hk.block D e2 (fun h => by have := h.1; omega)).trans h3⟩
  · rintro N1 k W W' ⟨c, h1, h2, h3⟩ hk
    have e1 : l < W.heap.size := (Array.getElem?_eq_some_iff.1 h2).1
    have e2 : D < W.heap.size := (Array.getElem?_eq_some_iff.1 h3).1
    exact ⟨c, (hJx N1 c k).mono (by omega) W W' h1 hk, (hk.block l e1 (fun h => by have := h.1; omega)).trans h2, (hk.block D e2 (fun h => by have := h.1; omega)).trans h3⟩
  · -- one round
    rintro N1 k W hN1 hN2 hkm ⟨hj, hlW, hDW⟩
    have hy := run_yield (P := P) (args := enc k) hlW (by rw [hrec]; exact hps k)
    rw [hrec] at hy
    refine ⟨fn, _, assign, body, hy, roundIn_of_wpIn hfn ?_⟩
    have hV := round l D N1 k W hD hl (by omega) hN2 hkm hj ⟨_, hlW⟩ hDW
    have hHas : Has n [] e { tmps := a.tmps, defers := [] } := ⟨ha.size, rfl, ha.at_⟩
    have hact := putPs_has ps.toList (enc k).toList e a.tmps hHas
    have hfold : ((ps.zip (enc k)).foldl (fun t (x : Tmp × Value) => t.setIfInBounds x.1 x.2) a.tmps) = ((ps.toList.zip (enc k).toList).foldl (fun t (x : Tmp × Value) => t.setIfInBounds x.1 x.2) a.tmps) := by
      rw [← Array.foldl_toList, Array.toList_zip]
    have hW := hV _ hact
    show Al.W P (some l) assign _ { tmps := ((ps.zip (enc k)).foldl (fun t (x : Tmp × Value) => t.setIfInBounds x.1 x.2) a.tmps), defers := [] } W
    rw [hfold]
    refine W_mono hW ?_
    intro x a1 W2 hx
    cases x <;> try exact hx.elim
    obtain ⟨hk2, hbody⟩ := hx
    obtain ⟨hl2, hD2⟩ := hk2.fen_same hlW hDW hD hl (by omega)
    have hlW2 : W2.heap[l]? = some (.loop (rec .ready none)) := hl2.trans hlW
    obtain ⟨p1, p2, p3⟩ := hput W2 _ { rec .ready none with state := .busy } hlW2
    refine ⟨_, run_beginRound hlW2 (by rw [hrec]), ?_⟩
    obtain ⟨W2', hW2'⟩ : ∃ W', turned W2 l (.loop { rec .ready none with state := .busy }) = W' := ⟨_, rfl⟩
    show Al.W P (some l) body _ a1 (turned W2 l (.loop { rec .ready none with state := .busy }))
    rw [hW2'] at p1 p2 p3 ⊢
    have hkT : Keep (only l) W2 W2' := by rw [← hW2']; exact turned_keep (by intro c t f h; cases h)
    have hk3 : Keep (fen W1.heap.size N1) W W2' := (hk2.mono fun i _ h => by rcases h with h | h; exact .inl (by omega); exact .inr h).tr (hkT.mono fun i _ h => .inl (by have h : i = l := h; omega))
    refine W_mono (hbody _ p1 ⟨_, p2⟩ p3) ?_
    intro x a3 W3 hx
    have hDW3 : Keep (fen w.heap.size N1) W2' W3 → W3.heap[l]? = some (.loop { rec .ready none with state := .busy }) ∧ W3.heap[D]? = some (.deferred (some [])) :=
      fun h => by
        have hs := h.fen_same p2 (p3.trans (hD2.trans hDW)) hD hl (by omega)
        exact ⟨hs.1.trans p2, hs.2.trans (p3.trans (hD2.trans hDW))⟩
    cases x with
    | normal =>
      obtain ⟨hs, hj3⟩ := hx
      obtain ⟨q1, q2⟩ := hDW3 hs
      have hk4 := fun (o : Loop) => (hk3.tr (hs.mono fun i _ h => by rcases h with h | h; exact .inl (by omega); exact .inr h)).tr ((turned_keep (w := W3) (b := l) (o := .loop o) (by intro c t f h; cases h)).mono fun i _ h => Or.inl (by have h : i = l := h; omega))
      obtain ⟨t1, t2, t3⟩ := hput W3 _ (rec .ready none) q1
      have hend := run_endRound (P := P) none q1
      rw [hrec] at hend t1 t2 t3
      exact ⟨_, _, hend, hk4 _, .inl ⟨rfl, hJ _ _ _ _ hj3 t1, by rw [hrec]; exact t2, t3.trans q2⟩⟩
    | ret =>
      obtain ⟨hs, hj3⟩ := hx
      obtain ⟨q1, q2⟩ := hDW3 hs
      have hk4 := fun (o : Loop) => (hk3.tr (hs.mono fun i _ h => by rcases h with h | h; exact .inl (by omega); exact .inr h)).tr ((turned_keep (w := W3) (b := l) (o := .loop o) (by intro c t f h; cases h)).mono fun i _ h => Or.inl (by have h : i = l := h; omega))
      obtain ⟨t1, t2, t3⟩ := hput W3 _ (rec .done (some .ret)) q1
      have hend := run_endRound (P := P) (some .ret) q1
      rw [hrec] at hend t1 t2 t3
      exact ⟨_, _, hend, hk4 _, .inr ⟨rfl, .ret, hJx _ _ _ _ _ hj3 t1, by rw [hrec]; exact t2, t3.trans q2⟩⟩
    | exit id =>
      obtain ⟨hs, hj3⟩ := hx
      obtain ⟨q1, q2⟩ := hDW3 hs
      have hk4 := fun (o : Loop) => (hk3.tr (hs.mono fun i _ h => by rcases h with h | h; exact .inl (by omega); exact .inr h)).tr ((turned_keep (w := W3) (b := l) (o := .loop o) (by intro c t f h; cases h)).mono fun i _ h => Or.inl (by have h : i = l := h; omega))
      obtain ⟨t1, t2, t3⟩ := hput W3 _ (rec .done (some (.exit id))) q1
      have hend := run_endRound (P := P) (some (.exit id)) q1
      rw [hrec] at hend t1 t2 t3
      exact ⟨_, _, hend, hk4 _, .inr ⟨rfl, .exit id, hJx _ _ _ _ _ hj3 t1, by rw [hrec]; exact t2, t3.trans q2⟩⟩
    | goto t => exact hx.elim
    | panic c => exact hx.elim
    | outgrown => exact hx.elim
  · -- behind the iterator
    rintro e' W2 ⟨⟨v, rfl⟩, N1, hN1, (⟨hj, hlW, hDW⟩ | ⟨k, hkm, c, hj, hlW, hDW⟩)⟩
    · obtain ⟨t1, t2, t3⟩ := hput W2 _ (rec .exhausted none) hlW
      have hend := run_endLoop (P := P) hlW (by rw [hrec]; simp)
      rw [hrec] at hend t1 t2 t3
      exact ⟨none, _, hend, done D N1 _ hD (by omega) (hJ _ _ _ _ hj t1) (t3.trans hDW) _ ⟨ha.size, by simp [ha.defers], ha.at_⟩⟩
    · obtain ⟨t1, t2, t3⟩ := hput W2 _ (rec .exhausted (some c)) hlW
      have hend := run_endLoop (P := P) hlW (by rw [hrec]; simp)
      rw [hrec] at hend t1 t2 t3
      exact ⟨some c, _, hend, stop D N1 k c _ hD (by omega) hkm (hJx _ _ _ _ _ hj t1) (t3.trans hDW) _ ⟨ha.size, by simp [ha.defers], ha.at_⟩⟩
end
/-! ### A yield in a region whose order is drawn -/
section
variable {P : Program} {r : Option Nat} {n : Nat} {ds : List Deferred} {ops : Array Oper} {Q : Post} {act : Nat → Bool} {S : Nat → Prop} {w1 : World} {i : Nat} {l : List Nat} {e : Env} {w : World}
theorem GI_yield {R : Ending → World → Prop} (c : Call) (y : Nat) (args : Array Value) (d : Option Tmp) (h : site ops e i = some (d, .call c)) (hact : act i = true) (hc : yielder e c = some (y, args)) (hR : Yields P y args w R)
    (k : ∀ e' w', R e' w' → ∃ v, e' = .returned v ∧ Keep S w1 w' ∧ GI P r n ds ops Q act S w1 l (putE n d v e) w') : GI P r n ds ops Q act S w1 (i :: l) e w :=
  GI_do d _ h hact fun o ho hd a ha he => by
    obtain ⟨f, tmps, assign, body, hy, hrd⟩ := hR
    refine does_round (by rw [he]; exact yield_run hc hy o ho) (RoundIn.mono hrd fun e' w' hr => ?_)
    obtain ⟨v, hv, hK, hk⟩ := k e' w' hr
    exact ⟨v, hv, hK, by rw [hd]; exact hk _ (ha.put d v)⟩
theorem GI_yield0 {R : Ending → World → Prop} (c : Call) (y : Nat) (args : Array Value) (d : Option Tmp) (h : site ops e i = some (d, .call c)) (hact : act i = true) (hn : need ops act i = false) (hc : yielder e c = some (y, args)) (hR : Yields P y args w R)
    (k : ∀ e' w', R e' w' → ∃ v, e' = .returned v ∧ GI P r n ds ops Q act S w1 l (putE n d v e) w') : GI P r n ds ops Q act S w1 (i :: l) e w :=
  GI_do0 d _ h hact hn fun o ho hd a ha he => by
    obtain ⟨f, tmps, assign, body, hy, hrd⟩ := hR
    refine does_round (by rw [he]; exact yield_run hc hy o ho) (RoundIn.mono hrd fun e' w' hr => ?_)
    obtain ⟨v, hv, hk⟩ := k e' w' hr
    exact ⟨v, hv, by rw [hd]; exact hk _ (ha.put d v)⟩
end

/-! ### What a function with such loops hands back -/
section
variable {P : Program} {fn : Func} {R : Ending → World → Prop} {n : Nat} {e : Env} {w : World}
theorem res_cells3 {t T u U s V n1 n2 n3 : Nat} {b1 b2 b3 : Nat} {v1 v2 v3 : Value} {T1 T2 T3 : TypeId} (hl : fn.results.toList = [.cell t T, .cell u U, .cell s V]) (h1 : look e t = some (.pointer (some ⟨b1, 0, none⟩))) (h2 : look e u = some (.pointer (some ⟨b2, 0, none⟩))) (h3 : look e s = some (.pointer (some ⟨b3, 0, none⟩)))
    (k1 : tk P T = some (false, n1)) (k2 : tk P U = some (false, n2)) (k3 : tk P V = some (false, n3)) (hb1 : Blk w b1 [v1] T1) (hb2 : Blk w b2 [v2] T2) (hb3 : Blk w b3 [v3] T3) : Res P fn n e w (.tuple #[v1, v2, v3]) := fun tmps hs ht => by
  have hr := results_of_list hl
  have g1 := ht _ _ h1
  have g2 := ht _ _ h2
  have g3 := ht _ _ h3
  have l1 := loads_cell (P := P) (o := 0) hb1 k1 rfl
  have l2 := loads_cell (P := P) (o := 0) hb2 k2 rfl
  have l3 := loads_cell (P := P) (o := 0) hb3 k3 rfl
  unfold Loads Instr.loadAt Instr.sureAddr at l1 l2 l3
  unfold results
  simp [hr, Array.mapM_eq_foldlM, Sem.run_bind, g1, g2, g3, asAddr, Result.andThen] at l1 l2 l3 ⊢
  simp [l1, l2, l3]
end
section
variable {P : Program} {fn : Func} {R : Ending → World → Prop} {n : Nat} {e : Env} {w : World}
theorem lb_turn {D N : Nat} (hD : w.heap[D]? = some (.deferred (some []))) (hN : N ≤ D) : Keep (lb N w) w (turned w D (.deferred none)) :=
  (turned_keep (by intro c t f h; cases h)).mono (fun i _ hi => by
    rw [show i = D from hi]
    exact ⟨hN, fun c t f hh => by rw [hD] at hh; cases hh⟩)
theorem lb_tr {N : Nat} {a b c : World} (h : Keep (lb N a) a b) (k : Keep (lb N b) b c) : Keep (lb N a) a c :=
  h.trans k (fun _ _ h => h) (fun i hi hs => ⟨hs.1, fun c t f hc => by
    have hn : ¬ lb N a i := fun hl => hl.2 _ _ _ hc
    exact hs.2 _ _ _ ((h.block i hi hn).trans hc)⟩)
/-- A function with two loops, one behind the other, is left. -/
theorem leave2 {x : Exit} {D D2 : Nat} (v : Value) (hx : x = .ret ∨ x = .normal) (hlt : D < D2) (hD : w.heap[D]? = some (.deferred (some []))) (hD2 : w.heap[D2]? = some (.deferred (some []))) (h : ∀ w', Keep (lb D w) w w' → Res P fn n e w' v ∧ R (.returned v) w') : XV n [mark D2, mark D] x (postM P fn R) e w := fun a ha => by
  have k2 := lb_turn (N := D) hD2 (by omega)
  have hD' : (turned w D2 (.deferred none)).heap[D]? = some (.deferred (some [])) := by
    simp only [turned]
    rw [Array.getElem?_setIfInBounds_ne (by omega)]; exact hD
  have k1 := lb_turn (N := D) hD' (Nat.le_refl _)
  obtain ⟨h1, hR⟩ := h _ (lb_tr k2 k1)
  have h2 := h1 a.tmps ha.size ha.at_
  have key : LeavesInM (FR none) 0 P fn a.tmps R a.defers .returning w := by
    rw [ha.defers]
    refine ⟨by simp, .inl ⟨D2, _, rfl, run_takeDeferred hD2, ?_⟩⟩
    exact ⟨by simp, .inl ⟨D, _, rfl, run_takeDeferred hD', v, h2, hR⟩⟩
  rcases hx with rfl | rfl
  · exact key
  · exact key
end
section
variable {P : Program} {fn : Func} {R : Ending → World → Prop} {n : Nat} {e : Env} {w : World}
theorem res_agg_tmp {t T u m : Nat} {b : Nat} {L : List Value} {v2 : Value} {T1 : TypeId} (hl : fn.results.toList = [.cell t T, .tmp u]) (h1 : look e t = some (.pointer (some ⟨b, 0, none⟩))) (h2 : look e u = some v2)
    (k1 : tk P T = some (true, m)) (hb : Blk w b L T1) (hm : L.length = m) : Res P fn n e w (.tuple #[.agg L.toArray, v2]) := fun tmps hs ht => by
  have hr := results_of_list hl
  have g1 := ht _ _ h1
  have g2 := ht _ _ h2
  have l1 := loads_agg' (P := P) (o := 0) (cs := L) hb k1 (by rw [List.drop_zero]; exact List.take_of_length_le (by omega)) hm
  unfold Loads Instr.loadAt Instr.sureAddr at l1
  unfold results
  simp [hr, Array.mapM_eq_foldlM, g1, g2, asAddr, Result.andThen] at l1 ⊢
  simp [l1]
end
theorem SlT.arg {α : Type} {w : World} {sz cap : Nat} {f : α → List Value} {A : Option Addr} {xs : List α} (h : SlT w sz f A cap xs) : ArgT w sz f A cap xs := by
  by_cases hx : xs = []
  · exact .inl hx
  · obtain ⟨b, o, L, T, rfl, hat⟩ := h.open_ (List.length_pos_iff.2 hx)
    exact .inr ⟨b, o, L, rfl, ⟨hat.blk.r, fun i e he => hat.elem' he, hat.sizes⟩⟩
/-! ### Places in an array; stores behind which nothing is looked at -/
def arrK (P : Program) (t : TypeId) : Option (Nat × TypeId × Nat) :=
  match P.underlying t with
  | some (.array n E) => (P.info? E).map fun inf => (n, E, inf.size)
  | _ => none
theorem arrK_spec {P : Program} {t E : TypeId} {n sz : Nat} (h : arrK P t = some (n, E, sz)) : P.underlying t = some (.array n E) ∧ ∃ inf, P.info? E = some inf ∧ inf.size = sz := by
  unfold arrK at h
  split at h
  · rename_i n' E' hu
    cases hi : P.info? E' with
    | none => simp [hi] at h
    | some inf =>
      simp only [hi, Option.map_some, Option.some.injEq, Prod.mk.injEq] at h
      obtain ⟨rfl, rfl, h3⟩ := h
      exact ⟨hu, inf, hi, h3⟩
  · cases h
section
variable {P : Program} {r : Option Nat} {n : Nat} {ds : List Deferred} {ops : Array Oper} {Q : Post} {act : Nat → Bool} {S : Nat → Prop} {w1 : World} {i : Nat} {l : List Nat} {e : Env} {w w' : World}
theorem pure_idxArr {t E : TypeId} {x y : Operand} {b o m sz : Nat} {kd : IntKind} {j : Nat} (hx : ev e x = .pointer (some ⟨b, o, none⟩)) (hy : ev e y = .int kd (j : Int)) (hs : arrK P t = some (m, E, sz)) (h1 : j < m) : PureOp P e (.indexAddr t x y) (.pointer (some ⟨b, o + j * sz, none⟩)) := fun op ho w => by
  obtain ⟨hu, inf, hi, hsz⟩ := arrK_spec hs
  have h0 : (0 : Int) ≤ (j : Int) ∧ (j : Int) < (m : Int) := by omega
  unfold execOp
  simp only [ho, hx, hy]
  unfold Instr.indexAt Instr.sureAddr
  simp only [Sem.run_bind, asIntOf, Sem.run_pure, Result.andThen, run_und hu, run_size hi, h0, and_self, if_true, add_plain, hsz, Int.toNat_natCast]
theorem GI_set0 {T : TypeId} {b m : Nat} {kd : Bool} {L : List Value} (t : TypeId) (x y : Operand) (o : Nat) (v : Value) (cs : List Value) (d : Option Tmp) (h : site ops e i = some (d, .store t x y)) (hact : act i = true) (hnd : need ops act i = false) (hx : ev e x = .pointer (some ⟨b, o, none⟩)) (hy : ev e y = v)
    (hb : Blk w b L T) (ht : tk P t = some (kd, m)) (hv : v.cells = cs.toArray) (hn : cs.length = m) (hl : o + m ≤ L.length) (h1 : ∀ u ∈ cs, u.oneCell' = true)
    (k : ∀ w', Blk w' b (over L o cs) T → Keep (only b) w w' → w'.heap.size = w.heap.size → GI P r n ds ops Q act S w1 l (putE n d undef e) w') : GI P r n ds ops Q act S w1 (i :: l) e w := by
  have hs := stores (P := P) hb ht hv hn hl h1
  have hk : Keep (only b) w (turned w b (.cells (over L o cs).toArray T)) := turned_keep (by intro c t f hc; cases hc; rfl)
  exact GI_do0 d _ h hact hnd fun o' ho hd a ha he => does_skip (by
    rw [he]
    unfold Stores at hs
    unfold execOp
    simp only [ho, hx, hy, Sem.run_bind, hs, Result.andThen, Sem.run_pure]
    rfl) (by rw [hd]; exact k _ (turned_blk _ _ hb.lt) hk (turned_size _ _ _) _ (ha.put d undef))
end
theorem app_many {α : Type} {w w' : World} {sz cap k : Nat} {A : Option Addr} {f : α → List Value} {xs ys : List α} {v : Value} (h : Appended w sz (.slice A xs.length cap) xs.length (xs.flatMap f) (ys.flatMap f) k v w') (hk : ys.length = k) (hf : ∀ x, (f x).length = sz) :
    ∃ A' cap', v = .slice A' (xs ++ ys).length cap' ∧ SlT w' sz f A' cap' (xs ++ ys) ∧ Keep (inA A) w w' ∧ (∀ k, inA A' k → inA A k ∨ w.heap.size ≤ k) := by
  obtain ⟨A', cap', hv, h1, h2⟩ := SlT.of (f := f) (xs := xs ++ ys) h.holds (by simp [hk]) (by simp) (fun y _ => hf y)
  refine ⟨A', cap', by rw [hv]; simp [hk], h1, h.keep.mono (fun k _ hk => blkOf_inA hk), fun k hk => (h.own k (h2 k hk)).imp blkOf_inA id⟩
end Go.Al
