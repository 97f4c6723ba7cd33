/-
  A region that draws its order: one walk in the order of the text serves every order, where each operation but the 'acting' ones answers the same in every world that the acting ones may leave, and the acting ones stand in one order.
-/
import Derived.Test.YtijhhcnahepdlaaOps
namespace Go.Al
open Go Go.RowKit

section
variable {P : Program} {r : Option Nat} {ops : Array Oper} {Q : Post} {act : Nat → Bool} {G : World → Prop}

/-- No way out of a region but its end. -/
structure Sure (Q : Post) : Prop where
  panic : ∀ c a w, ¬ Q (.panic c) a w
  outgrown : ∀ a w, ¬ Q .outgrown a w

/-- But for one temporary the activations are one. -/
def Away (d : Option Tmp) (a a' : Act) : Prop := ∀ t, d ≠ some t → a'.tmps[t]? = a.tmps[t]?
theorem Away.put (d : Option Tmp) (v : Value) (a : Act) : Away d a (a.put d v) := by
  intro t ht
  cases d with
  | none => rfl
  | some d => exact Array.getElem?_setIfInBounds_ne (fun e => ht (by rw [e]))
theorem Away.eval {d : Option Tmp} {a a' : Act} (h : Away d a a') {x : Operand} (hx : ∀ t, x = .tmp t → d ≠ some t) : a'.eval x = a.eval x := by
  cases x with
  | tmp t => simp [Act.eval, h t (hx t rfl)]
  | _ => rfl
theorem away_exec {d : Option Tmp} {a a' : Act} (h : Away d a a') {o : Oper} (hs : isSelect o.op = false) (hl : ∀ t, d = some t → t ∉ o.looksAt ops) : execOp a'.eval o = execOp a.eval o :=
  execOp_congr o (fun cs b hc => by rw [hc] at hs; cases hs) (fun x hx => h.eval (fun t ht hd => hl t hd (by
    subst ht
    exact List.mem_append_left _ (List.mem_filterMap.2 ⟨.tmp t, by simpa using hx, rfl⟩))))
theorem away_wanted {d : Option Tmp} {a a' : Act} (h : Away d a a') {o : Oper} (hl : ∀ t, d = some t → t ∉ o.looksAt ops) : Region.wanted o (yielded ops a'.tmps) = Region.wanted o (yielded ops a.tmps) := by
  unfold Region.wanted
  cases hg : o.guard with
  | none => rfl
  | some g =>
    obtain ⟨j, want⟩ := g
    simp only
    congr 1
    unfold yielded
    cases hd : (ops[j]?).bind (·.dst) with
    | none => rfl
    | some t =>
      simp only [Option.bind_some]
      rw [h t (fun e => hl t e (by
        refine List.mem_append_right _ ?_
        simp [hg, hd]))]

theorem Does_mono {o : Oper} {a : Act} {w : World} {K K' : Act → World → Prop} (h : ∀ a' w', Away o.dst a a' → K a' w' → K' a' w') (hh : Does P r o a w K Q) : Does P r o a w K' Q := by
  unfold Does Upon at *
  generalize (execOp a.eval o).run P w = x at *
  cases x with
  | ok n w' =>
    cases n <;> simp only [Oper.uponIn] at hh ⊢
    case value v => exact h _ _ (Away.put _ _ _) hh
    case skip => exact h _ _ (Away.put _ _ _) hh
    case defer d => exact h _ _ (fun t ht => Away.put o.dst undef { a with defers := d :: a.defers } t ht) hh
    case enter f args => exact ⟨hh.1, CallsIn.mono hh.2 (fun e w'' he => by cases e <;> first | exact h _ _ (Away.put _ _ _) he | exact he)⟩
    case row f args => exact ⟨hh.1, RowsIn.mono hh.2 (fun _ _ he => h _ _ (Away.put _ _ _) he)⟩
    case round => exact ⟨hh.1, RoundIn.mono hh.2 (fun e w'' he => by cases e <;> first | exact h _ _ (Away.put _ _ _) he | exact he)⟩
  | halt x w' => cases x <;> simp only [Oper.uponIn] at hh ⊢ <;> exact hh

/-- It comes to something. -/
theorem Does_some {o : Oper} {a : Act} {w : World} {K : Act → World → Prop} (hQ : Sure Q) (hh : Does P r o a w K Q) : ∃ a' w', Away o.dst a a' ∧ K a' w' := by
  unfold Does Upon at hh
  generalize (execOp a.eval o).run P w = x at *
  cases x with
  | ok n w' =>
    cases n <;> simp only [Oper.uponIn] at hh
    case value v => exact ⟨_, _, Away.put _ _ _, hh⟩
    case skip => exact ⟨_, _, Away.put _ _ _, hh⟩
    case defer d => exact ⟨_, _, fun t ht => Away.put o.dst undef { a with defers := d :: a.defers } t ht, hh⟩
    case enter f args =>
      obtain ⟨e, w'', fr, hR, _⟩ := hh.2.2 [] (room_FR _ _)
      cases e with
      | returned v => exact ⟨_, _, Away.put _ _ _, hR⟩
      | panicked c => exact absurd hR (hQ.panic _ _ _)
      | outgrown => obtain ⟨a0, w0, h0⟩ := hR; exact absurd h0 (hQ.outgrown _ _)
    case row f args =>
      obtain ⟨v, w'', hR, _⟩ := hh.2 default [] (room_FR _ _)
      exact ⟨_, _, Away.put _ _ _, hR⟩
    case round =>
      obtain ⟨e, w'', hR, _⟩ := hh.2.2 default [] (room_FR _ _)
      cases e with
      | returned v => exact ⟨_, _, Away.put _ _ _, hR⟩
      | panicked c => exact absurd hR (hQ.panic _ _ _)
      | outgrown => obtain ⟨a0, w0, h0⟩ := hR; exact absurd h0 (hQ.outgrown _ _)
  | halt x w' => cases x <;> simp only [Oper.uponIn] at hh <;> exact absurd hh (hQ.panic _ _ _)

/-- A temporary that it does not look at, and where it does not put anything, may be filled before or behind. -/
theorem Does_put {o : Oper} {a : Act} {w : World} {K : Act → World → Prop} {d : Option Tmp} {v : Value} (hQ : Sure Q) (hs : isSelect o.op = false) (hl : ∀ t, d = some t → t ∉ o.looksAt ops) (hne : ∀ t, d = some t → o.dst ≠ some t) :
    Does P r o (a.put d v) w K Q ↔ Does P r o a w (fun a' w' => K (a'.put d v) w') Q := by
  unfold Does Upon
  rw [away_exec (Away.put d v a) hs hl]
  have comm : ∀ u, (a.put d v).put o.dst u = (a.put o.dst u).put d v := fun u => Act.put_comm a v u hne
  generalize (execOp a.eval o).run P w = x
  cases x with
  | ok n w' =>
    cases n <;> simp only [Oper.uponIn, comm]
    case defer dd =>
      rw [Act.put_defers a d v dd, Act.put_comm _ v undef hne]
    case enter f args =>
      constructor
      · rintro ⟨h1, h2⟩
        exact ⟨h1, h2.mono fun e w'' he => by cases e <;> first | exact he | exact absurd he (hQ.panic _ _ _)⟩
      · rintro ⟨h1, h2⟩
        exact ⟨h1, h2.mono fun e w'' he => by cases e <;> first | exact he | exact absurd he (hQ.panic _ _ _)⟩
    case round =>
      constructor
      · rintro ⟨h1, h2⟩
        exact ⟨h1, h2.mono fun e w'' he => by cases e <;> first | exact he | exact absurd he (hQ.panic _ _ _)⟩
      · rintro ⟨h1, h2⟩
        exact ⟨h1, h2.mono fun e w'' he => by cases e <;> first | exact he | exact absurd he (hQ.panic _ _ _)⟩
  | halt x w' =>
    cases x <;> simp only [Oper.uponIn]
    case panic => exact ⟨fun h => absurd h (hQ.panic _ _ _), fun h => absurd h (hQ.panic _ _ _)⟩

/-- Does it look at no cell? -/
def noLoad (o : Oper) : Bool := match o.op with | .load _ _ => false | _ => true
/-- What an operation that does not act leaves, whatever those that act have done. -/
def Yq (P : Program) (ops : Array Oper) (G : World → Prop) (o : Oper) (v : Value) (a : Act) : Prop :=
  (Region.wanted o (yielded ops a.tmps) = true ∧ ∀ w, (G w ∨ noLoad o = true) → (execOp a.eval o).run P w = .ok (.value v) w) ∨ (Region.wanted o (yielded ops a.tmps) = false ∧ v = undef)
theorem Yq.away {o : Oper} {v : Value} {d : Option Tmp} {a a' : Act} (h : Away d a a') (hs : isSelect o.op = false) (hl : ∀ t, d = some t → t ∉ o.looksAt ops) : Yq P ops G o v a' ↔ Yq P ops G o v a := by
  unfold Yq
  rw [away_exec h hs hl, away_wanted h hl]
theorem Yq.one {o : Oper} {u v : Value} {a : Act} {w : World} (hw : G w ∨ noLoad o = true) (h : Yq P ops G o u a) (k : Yq P ops G o v a) : u = v := by
  rcases h with ⟨h1, h2⟩ | ⟨h1, h2⟩ <;> rcases k with ⟨k1, k2⟩ | ⟨k1, k2⟩
  · have := (h2 w hw).symm.trans (k2 w hw)
    simpa using this
  · rw [h1] at k1; cases k1
  · rw [h1] at k1; cases k1
  · rw [h2, k2]

/-- Behind an acting operation: is there one that does not act and that may stand behind it? -/
def need (ops : Array Oper) (act : Nat → Bool) (i : Nat) : Bool := (List.range ops.size).any fun j => !act j && !((Region.before ops).getD i 0).testBit j && (match ops[j]? with | some o => !noLoad o | none => false)
/-- The walk in the order of a list. -/
def wpG (P : Program) (r : Option Nat) (ops : Array Oper) (Q : Post) (act : Nat → Bool) (G : World → Prop) : List Nat → Act → World → Prop
  | [], a, w => Q .normal a w
  | i :: l, a, w =>
    match ops[i]? with
    | none => False
    | some o =>
      if (act i && Region.wanted o (yielded ops a.tmps)) = true then Does P r o a w (fun a' w' => (need ops act i = true → G w') ∧ wpG P r ops Q act G l a' w') Q
      else ∃ v, Yq P ops G o v a ∧ wpG P r ops Q act G l (a.put o.dst v) w

theorem wpG_mono {i : Nat} {l l' : List Nat} (h : ∀ a w, wpG P r ops Q act G l a w → wpG P r ops Q act G l' a w) {a : Act} {w : World} (hh : wpG P r ops Q act G (i :: l) a w) : wpG P r ops Q act G (i :: l') a w := by
  simp only [wpG] at *
  cases ho : ops[i]? with
  | none => simp only [ho] at hh
  | some o =>
    simp only [ho] at hh ⊢
    split at hh
    · rename_i hc
      rw [if_pos hc]
      exact Does_mono (fun a' w' _ k => ⟨k.1, h _ _ k.2⟩) hh
    · rename_i hc
      rw [if_neg hc]
      obtain ⟨v, h1, h2⟩ := hh
      exact ⟨v, h1, h _ _ h2⟩

/-- Two operations that stand apart, not both acting, in the other order. -/
theorem wpG_swap {x i : Nat} {ox oi : Oper} {l : List Nat} {a : Act} {w : World} (hQ : Sure Q) (hox : ops[x]? = some ox) (hoi : ops[i]? = some oi) (hsx : isSelect ox.op = false) (hsi : isSelect oi.op = false) (hap : ox.apart ops oi = true)
    (hact : (act x && act i) = false) (hnd : act x = true → act i = false → need ops act x = true ∨ noLoad oi = true) (h : wpG P r ops Q act G (x :: i :: l) a w) : wpG P r ops Q act G (i :: x :: l) a w := by
  obtain ⟨a1, a2, a3⟩ := Oper.apart_spec hap
  have a2' : ∀ t, oi.dst = some t → ox.dst ≠ some t := fun t ht he => a2 t he ht
  simp only [wpG, hox, hoi] at h ⊢
  by_cases bx : (act x && Region.wanted ox (yielded ops a.tmps)) = true
  · rw [if_pos bx] at h
    have hai : act i = false := by
      simp only [Bool.and_eq_true] at bx
      simpa [bx.1] using hact
    have bi : ∀ a' : Act, (act i && Region.wanted oi (yielded ops a'.tmps)) = true ↔ False := by simp [hai]
    simp only [bi, if_false] at h ⊢
    obtain ⟨a', w', haw, hG', v0, hy0, _⟩ := Does_some hQ h
    refine ⟨v0, (Yq.away haw hsi a1).1 hy0, ?_⟩
    have hw : Region.wanted ox (yielded ops (a.put oi.dst v0).tmps) = Region.wanted ox (yielded ops a.tmps) := away_wanted (Away.put _ _ _) a3
    rw [hw, if_pos bx]
    rw [Does_put hQ hsx a3 a2']
    refine Does_mono ?_ h
    rintro a'' w'' haw2 ⟨hG2, v, hy, hk⟩
    have e : v = v0 := Yq.one ((hnd (by simp only [Bool.and_eq_true] at bx; exact bx.1) hai).imp hG2 id) ((Yq.away haw2 hsi a1).1 hy) ((Yq.away haw hsi a1).1 hy0)
    subst e
    exact ⟨hG2, hk⟩
  · rw [if_neg bx] at h
    obtain ⟨vx, hyx, h⟩ := h
    have hwi : Region.wanted oi (yielded ops (a.put ox.dst vx).tmps) = Region.wanted oi (yielded ops a.tmps) := away_wanted (Away.put _ _ _) a1
    rw [hwi] at h
    by_cases bi : (act i && Region.wanted oi (yielded ops a.tmps)) = true
    · rw [if_pos bi] at h ⊢
      rw [Does_put hQ hsi a1 (fun t ht => a2 t ht)] at h
      refine Does_mono ?_ h
      rintro a' w' haw ⟨hG', hk⟩
      refine ⟨hG', ?_⟩
      have hwx : Region.wanted ox (yielded ops a'.tmps) = Region.wanted ox (yielded ops a.tmps) := away_wanted haw a3
      rw [hwx, if_neg bx]
      exact ⟨vx, (Yq.away haw hsx a3).2 hyx, hk⟩
    · rw [if_neg bi] at h ⊢
      obtain ⟨vi, hyi, h⟩ := h
      refine ⟨vi, (Yq.away (Away.put _ _ _) hsi a1).1 hyi, ?_⟩
      have hwx : Region.wanted ox (yielded ops (a.put oi.dst vi).tmps) = Region.wanted ox (yielded ops a.tmps) := away_wanted (Away.put _ _ _) a3
      rw [hwx, if_neg bx]
      refine ⟨vx, (Yq.away (Away.put _ _ _) hsx a3).2 hyx, ?_⟩
      rw [Act.put_comm a vi vx a2']
      exact h

theorem wpG_pull {i : Nat} {oi : Oper} (hQ : Sure Q) (hoi : ops[i]? = some oi) (hsi : isSelect oi.op = false) : ∀ (l1 l2 : List Nat), (∀ x, x ∈ l1 → ∃ ox, ops[x]? = some ox ∧ isSelect ox.op = false ∧ ox.apart ops oi = true ∧ (act x && act i) = false ∧ (act x = true → act i = false → need ops act x = true ∨ noLoad oi = true)) →
    ∀ a w, wpG P r ops Q act G (l1 ++ i :: l2) a w → wpG P r ops Q act G (i :: (l1 ++ l2)) a w
  | [], _, _, _, _, h => h
  | x :: l1, l2, hx, a, w, h => by
    obtain ⟨ox, hox, hsx, hap, hact, hnd⟩ := hx x (List.mem_cons_self ..)
    refine wpG_swap hQ hox hoi hsx hsi hap hact hnd ?_
    exact wpG_mono (fun a w => wpG_pull hQ hoi hsi l1 l2 (fun y hy => hx y (List.mem_cons_of_mem _ hy)) a w) h
end

/-! ### The orders that a draw may give -/

def ancOk (ops : Array Oper) (A : Nat → Nat) : Bool :=
  (List.range ops.size).all fun j => (List.range ops.size).all fun x => !(A j).testBit x || (match ops[j]? with | some o => o.after.toList.any fun e => Region.binds .any e && (Nat.beq e.on x || (A e.on).testBit x) | none => false)
def opsOk (ops : Array Oper) : Bool :=
  (List.range ops.size).all fun j => match ops[j]? with
    | none => false
    | some oj => !isSelect oj.op && !isDefer oj.op && oj.after.toList.all (fun e => !Region.binds .any e || Nat.blt e.on j)
def twoOk (ops : Array Oper) (A : Nat → Nat) (x i : Nat) : Bool := !(A x).testBit i && ((A i).testBit x || (match ops[x]?, ops[i]? with | some ox, some oi => ox.apart ops oi | _, _ => false))
def pairsOk (ops : Array Oper) (A : Nat → Nat) : List Nat → Bool
  | [] => true
  | x :: l => l.all (twoOk ops A x) && pairsOk ops A l
def linx (A : Nat → Nat) : Nat → List Nat → List (List Nat)
  | 0, _ => [[]]
  | f + 1, l => l.flatMap fun a => bif l.any (fun b => (A a).testBit b) then [] else (linx A f (l.filter fun b => !Nat.beq b a)).map (a :: ·)
def eachOnce : List Nat → Bool
  | [] => true
  | x :: l => !l.any (Nat.beq x) && eachOnce l
theorem eachOnce_nodup : ∀ (l : List Nat), eachOnce l = true → l.Nodup
  | [], _ => List.nodup_nil
  | x :: l, h => by
    simp only [eachOnce, Bool.and_eq_true, Bool.not_eq_true'] at h
    refine List.nodup_cons.2 ⟨fun hx => ?_, eachOnce_nodup l h.2⟩
    have := List.any_eq_false.1 h.1 x hx
    simp at this
def fullList (n : Nat) (L : List Nat) : Bool := eachOnce L && L.all (Nat.blt · n) && (List.range n).all fun i => L.any (Nat.beq i)
def sameList : List Nat → List Nat → Bool
  | [], [] => true
  | x :: l, y :: l' => Nat.beq x y && sameList l l'
  | _, _ => false
theorem sameList_eq : ∀ (l l' : List Nat), sameList l l' = true → l = l'
  | [], [], _ => rfl
  | x :: l, y :: l', h => by
    simp only [sameList, Bool.and_eq_true] at h
    rw [Nat.eq_of_beq_eq_true h.1, sameList_eq l l' h.2]
  | [], _ :: _, h => by simp [sameList] at h
  | _ :: _, [], h => by simp [sameList] at h
/-- All that is asked of a region and of the orders in which it is walked. -/
def drawOk (ops : Array Oper) (act : Nat → Bool) (Ls : List (List Nat)) : Bool :=
  let b := Region.before ops
  let A := fun j => b.getD j 0
  ancOk ops A && opsOk ops && Ls.all (fun L => fullList ops.size L && pairsOk ops A L) &&
  (linx A ((List.range ops.size).filter act).length ((List.range ops.size).filter act)).all fun p => Ls.any fun L => sameList (L.filter act) p

structure Closed_ (ops : Array Oper) (listed : Array Bool) : Prop where
  size : listed.size = ops.size
  deps : ∀ j o, ops[j]? = some o → listed.getD j true = true → ∀ e ∈ o.after, Region.binds .any e = true → listed.getD e.on true = true

theorem getD_any {listed : Array Bool} {i : Nat} (d : Bool) (hi : i < listed.size) : listed.getD i d = listed.getD i true := by
  simp [hi]

structure Good (ops : Array Oper) (A : Nat → Nat) : Prop where
  anc : ancOk ops A = true
  ops_ : ∀ j oj, ops[j]? = some oj → isSelect oj.op = false ∧ isDefer oj.op = false ∧ ∀ e ∈ oj.after, Region.binds .any e = true → e.on < j

theorem good_of {ops : Array Oper} {A : Nat → Nat} (h1 : ancOk ops A = true) (h2 : opsOk ops = true) : Good ops A := ⟨h1, by
  intro j oj hoj
  have hj : j < ops.size := (Array.getElem?_eq_some_iff.1 hoj).1
  unfold opsOk at h2
  have h := List.all_eq_true.1 h2 j (List.mem_range.2 hj)
  simp only [hoj, Bool.and_eq_true, Bool.not_eq_true'] at h
  obtain ⟨⟨h1, h2⟩, h3⟩ := h
  refine ⟨h1, h2, fun e he hb => ?_⟩
  have := List.all_eq_true.1 h3 e (by simpa using he)
  simp only [hb, Bool.not_true, Bool.false_or, Nat.blt_eq] at this
  exact this⟩

theorem anc_listed {ops : Array Oper} {A : Nat → Nat} {listed : Array Bool} (hg : Good ops A) (hc : Closed_ ops listed) :
    ∀ (j : Nat) (o : Oper), ops[j]? = some o → (∀ e ∈ o.after, Region.binds .any e = true → listed.getD e.on true = true) → ∀ x, x < ops.size → (A j).testBit x = true → listed.getD x true = true := by
  intro j
  induction j using Nat.strongRecOn with
  | _ j ih =>
    intro o ho hd x hx hb
    have hj : j < ops.size := (Array.getElem?_eq_some_iff.1 ho).1
    have hA := hg.anc
    unfold ancOk at hA
    have h1 := List.all_eq_true.1 (List.all_eq_true.1 hA j (List.mem_range.2 hj)) x (List.mem_range.2 hx)
    simp only [hb, Bool.not_true, Bool.false_or, ho] at h1
    obtain ⟨e, he, h2⟩ := List.any_eq_true.1 h1
    simp only [Bool.and_eq_true, Bool.or_eq_true] at h2
    obtain ⟨hbind, h3⟩ := h2
    have he' : e ∈ o.after := by simpa using he
    have hl := hd e he' hbind
    rcases h3 with h3 | h3
    · rw [← Nat.eq_of_beq_eq_true h3]; exact hl
    · have hlt := (hg.ops_ j o ho).2.2 e he' hbind
      have hes : e.on < ops.size := by omega
      obtain ⟨oe, hoe⟩ : ∃ oe, ops[e.on]? = some oe := ⟨ops[e.on], by simp [hes]⟩
      exact ih e.on hlt oe hoe (hc.deps e.on oe hoe hl) x hx h3

/-- An order that a draw may give, from here on. -/
def Sched (ops : Array Oper) : Nat → Array Bool → List Nat → Prop
  | 0, listed, s => s = [] ∧ Region.ready .any ops listed = []
  | f + 1, listed, s => (s = [] ∧ Region.ready .any ops listed = []) ∨ ∃ i s', s = i :: s' ∧ i ∈ Region.ready .any ops listed ∧ Sched ops f (listed.setIfInBounds i true) s'

def left (n : Nat) (listed : Array Bool) : List Nat := (List.range n).filter fun i => !listed.getD i true
theorem mem_left {n : Nat} {listed : Array Bool} {x : Nat} : x ∈ left n listed ↔ x < n ∧ listed.getD x true = false := by simp [left, List.mem_filter]
theorem ready_left {ops : Array Oper} {listed : Array Bool} {x : Nat} (hx : x ∈ Region.ready .any ops listed) : x ∈ left ops.size listed := by
  obtain ⟨h0, o, ho, _⟩ := mem_ready.1 hx
  exact mem_left.2 ⟨(Array.getElem?_eq_some_iff.1 ho).1, h0⟩
theorem left_set {ops : Array Oper} {listed : Array Bool} {i : Nat} (hc : listed.size = ops.size) (hi : i < ops.size) : left ops.size (listed.setIfInBounds i true) = (left ops.size listed).filter fun x => !Nat.beq x i := by
  unfold left
  rw [List.filter_filter]
  apply List.filter_congr
  intro x hx
  by_cases hxi : i = x
  · subst hxi
    simp [hc, hi]
  · rw [getD_set_ne true hxi, beq_ne (Ne.symm hxi)]
    simp

theorem linearise_sched {ops : Array Oper} : ∀ (fuel t : Nat) (listed : Array Bool), listed.size = ops.size → (left ops.size listed).length ≤ fuel → Sched ops fuel listed (Region.linearise.go .any ops fuel t listed []) := by
  intro fuel
  induction fuel with
  | zero =>
    intro t listed _ hl
    refine ⟨by simp [Region.linearise.go], ?_⟩
    cases hr : Region.ready .any ops listed with
    | nil => rfl
    | cons x xs =>
      have := ready_left (by rw [hr]; exact List.mem_cons_self .. : x ∈ Region.ready .any ops listed)
      rw [List.length_eq_zero_iff.1 (Nat.le_zero.1 hl)] at this
      cases this
  | succ fuel ih =>
    intro t listed hsz hl
    simp only [Region.linearise.go]
    change Sched ops (fuel + 1) listed (match (Region.ready .any ops listed)[t % (Region.ready .any ops listed).length]? with
      | some i => Region.linearise.go .any ops fuel (t / (Region.ready .any ops listed).length) (listed.setIfInBounds i true) [i]
      | none => [].reverse)
    cases hi : (Region.ready .any ops listed)[t % (Region.ready .any ops listed).length]? with
    | none =>
      left
      refine ⟨rfl, ?_⟩
      cases hr : Region.ready .any ops listed with
      | nil => rfl
      | cons x xs =>
        rw [hr] at hi
        have hlt : t % (x :: xs).length < (x :: xs).length := Nat.mod_lt _ (by simp)
        rw [List.getElem?_eq_none_iff] at hi
        omega
    | some i =>
      right
      have hir := List.mem_of_getElem? hi
      have hil := ready_left hir
      have hin := (mem_left.1 hil).1
      refine ⟨i, Region.linearise.go .any ops fuel (t / (Region.ready .any ops listed).length) (listed.setIfInBounds i true) [], ?_, hir, ih _ _ (by simp [hsz]) ?_⟩
      · simp only []
        rw [linearise_go_acc, List.reverse_singleton, List.singleton_append]
      · rw [left_set hsz hin]
        have h1 : ((left ops.size listed).filter fun x => !Nat.beq x i).length < (left ops.size listed).length := by
          refine List.length_filter_lt_length_iff_exists.2 ⟨i, hil, ?_⟩
          simp
        omega

theorem closed_set {ops : Array Oper} {A : Nat → Nat} {listed : Array Bool} {i : Nat} (hg : Good ops A) (hc : Closed_ ops listed) (hi : i ∈ Region.ready .any ops listed) : Closed_ ops (listed.setIfInBounds i true) := by
  obtain ⟨h0, o, ho, hall⟩ := mem_ready.1 hi
  have hin : i < ops.size := (Array.getElem?_eq_some_iff.1 ho).1
  refine ⟨by simp [hc.size], ?_⟩
  intro j oj hoj hl e he hb
  by_cases hji : i = j
  · subst hji
    rw [ho] at hoj
    simp only [Option.some.injEq] at hoj
    subst hoj
    by_cases hei : i = e.on
    · have := (hg.ops_ i o ho).2.2 e he hb
      omega
    · rw [getD_set_ne true hei]
      have h1 := hall e he hb
      have hes : e.on < listed.size := by
        rcases Nat.lt_or_ge e.on listed.size with h | h
        · exact h
        · simp [Array.getElem?_eq_none h] at h1
      rw [← getD_any false hes]; exact h1
  · rw [getD_set_ne true hji] at hl
    have h1 := hc.deps j oj hoj hl e he hb
    by_cases hei : i = e.on
    · rw [← hei] at h1 ⊢
      simp [hc.size, hin]
    · rw [getD_set_ne true hei]; exact h1

theorem not_anc {ops : Array Oper} {A : Nat → Nat} {listed : Array Bool} {i x : Nat} (hg : Good ops A) (hc : Closed_ ops listed) (hi : i ∈ Region.ready .any ops listed) (hx : x ∈ left ops.size listed) : (A i).testBit x = false := by
  obtain ⟨h0, o, ho, hall⟩ := mem_ready.1 hi
  obtain ⟨hxn, hxl⟩ := mem_left.1 hx
  cases hb : (A i).testBit x with
  | false => rfl
  | true =>
    have := anc_listed hg hc i o ho (fun e he hb => by
      have h1 := hall e he hb
      have hes : e.on < listed.size := by
        rcases Nat.lt_or_ge e.on listed.size with h | h
        · exact h
        · simp [Array.getElem?_eq_none h] at h1
      rw [← getD_any false hes]; exact h1) x hxn hb
    rw [hxl] at this
    cases this

theorem left_nil {ops : Array Oper} {A : Nat → Nat} {listed : Array Bool} (hg : Good ops A) (hc : Closed_ ops listed) (hr : Region.ready .any ops listed = []) : left ops.size listed = [] := by
  cases hl : left ops.size listed with
  | nil => rfl
  | cons i0 rest =>
    exfalso
    have hi0 := mem_left.1 (by rw [hl]; exact List.mem_cons_self .. : i0 ∈ left ops.size listed)
    obtain ⟨o, ho⟩ : ∃ o, ops[i0]? = some o := ⟨ops[i0], by simp [hi0.1]⟩
    have hsorted : (left ops.size listed).Pairwise (· < ·) := List.Pairwise.filter _ (List.pairwise_lt_range)
    have : i0 ∈ Region.ready .any ops listed := by
      refine mem_ready.2 ⟨hi0.2, o, ho, fun e he hb => ?_⟩
      have hlt := (hg.ops_ i0 o ho).2.2 e he hb
      have hes : e.on < listed.size := by rw [hc.size]; omega
      rw [getD_any false hes]
      cases hle : listed.getD e.on true with
      | true => rfl
      | false =>
        have hm := mem_left.2 ⟨(by omega : e.on < ops.size), hle⟩
        rw [hl] at hm hsorted
        rcases List.mem_cons.1 hm with h1 | h1
        · omega
        · have := (List.pairwise_cons.1 hsorted).1 _ h1
          omega
    rw [hr] at this
    cases this

theorem sched_linx {ops : Array Oper} {A : Nat → Nat} (act : Nat → Bool) (hg : Good ops A) : ∀ (f : Nat) (listed : Array Bool) (s : List Nat), Closed_ ops listed → Sched ops f listed s →
    ∀ m, m = ((left ops.size listed).filter act).length → s.filter act ∈ linx A m ((left ops.size listed).filter act) := by
  intro f
  induction f with
  | zero =>
    rintro listed s hc ⟨rfl, hr⟩ m hm
    rw [left_nil hg hc hr] at hm ⊢
    simp at hm
    subst hm
    simp [linx]
  | succ f ih =>
    rintro listed s hc (⟨rfl, hr⟩ | ⟨i, s', rfl, hi, hs⟩) m hm
    · rw [left_nil hg hc hr] at hm ⊢
      simp at hm
      subst hm
      simp [linx]
    · have hil := ready_left hi
      have hin := (mem_left.1 hil).1
      have hc' := closed_set hg hc hi
      have h1 := ih _ s' hc' hs
      rw [left_set hc.size hin] at h1
      have hcomm : ((left ops.size listed).filter fun x => !Nat.beq x i).filter act = ((left ops.size listed).filter act).filter fun x => !Nat.beq x i := by
        rw [List.filter_filter, List.filter_filter]
        apply List.filter_congr
        intro x _
        exact Bool.and_comm _ _
      rw [hcomm] at h1
      by_cases ha : act i = true
      · rw [List.filter_cons, if_pos ha]
        have hmem : i ∈ (left ops.size listed).filter act := List.mem_filter.2 ⟨hil, ha⟩
        cases m with
        | zero => rw [List.length_eq_zero_iff.1 hm.symm] at hmem; cases hmem
        | succ m =>
          simp only [linx]
          refine List.mem_flatMap.2 ⟨i, hmem, ?_⟩
          have hno : ((left ops.size listed).filter act).any (fun b => (A i).testBit b) = false := by
            refine List.any_eq_false.2 (fun x hx => ?_)
            rw [not_anc hg hc hi (List.mem_filter.1 hx).1]
            simp
          rw [hno]
          simp only [cond_false]
          refine List.mem_map.2 ⟨_, h1 m ?_, rfl⟩
          -- one fewer
          have hnd : ((left ops.size listed).filter act).Nodup := by
            exact List.Pairwise.filter _ (List.Pairwise.filter _ List.nodup_range)
          have e1 : ((left ops.size listed).filter act).filter (fun x => !Nat.beq x i) = ((left ops.size listed).filter act).erase i := by
            rw [hnd.erase_eq_filter]
            apply List.filter_congr
            intro x _
            by_cases hx : x = i
            · subst hx; simp
            · rw [beq_ne hx]; simp [hx]
          rw [e1, List.length_erase_of_mem hmem]
          omega
      · rw [List.filter_cons, if_neg ha]
        have e1 : ((left ops.size listed).filter act).filter (fun x => !Nat.beq x i) = (left ops.size listed).filter act := by
          refine List.filter_eq_self.2 (fun x hx => ?_)
          have hxi : x ≠ i := fun e => ha (by rw [← e]; exact (List.mem_filter.1 hx).2)
          rw [beq_ne hxi]; rfl
        rw [e1] at h1
        exact h1 m hm

section
variable {P : Program} {r : Option Nat} {ops : Array Oper} {Q : Post} {act : Nat → Bool} {G : World → Prop}

theorem pairs_spec {A : Nat → Nat} : ∀ (L : List Nat), pairsOk ops A L = true → L.Pairwise (fun x i => (A x).testBit i = false ∧ ((A i).testBit x = true ∨ ∃ ox oi, ops[x]? = some ox ∧ ops[i]? = some oi ∧ ox.apart ops oi = true))
  | [], _ => List.Pairwise.nil
  | x :: l, h => by
    simp only [pairsOk, Bool.and_eq_true] at h
    refine List.Pairwise.cons (fun i hi => ?_) (pairs_spec l h.2)
    have h1 := List.all_eq_true.1 h.1 i hi
    unfold twoOk at h1
    simp only [Bool.or_eq_true, Bool.and_eq_true, Bool.not_eq_true'] at h1
    refine ⟨h1.1, ?_⟩
    rcases h1.2 with h1 | h1
    · exact .inl h1
    · right
      split at h1
      · rename_i ox oi hox hoi
        exact ⟨ox, oi, hox, hoi, h1⟩
      · cases h1

theorem need_of {i x : Nat} {ox : Oper} (hx : x < ops.size) (ho : ops[x]? = some ox) (ha : act x = false) (hp : noLoad ox = false) (hb : ((Region.before ops).getD i 0).testBit x = false) : need ops act i = true :=
  List.any_eq_true.2 ⟨x, List.mem_range.2 hx, by simp only [ho]; rw [ha, hb, hp]; rfl⟩
theorem draw_list {A : Nat → Nat} (hAe : ∀ j, A j = (Region.before ops).getD j 0) (hQ : Sure Q) (hg : Good ops A) : ∀ (f : Nat) (listed : Array Bool) (s L : List Nat) (a : Act) (w : World), Closed_ ops listed → Sched ops f listed s → L.Nodup → (∀ x, x ∈ L ↔ x ∈ left ops.size listed) →
    L.Pairwise (fun x i => (A x).testBit i = false ∧ ((A i).testBit x = true ∨ ∃ ox oi, ops[x]? = some ox ∧ ops[i]? = some oi ∧ ox.apart ops oi = true)) → s.filter act = L.filter act → ((∃ x ox, x ∈ L ∧ ops[x]? = some ox ∧ act x = false ∧ noLoad ox = false) → G w) → wpG P r ops Q act G L a w → wpOpsIn (FR r) 0 P ops Q s a w := by
  have stop : ∀ (listed : Array Bool) (L : List Nat) (a : Act) (w : World), Closed_ ops listed → (∀ x, x ∈ L ↔ x ∈ left ops.size listed) → Region.ready .any ops listed = [] → wpG P r ops Q act G L a w → wpOpsIn (FR r) 0 P ops Q [] a w := by
    intro listed L a w hc hm hr h
    have hL : L = [] := by
      cases L with
      | nil => rfl
      | cons x l =>
        have := (hm x).1 (List.mem_cons_self ..)
        rw [left_nil hg hc hr] at this
        cases this
    subst hL
    exact h
  intro f
  induction f with
  | zero =>
    rintro listed s L a w hc ⟨rfl, hr⟩ hnd hm hp hact hG h
    exact stop listed L a w hc hm hr h
  | succ f ih =>
    rintro listed s L a w hc (⟨rfl, hr⟩ | ⟨i, s', rfl, hi, hs⟩) hnd hm hp hact hG h
    · exact stop listed L a w hc hm hr h
    · have hil := ready_left hi
      have hin := (mem_left.1 hil).1
      obtain ⟨o, ho⟩ : ∃ o, ops[i]? = some o := ⟨ops[i], by simp [hin]⟩
      obtain ⟨hsel, hdef, _⟩ := hg.ops_ i o ho
      have hc' := closed_set hg hc hi
      obtain ⟨l1, l2, rfl⟩ := List.append_of_mem ((hm i).2 hil)
      have hnd' := List.nodup_append.1 hnd
      have hni1 : ∀ x, x ∈ l1 → x ≠ i := fun x hx => hnd'.2.2 x hx i (List.mem_cons_self ..)
      have hni2 : ∀ x, x ∈ l2 → x ≠ i := fun x hx e => (List.nodup_cons.1 hnd'.2.1).1 (e ▸ hx)
      have hp' := List.pairwise_append.1 hp
      have hpull := wpG_pull hQ ho hsel l1 l2 (by
        intro x hx
        have hxl : x ∈ left ops.size listed := (hm x).1 (List.mem_append_left _ hx)
        have hxa := not_anc hg hc hi hxl
        obtain ⟨hxi, hor⟩ := hp'.2.2 x hx i (List.mem_cons_self ..)
        rcases hor with hb | ⟨ox, oi, hox, hoi, hap⟩
        · rw [hxa] at hb; cases hb
        · rw [ho] at hoi
          simp only [Option.some.injEq] at hoi
          subst hoi
          refine ⟨ox, hox, (hg.ops_ x ox hox).1, hap, ?_, fun _ hai => by
            cases hp : noLoad o with
            | true => exact .inr rfl
            | false => exact .inl (need_of hin ho hai hp (by rw [← hAe]; exact hxi))⟩
          cases hai : act i with
          | false => simp
          | true =>
            -- i is the first that acts
            rw [List.filter_cons, if_pos hai, List.filter_append] at hact
            cases hax : act x with
            | false => rfl
            | true =>
              have hx1 : x ∈ l1.filter act := List.mem_filter.2 ⟨hx, hax⟩
              cases hf : l1.filter act with
              | nil => rw [hf] at hx1; cases hx1
              | cons y ys =>
                rw [hf] at hact
                simp only [List.cons_append, List.cons.injEq] at hact
                have : y ∈ l1.filter act := by rw [hf]; exact List.mem_cons_self ..
                exact absurd hact.1.symm (hni1 y (List.mem_filter.1 this).1)) a w h
      have hm' : ∀ x, x ∈ l1 ++ l2 ↔ x ∈ left ops.size (listed.setIfInBounds i true) := by
        intro x
        rw [left_set hc.size hin, List.mem_filter, ← hm x]
        constructor
        · intro hx
          rcases List.mem_append.1 hx with hx | hx
          · exact ⟨List.mem_append_left _ hx, by rw [beq_ne (hni1 x hx)]; rfl⟩
          · exact ⟨List.mem_append_right _ (List.mem_cons_of_mem _ hx), by rw [beq_ne (hni2 x hx)]; rfl⟩
        · rintro ⟨hx, hxi⟩
          rcases List.mem_append.1 hx with hx | hx
          · exact List.mem_append_left _ hx
          · rcases List.mem_cons.1 hx with rfl | hx
            · simp at hxi
            · exact List.mem_append_right _ hx
      have hnd2 : (l1 ++ l2).Nodup := by
        refine List.nodup_append.2 ⟨hnd'.1, (List.nodup_cons.1 hnd'.2.1).2, fun x hx y hy => hnd'.2.2 x hx y (List.mem_cons_of_mem _ hy)⟩
      have hp2 := List.pairwise_append.2 ⟨hp'.1, (List.pairwise_cons.1 hp'.2.1).2, fun x hx y hy => hp'.2.2 x hx y (List.mem_cons_of_mem _ hy)⟩
      have hact2 : s'.filter act = (l1 ++ l2).filter act := by
        rw [List.filter_cons, List.filter_append, List.filter_cons] at hact
        rw [List.filter_append]
        cases hai : act i with
        | false => simp only [hai] at hact; exact hact
        | true =>
          simp only [hai, if_true] at hact
          cases hf : l1.filter act with
          | nil =>
            rw [hf] at hact
            simp only [List.nil_append, List.cons.injEq, true_and] at hact ⊢
            exact hact
          | cons y ys =>
            rw [hf] at hact
            simp only [List.cons_append, List.cons.injEq] at hact
            have : y ∈ l1.filter act := by rw [hf]; exact List.mem_cons_self ..
            exact absurd hact.1.symm (hni1 y (List.mem_filter.1 this).1)
      simp only [wpG, ho] at hpull
      simp only [wpOpsIn, ho]
      by_cases hw : Region.wanted o (yielded ops a.tmps) = true
      · rw [if_pos hw, wpIn_iff _ hdef]
        by_cases ha : act i = true
        · rw [if_pos (by simp [ha, hw])] at hpull
          refine Does_mono ?_ hpull
          rintro a' w' _ ⟨hG', hk'⟩
          refine ih _ s' (l1 ++ l2) a' w' hc' hs hnd2 hm' hp2 hact2 (fun ⟨x, ox, hx, hox, hxa, hxp⟩ => hG' ?_) hk'
          have hxl := (hm' x).1 hx
          rw [left_set hc.size hin] at hxl
          have hxl := (List.mem_filter.1 hxl).1
          exact need_of (mem_left.1 hxl).1 hox hxa hxp (by rw [← hAe]; exact not_anc hg hc hi hxl)
        · rw [if_neg (by simp [ha])] at hpull
          obtain ⟨v, hy, hk'⟩ := hpull
          rcases hy with ⟨_, hv⟩ | ⟨hn, _⟩
          · have hGw : G w ∨ noLoad o = true := by
              cases hp : noLoad o with
              | true => exact .inr rfl
              | false => exact .inl (hG ⟨i, o, List.mem_append_right _ (List.mem_cons_self ..), ho, by simpa using ha, hp⟩)
            exact does_value (hv w hGw) (ih _ s' (l1 ++ l2) _ w hc' hs hnd2 hm' hp2 hact2 (fun ⟨x, ox, hx, hox, hxa, hxp⟩ => hG ⟨x, ox, by
              rcases List.mem_append.1 hx with hx | hx
              · exact List.mem_append_left _ hx
              · exact List.mem_append_right _ (List.mem_cons_of_mem _ hx), hox, hxa, hxp⟩) hk')
          · rw [hw] at hn; cases hn
      · rw [if_neg hw]
        refine ⟨fun _ _ => trivial, ?_⟩
        rw [if_neg (by simp [hw])] at hpull
        obtain ⟨v, hy, hk'⟩ := hpull
        rcases hy with ⟨hn, _⟩ | ⟨_, rfl⟩
        · exact absurd hn hw
        · exact ih _ s' (l1 ++ l2) _ w hc' hs hnd2 hm' hp2 hact2 (fun ⟨x, ox, hx, hox, hxa, hxp⟩ => hG ⟨x, ox, by
            rcases List.mem_append.1 hx with hx | hx
            · exact List.mem_append_left _ hx
            · exact List.mem_append_right _ (List.mem_cons_of_mem _ hx), hox, hxa, hxp⟩) hk'

theorem W_draw {id : Nat} {a : Act} {w : World} (act : Nat → Bool) (G : World → Prop) (Ls : List (List Nat)) (hm : P.follows .mixedOrders = true) (hQ : Sure Q) (hk : drawOk ops act Ls = true) (hG : G { w with drawn := w.drawn + 1 })
    (h : ∀ L, L ∈ Ls → wpG P r ops Q act G L a { w with drawn := w.drawn + 1 }) : W P r (.region id ops true) Q a w := by
  unfold drawOk at hk
  simp only [Bool.and_eq_true] at hk
  obtain ⟨⟨⟨hA, hO⟩, hL⟩, hcov⟩ := hk
  generalize hAe : (fun j => (Region.before ops).getD j 0) = A at hA hL hcov
  have hg := good_of hA hO
  refine wpIn_region_draw fun t => ?_
  simp only [Region.schedule, hm, Bool.true_or, if_true]
  have hrep : ∀ i, i < ops.size → (Array.replicate ops.size false).getD i true = false := by
    intro i hi
    simp [hi]
  have hl : left ops.size (Array.replicate ops.size false) = List.range ops.size := by
    unfold left
    refine List.filter_eq_self.2 (fun x hx => ?_)
    rw [hrep x (List.mem_range.1 hx)]
    rfl
  have hc : Closed_ ops (Array.replicate ops.size false) := by
    refine ⟨by simp, ?_⟩
    intro j o ho hl'
    rw [hrep j (Array.getElem?_eq_some_iff.1 ho).1] at hl'
    cases hl'
  have hs := linearise_sched (ops := ops) ops.size t (Array.replicate ops.size false) (by simp) (by rw [hl]; simp)
  have hlin := sched_linx act hg ops.size _ _ hc hs _ rfl
  rw [hl] at hlin
  obtain ⟨L, hLs, hsame⟩ := List.any_eq_true.1 (List.all_eq_true.1 hcov _ hlin)
  have hL1 := List.all_eq_true.1 hL L hLs
  simp only [Bool.and_eq_true] at hL1
  obtain ⟨hfull, hpair⟩ := hL1
  unfold fullList at hfull
  simp only [Bool.and_eq_true] at hfull
  obtain ⟨⟨honce, hlt⟩, hall⟩ := hfull
  have hmem : ∀ x, x ∈ L ↔ x ∈ List.range ops.size := by
    intro x
    rw [List.mem_range]
    constructor
    · intro hx
      have := List.all_eq_true.1 hlt x hx
      rwa [Nat.blt_eq] at this
    · intro hx
      obtain ⟨y, hy, hxy⟩ := List.any_eq_true.1 (List.all_eq_true.1 hall x (List.mem_range.2 hx))
      rw [Nat.eq_of_beq_eq_true hxy]
      exact hy
  refine draw_list (act := act) (G := G) (A := A) (fun j => by rw [← hAe]) hQ hg ops.size _ _ L a _ hc hs (eachOnce_nodup L honce) (fun x => ?_) (pairs_spec L hpair) (sameList_eq _ _ hsame).symm (fun _ => hG) (h L hLs)
  rw [hl, hmem x]
end
end Go.Al
