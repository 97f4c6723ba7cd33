/-
  Put together out of 9 texts: The document's ledger: what is told of accounts. The document's ledger: locks. The document's ledger: may. The document's ledger: Transfer. The document's ledger: Reserve, Burn, Mint. The document's ledger: Release, Slash. The document's ledger: Lock. The document's ledg
-/
import Derived.Test.YtmflbilhdoiihaaLedgerPlaysB2
set_option maxRecDepth 10000
namespace Go.Al
open Go Go.RowKit Go.Proofs
def insR (id n : Int) : List (Int × Int) → List (Int × Int)
  | [] => [(id, n)]
  | q :: l => if q.1 = id then (id, n) :: l else if q.1 < id then q :: insR id n l else (id, n) :: q :: l
theorem rowL_cons (n : Int) (x : Ci) (l : List Ci) : rowL n (x :: l) = if x.a = n then (x.b, x.v) :: rowL n l else rowL n l := by
  unfold rowL
  by_cases h : x.a = n
  · rw [if_pos h, List.filter_cons_of_pos (by simpa using h)]; rfl
  · rw [if_neg h, List.filter_cons_of_neg (by simpa using h)]
theorem row_mem {n : Int} {q : Int × Int} {l : List Ci} (h : q ∈ rowL n l) : ∃ c ∈ l, c.a = n ∧ c.b = q.1 := by
  obtain ⟨c, hc, rfl⟩ := List.mem_map.1 h
  have := List.mem_filter.1 hc
  exact ⟨c, this.1, by simpa using this.2, rfl⟩
theorem row_gt {a id : Int} {l : List Ci} (h : ∀ y ∈ l, ltC a id y.a y.b) : ∀ q ∈ rowL a l, id < q.1 := fun q hq => by
  obtain ⟨c, hc, h1, h2⟩ := row_mem hq
  have := h c hc
  unfold ltC at this; omega
theorem row_srt {cs : List Ci} (hs : Srt cs) (a : Int) : (rowL a cs).Pairwise fun x y => x.1 < y.1 := by
  induction cs with
  | nil => exact List.Pairwise.nil
  | cons x l ih =>
    obtain ⟨h1, h2⟩ := List.pairwise_cons.1 hs
    rw [rowL_cons]
    split
    · rename_i hx; subst hx
      exact List.pairwise_cons.2 ⟨row_gt h1, ih h2⟩
    · exact ih h2
theorem insR_front {id n : Int} : ∀ {l : List (Int × Int)}, (∀ q ∈ l, id < q.1) → insR id n l = (id, n) :: l
  | [], _ => rfl
  | q :: l, h => by
    have := h q (List.mem_cons_self ..)
    rw [insR, if_neg (by omega), if_neg (by omega)]
theorem fil_all {id : Int} {l : List (Int × Int)} (h : ∀ q ∈ l, id < q.1) : (l.filter fun q => decide (q.1 ≠ id)) = l := List.filter_eq_self.2 fun q hq => by have := h q hq; simp; omega
theorem row_set {cs : List Ci} (hs : Srt cs) (a id n : Int) : rowL a (setC a id n cs) = insR id n (rowL a cs) := by
  induction cs with
  | nil => simp [setC, rowL, insR]
  | cons x l ih =>
    obtain ⟨h1, h2⟩ := List.pairwise_cons.1 hs
    rw [setC]
    split
    · rename_i hx
      rw [rowL_cons, rowL_cons, if_pos rfl, if_pos hx.1, insR, if_pos hx.2]
    · rename_i hx
      split
      · rename_i hlt
        rw [rowL_cons, rowL_cons, ih h2]
        by_cases hxa : x.a = a
        · rw [if_pos hxa, if_pos hxa, insR, if_neg (fun h => hx ⟨hxa, h⟩), if_pos (by unfold ltC at hlt; show x.b < id; omega)]
        · rw [if_neg hxa, if_neg hxa]
      · rename_i hlt
        have hgt : ltC a id x.a x.b := by unfold ltC at *; omega
        rw [rowL_cons, if_pos rfl, insR_front (row_gt fun y hy => by
          rcases List.mem_cons.1 hy with rfl | hy
          · exact hgt
          · exact ltC_trans hgt (h1 y hy))]
theorem row_del {cs : List Ci} (hs : Srt cs) (a id : Int) : rowL a (delC a id cs) = (rowL a cs).filter fun q => decide (q.1 ≠ id) := by
  induction cs with
  | nil => rfl
  | cons x l ih =>
    obtain ⟨h1, h2⟩ := List.pairwise_cons.1 hs
    rw [delC]
    split
    · rename_i hx
      obtain ⟨hx1, hx2⟩ := hx
      subst hx1 hx2
      rw [rowL_cons, if_pos rfl, List.filter_cons_of_neg (by simp), fil_all (row_gt h1)]
    · rename_i hx
      rw [rowL_cons, rowL_cons, ih h2]
      by_cases hxa : x.a = a
      · rw [if_pos hxa, if_pos hxa, List.filter_cons_of_pos (by simp; exact fun h => hx ⟨hxa, h⟩)]
      · rw [if_neg hxa, if_neg hxa]
theorem row_other {a b id n : Int} (hab : b ≠ a) : ∀ (cs : List Ci), rowL b (setC a id n cs) = rowL b cs ∧ rowL b (delC a id cs) = rowL b cs
  | [] => ⟨by rw [setC, rowL_cons, if_neg (fun h => hab h.symm)], rfl⟩
  | x :: l => by
    obtain ⟨h1, h2⟩ := row_other (id := id) (n := n) hab l
    constructor
    · rw [setC]
      split
      · rename_i hx; rw [rowL_cons, rowL_cons, if_neg (fun h => hab h.symm), if_neg (fun h => hab (h.symm.trans hx.1))]
      · split
        · rw [rowL_cons, rowL_cons, h1]
        · rw [rowL_cons, if_neg (fun h => hab h.symm)]
    · rw [delC]
      split
      · rename_i hx; rw [rowL_cons, if_neg (fun h => hab (h.symm.trans hx.1))]
      · rw [rowL_cons, rowL_cons, h2]
def lkR (id n : Int) : Bool → List (Int × Int) → List (Int × Int) → List (Int × Int)
  | b, x, [] => if b = true then x else x ++ [(id, n)]
  | b, x, o :: l => if (!b) = true ∧ o.1 ≥ id then lkR id n true (if ¬ o.1 = id then (x ++ [(id, n)]) ++ [o] else x ++ [(id, n)]) l else lkR id n b (if ¬ o.1 = id then x ++ [o] else x) l
theorem lkR_true (id n : Int) : ∀ (l x : List (Int × Int)), lkR id n true x l = x ++ l.filter fun q => decide (q.1 ≠ id)
  | [], x => by simp [lkR]
  | o :: l, x => by
    rw [lkR, if_neg (by simp), lkR_true id n l]
    by_cases h : o.1 = id
    · rw [if_neg (fun f => f h), List.filter_cons_of_neg (by simpa using h)]
    · rw [if_pos h, List.filter_cons_of_pos (by simpa using h)]; simp
theorem lkR_false (id n : Int) : ∀ (l x : List (Int × Int)), (l.Pairwise fun x y => x.1 < y.1) → lkR id n false x l = x ++ insR id n l
  | [], x, _ => by simp [lkR, insR]
  | o :: l, x, h => by
    obtain ⟨h1, h2⟩ := List.pairwise_cons.1 h
    rw [lkR, insR]
    by_cases hge : o.1 ≥ id
    · rw [if_pos ⟨rfl, hge⟩, lkR_true, fil_all (fun q hq => by have := h1 q hq; omega)]
      by_cases he : o.1 = id
      · rw [if_neg (fun f => f he), if_pos he]; simp
      · rw [if_pos he, if_neg he, if_neg (by omega)]; simp
    · rw [if_neg (fun f => hge f.2), lkR_false id n l _ h2, if_pos (by omega), if_neg (by omega), if_pos (by omega)]; simp
section
variable {id n : Int} {b : Bool} {x l : List (Int × Int)} {i : Nat} {o : Int × Int}
theorem lkR_yn (h : l[i]? = some o) (h1 : (!b) = true) (h2 : o.1 ≥ id) (h3 : ¬ o.1 = id) : lkR id n b x (l.drop i) = lkR id n true ((x ++ [(id, n)]) ++ [o]) (l.drop (i + 1)) := by
  obtain ⟨g, rfl⟩ := List.getElem?_eq_some_iff.1 h
  rw [List.drop_eq_getElem_cons g, lkR, if_pos ⟨h1, h2⟩, if_pos h3]
theorem lkR_ye (h : l[i]? = some o) (h1 : (!b) = true) (h2 : o.1 ≥ id) (h3 : o.1 = id) : lkR id n b x (l.drop i) = lkR id n true (x ++ [(id, n)]) (l.drop (i + 1)) := by
  obtain ⟨g, rfl⟩ := List.getElem?_eq_some_iff.1 h
  rw [List.drop_eq_getElem_cons g, lkR, if_pos ⟨h1, h2⟩, if_neg (fun f => f h3)]
theorem lkR_nn (h : l[i]? = some o) (h1 : ¬ ((!b) = true ∧ o.1 ≥ id)) (h3 : ¬ o.1 = id) : lkR id n b x (l.drop i) = lkR id n b (x ++ [o]) (l.drop (i + 1)) := by
  obtain ⟨g, rfl⟩ := List.getElem?_eq_some_iff.1 h
  rw [List.drop_eq_getElem_cons g, lkR, if_neg h1, if_pos h3]
theorem lkR_ne (h : l[i]? = some o) (h1 : ¬ ((!b) = true ∧ o.1 ≥ id)) (h3 : o.1 = id) : lkR id n b x (l.drop i) = lkR id n b x (l.drop (i + 1)) := by
  obtain ⟨g, rfl⟩ := List.getElem?_eq_some_iff.1 h
  rw [List.drop_eq_getElem_cons g, lkR, if_neg h1, if_neg (fun f => f h3)]
end
theorem lock_row {cs : List Ci} (hs : Srt cs) {a : Int} (ha : isA a = true) (id n : Int) : rowL a (lockC cs a id n) = lkR id n (decide (n ≤ 0 ∨ n > 1073741824)) [] (rowL a cs) := by
  unfold lockC
  rw [if_pos ha]
  by_cases h : n ≤ 0 ∨ n > 1073741824
  · rw [if_pos h, decide_eq_true h, lkR_true, row_del hs]; rfl
  · rw [if_neg h, decide_eq_false h, lkR_false _ _ _ _ (row_srt hs a), row_set hs]; rfl
theorem lock_other {cs : List Ci} {a b : Int} (hab : b ≠ a) (id n : Int) : rowL b (lockC cs a id n) = rowL b cs := by
  unfold lockC
  split
  · split
    · exact (row_other (n := n) hab cs).2
    · exact (row_other hab cs).1
  · rfl
def lkc (q : Int × Int) : List Value := [nt q.1, nt q.2]
theorem lkc_len (q : Int × Int) : (lkc q).length = 2 := rfl
theorem lkc_one (q : Int × Int) : ∀ u ∈ lkc q, u.oneCell' = true := one_all' rfl
structure DE where
  f : Int
  h : Int
  A : Option Addr
  cap : Nat
  ls : List (Int × Int)
def DE.cells (d : DE) : List Value := [nt d.f, nt d.h, .slice d.A d.ls.length d.cap]
theorem DE.len (d : DE) : d.cells.length = 3 := rfl
def DE.acc (d : DE) : Acc := ⟨d.f, d.h⟩
def DAll (F : Nat → Prop) (w : World) (x : Nat) (A : Option Addr) (ds : List DE) (cs : List Ci) : Prop := ∀ (j : Nat) (d : DE), ds[j]? = some d → d.ls = rowL (j : Int) cs ∧ SlT w 2 lkc d.A d.cap d.ls ∧ ∀ q, inA d.A q → F q ∧ q ≠ x ∧ ¬ inA A q
structure DlX (F : Nat → Prop) (w : World) (x : Nat) (A : Option Addr) (cap : Nat) (ds : List DE) (xs : List Acc) (cs : List Ci) : Prop where
  blk : Blk w x [.slice A ds.length cap] 59
  sl : SlT w 3 DE.cells A cap ds
  own : ∀ q, inA A q → F q ∧ q ≠ x
  acc : ds.map DE.acc = xs
  all : DAll F w x A ds cs
def OkC (cs : List Ci) : Prop := cs.length ≤ 90000 ∧ Srt cs ∧ ∀ c ∈ cs, isA c.a = true
def DLd (F : Nat → Prop) (w : World) (x : Nat) (xs : List Acc) (cs : List Ci) : Prop := Inv xs ∧ OkC cs ∧ F x ∧ (∀ q, F q → q < w.heap.size) ∧ ∃ A cap ds, DlX F w x A cap ds xs cs
section
variable {F S : Nat → Prop} {w w' : World} {x cap cap' : Nat} {A A' : Option Addr} {ds ds' : List DE} {xs xs' : List Acc} {cs cs' : List Ci} {j : Nat} {d : DE}
theorem DLd.lt (h : DLd F w x xs cs) : ∀ q, F q → q < w.heap.size := h.2.2.2.1
theorem DLd.at_ (h : DLd F w x xs cs) : F x := h.2.2.1
theorem DLd.inv (h : DLd F w x xs cs) : Inv xs := h.1
theorem DLd.okc (h : DLd F w x xs cs) : OkC cs := h.2.1
theorem DAll.keep (h : DAll F w x A ds cs) (k : Keep S w w') (hS : ∀ q, F q → q ≠ x → ¬ inA A q → ¬ S q) : DAll F w' x A ds cs := fun j d hd => by
  obtain ⟨h1, h2, h3⟩ := h j d hd
  exact ⟨h1, h2.keep k (fun q hq => hS q (h3 q hq).1 (h3 q hq).2.1 (h3 q hq).2.2), h3⟩
theorem DLd.keep (h : DLd F w x xs cs) (k : Keep S w w') (hS : ∀ q, F q → ¬ S q) : DLd F w' x xs cs := by
  obtain ⟨h0, h1, h2, h3, A, cap, ds, h4, h5, h6, h7, h8⟩ := h
  exact ⟨h0, h1, h2, fun q hq => Nat.lt_of_lt_of_le (h3 q hq) k.size, A, cap, ds, h4.keep k (hS _ h2), h5.keep k (fun q hq => hS q (h6 q hq).1), h6, h7, h8.keep k (fun q hq _ _ => hS q hq)⟩
theorem DLd.quiet {N : Nat} (h : DLd F w x xs cs) (k : Keep (lb N w) w w') : DLd F w' x xs cs := by
  obtain ⟨h0, h1, h2, h3, A, cap, ds, h4, h5, h6, h7, h8⟩ := h
  exact ⟨h0, h1, h2, fun q hq => Nat.lt_of_lt_of_le (h3 q hq) k.size, A, cap, ds, h4.quiet k, h5.quiet k, h6, h7, fun j d hd => ⟨(h8 j d hd).1, (h8 j d hd).2.1.quiet k, (h8 j d hd).2.2⟩⟩
theorem DLd.mono {F' : Nat → Prop} (h : DLd F w x xs cs) (hF : ∀ q, F q → F' q) (hlt : ∀ q, F' q → q < w.heap.size) : DLd F' w x xs cs := by
  obtain ⟨h0, h1, h2, h3, A, cap, ds, h4, h5, h6, h7, h8⟩ := h
  exact ⟨h0, h1, hF _ h2, hlt, A, cap, ds, h4, h5, fun q hq => ⟨hF q (h6 q hq).1, (h6 q hq).2⟩, h7, fun j d hd => ⟨(h8 j d hd).1, (h8 j d hd).2.1, fun q hq => ⟨hF q ((h8 j d hd).2.2 q hq).1, ((h8 j d hd).2.2 q hq).2⟩⟩⟩
theorem isA_no {a : Int} (h : isA a = false) : ¬ (0 ≤ a ∧ a < 10) := by simpa [isA] using h
theorem de_acct (h : ds.map DE.acc = xs) (hd : ds[j]? = some d) (hj : j < 10) : acct xs (j : Int) = ⟨d.f, d.h⟩ := acct_in (by rw [← h, List.getElem?_map, hd]; rfl) hj
theorem de_at (h : ds.map DE.acc = xs) (hd : ds[j]? = some d) : xs[j]? = some ⟨d.f, d.h⟩ := by rw [← h, List.getElem?_map, hd]; rfl
theorem de_len (h : ds.map DE.acc = xs) (hi : Inv xs) : ds.length = 10 := by rw [← hi.1, ← h, List.length_map]
theorem DAll.set (h : DAll F w x A ds cs) (hd : ds[j]? = some d) (f g : Int) : DAll F w x A (ds.set j ⟨f, g, d.A, d.cap, d.ls⟩) cs := fun i e he => by
  by_cases hij : i = j
  · subst hij
    rw [List.getElem?_set_self (List.getElem?_eq_some_iff.1 hd).1] at he
    simp only [Option.some.injEq] at he
    subst he
    exact h i d hd
  · rw [List.getElem?_set_ne (Ne.symm hij)] at he
    exact h i e he
theorem map_set (h : ds.map DE.acc = xs) (f g : Int) (A9 : Option Addr) (c9 : Nat) (l9 : List (Int × Int)) : (ds.set j ⟨f, g, A9, c9, l9⟩).map DE.acc = xs.set j ⟨f, g⟩ := by rw [List.map_set, h]; rfl
end
theorem is6_spec (a : Int) (w : World) : Calls Try.prog 56 #[nt a] w fun e w' => e = .returned (.bool (isA a)) ∧ w' = w := by
 refine eV ?_
 refine Vr <| On 1 [0] <| Oer <| On 3 [0, 5] ?_
 by_cases hg1 : a ≥ 0
 ·
  exact Dt 5 hg1 <| Oen [2] <| Rr (.bool (decide (a < 10))) ⟨by congr 2; unfold isA; by_cases h1 : 0 ≤ a <;> simp [h1] <;> omega, rfl⟩
 exact Df 5 hg1 <| Oen [2] <| Rr (.bool false) ⟨by congr 2; unfold isA; by_cases h1 : 0 ≤ a <;> simp [h1] <;> omega, rfl⟩
theorem free6_spec (F : Nat → Prop) (x : Nat) (xs : List Acc) (cs : List Ci) (a : Int) (w : World) (h : DLd F w x xs cs)  : Calls Try.prog 47 #[pt x, nt a] w fun e w' => e = .returned (nt (acct xs a).free) ∧ Keep none_ w w' := by
 obtain ⟨hinv, hcl, hFx, hFlt, A, cap, ds, hdx⟩ := h
 have hx := hdx.blk
 have hA := hdx.sl
 have hxlt := hx.lt
 have hacc := hdx.acc
 have hall := hdx.all
 have hAx : ∀ q, inA A q → q ≠ x := fun q hq => (hdx.own q hq).2
 have hAlt := SlT.lt hA
 have hdl := de_len hacc hinv
 have hcl1 := hcl.1
 have hF0 : ∀ q, F q → F q ∨ w.heap.size ≤ q := fun _ h => .inl h
 have hK0 : Keep none_ w w := Keep.refl _ _
 have hzhK0 := Keep.size hK0
 refine eV ?_
 refine Vr <| On 1 [0, 1] <| Oe <| V_seq <| Vr <| On 1 [0, 1, 5] <| Kq (is6_spec a _) <| Oen [0, 1, 7] <| Vb (!(isA a)) (fun hc4 => ?_) (fun hc4 => ?_)
 ·
  exact Vn [4] <| Rt <| Xr (nt 0) ⟨by rw [acct_out (isA_no (by simpa using hc4))], hK0⟩
 have hiaa : isA a = true := by simpa using hc4
 obtain ⟨j5, hj5, hjl5⟩ : ∃ j : Nat, a = j ∧ j < 10 := ⟨(a).toNat, by have h9 := hiaa; simp only [isA, decide_eq_true_eq] at h9; omega, by have h9 := hiaa; simp only [isA, decide_eq_true_eq] at h9; omega⟩
 refine Vsk <| Vr <| On 3 [1, 10] <| Lr 0 (.slice A ds.length cap) hx <| On 5 [11, 12] ?_
 obtain ⟨b6, o6, L6, T6, rfl, hat6⟩ := SlT.open_ hA (by first | omega | (simp only [List.length_map]; omega) | (simp; done) | (simp; omega))
 have hb6lt := hat6.blk.lt
 have hob7 := hAx b6 ⟨_, rfl, rfl⟩
 have hob8 := hAlt b6 ⟨_, rfl, rfl⟩
 refine Op_ [(11, sl_ b6 o6 ds.length cap), (12, nt a)] <| Oq (u := nt a) (v := nt (j5 : Int)) 12 (by rw [hj5]) <| Oi (b := b6) (o := o6) (len := ds.length) (cap := cap) (j := j5) (some 13) 57 (.tmp 11) (.tmp 12) 56 3 40 .i64 <| On 7 [14] ?_
 obtain ⟨x9, hx10⟩ : ∃ x, ds[j5]? = some x := ⟨_, List.getElem?_eq_getElem (by first | omega | (simp only [List.length_map]; omega))⟩
 exact Lc (o6 + j5 * 3) (nt x9.f) hat6.blk (At.cell0 hat6 (es_at hx10) rfl) <| Oen [4] <| Rr (nt x9.f) ⟨by rw [hj5, de_acct hacc hx10 hjl5], hK0⟩
theorem held6_spec (F : Nat → Prop) (x : Nat) (xs : List Acc) (cs : List Ci) (a : Int) (w : World) (h : DLd F w x xs cs)  : Calls Try.prog 48 #[pt x, nt a] w fun e w' => e = .returned (nt (acct xs a).held) ∧ Keep none_ w w' := by
 obtain ⟨hinv, hcl, hFx, hFlt, A, cap, ds, hdx⟩ := h
 have hx := hdx.blk
 have hA := hdx.sl
 have hxlt := hx.lt
 have hacc := hdx.acc
 have hall := hdx.all
 have hAx : ∀ q, inA A q → q ≠ x := fun q hq => (hdx.own q hq).2
 have hAlt := SlT.lt hA
 have hdl := de_len hacc hinv
 have hcl1 := hcl.1
 have hF0 : ∀ q, F q → F q ∨ w.heap.size ≤ q := fun _ h => .inl h
 have hK0 : Keep none_ w w := Keep.refl _ _
 have hzhK0 := Keep.size hK0
 refine eV ?_
 refine Vr <| On 1 [0, 1] <| Oe <| V_seq <| Vr <| On 1 [0, 1, 5] <| Kq (is6_spec a _) <| Oen [0, 1, 7] <| Vb (!(isA a)) (fun hc4 => ?_) (fun hc4 => ?_)
 ·
  exact Vn [4] <| Rt <| Xr (nt 0) ⟨by rw [acct_out (isA_no (by simpa using hc4))], hK0⟩
 have hiaa : isA a = true := by simpa using hc4
 obtain ⟨j5, hj5, hjl5⟩ : ∃ j : Nat, a = j ∧ j < 10 := ⟨(a).toNat, by have h9 := hiaa; simp only [isA, decide_eq_true_eq] at h9; omega, by have h9 := hiaa; simp only [isA, decide_eq_true_eq] at h9; omega⟩
 refine Vsk <| Vr <| On 3 [1, 10] <| Lr 0 (.slice A ds.length cap) hx <| On 5 [11, 12] ?_
 obtain ⟨b6, o6, L6, T6, rfl, hat6⟩ := SlT.open_ hA (by first | omega | (simp only [List.length_map]; omega) | (simp; done) | (simp; omega))
 have hb6lt := hat6.blk.lt
 have hob7 := hAx b6 ⟨_, rfl, rfl⟩
 have hob8 := hAlt b6 ⟨_, rfl, rfl⟩
 refine Op_ [(11, sl_ b6 o6 ds.length cap), (12, nt a)] <| Oq (u := nt a) (v := nt (j5 : Int)) 12 (by rw [hj5]) <| Oi (b := b6) (o := o6) (len := ds.length) (cap := cap) (j := j5) (some 13) 57 (.tmp 11) (.tmp 12) 56 3 40 .i64 <| On 7 [14] ?_
 obtain ⟨x9, hx10⟩ : ∃ x, ds[j5]? = some x := ⟨_, List.getElem?_eq_getElem (by first | omega | (simp only [List.length_map]; omega))⟩
 exact Lc (o6 + j5 * 3 + 1) (nt x9.h) hat6.blk (At.cell hat6 (es_at hx10) rfl) <| Oen [4] <| Rr (nt x9.h) ⟨by rw [hj5, de_acct hacc hx10 hjl5], hK0⟩
end Go.Al

namespace Go.Al
open Go Go.RowKit Go.Proofs
theorem take_row {l : List (Int × Int)} {i : Nat} {o : Int × Int} (h : l[i]? = some o) : l.take (i + 1) = l.take i ++ [o] := by
  obtain ⟨h1, h2⟩ := List.getElem?_eq_some_iff.1 h
  rw [List.take_succ_eq_append_getElem h1, h2]
theorem locked6_in (F : Nat → Prop) (x : Nat) (xs : List Acc) (cs : List Ci) (j : Nat) (w : World) (h : DLd F w x xs cs) (hj : j < 10) : Calls Try.prog 49 #[pt x, nt (j : Int)] w fun e w' => e = .returned (nt (lockedL cs (j : Int))) ∧ Keep none_ w w' := by
 obtain ⟨hinv, hcl, hFx, hFlt, A, cap, ds, hdx⟩ := h
 have hx := hdx.blk
 have hA := hdx.sl
 have hxlt := hx.lt
 have hacc := hdx.acc
 have hall := hdx.all
 have hAx : ∀ q, inA A q → q ≠ x := fun q hq => (hdx.own q hq).2
 have hAlt := SlT.lt hA
 have hdl := de_len hacc hinv
 have hcl1 := hcl.1
 have hF0 : ∀ q, F q → F q ∨ w.heap.size ≤ q := fun _ h => .inl h
 have hrl : (rowL (j : Int) cs).length ≤ cs.length := by unfold rowL; rw [List.length_map]; exact List.length_filter_le ..
 have hK0 : Keep none_ w w := Keep.refl _ _
 have hzhK0 := Keep.size hK0
 refine eV ?_
 refine Vr <| On 1 [0, 1] <| Oer <| On 1 [0, 1, 5] <| Oe <| V_seq <| Vn [0, 1, 5, 6] <| V_block <| Vp [(0, pt x), (1, nt (j : Int)), (5, nt 0), (6, nt 0)] <| V_loop (fun k wI e => ∃ i : Nat, ∃ m : Int, (k + i = (rowL (j : Int) cs).length) ∧ (m = lockM ((rowL (j : Int) cs).take i) 0) ∧ Keep none_ w wI ∧ e = [(0, pt x), (1, nt (j : Int)), (5, nt m), (6, nt (i : Int))]) ((rowL (j : Int) cs).length) ⟨0, 0, by omega, rfl, Keep.refl _ _, rfl⟩ ?_
 rintro k2 w1 _ ⟨i, m, hki, hm, hk3, rfl⟩
 have hsz4 := Keep.size hk3
 replace hx := hx.k0 hk3
 replace hA := hA.keep0 hk3
 replace hall := DAll.keep hall hk3 (fun _ _ _ _ f => f)
 replace hK0 := hK0.tn hk3
 have hzhk3 := Keep.size hk3
 refine V_seq <| Vr <| On 1 [0, 1, 5, 6, 7] <| Kq (is6_spec (j : Int) _) <| On 3 [0, 1, 5, 6, 9] <| Oq (u := .bool (isA (j : Int))) (v := .bool true) 9 (by rw [isA_in hj]) <| On 7 [0, 1, 5, 6, 9, 10, 11, 12, 13] <| Lr 0 (.slice A ds.length cap) hx <| On 9 [0, 1, 5, 6, 9, 10, 11, 12, 13, 14, 15] ?_
 obtain ⟨b9, o9, L9, T9, rfl, hat9⟩ := SlT.open_ hA (by first | omega | (simp only [List.length_map]; omega) | (simp; done) | (simp; omega))
 have hb9lt := hat9.blk.lt
 have hob10 := hAx b9 ⟨_, rfl, rfl⟩
 have hob11 := hAlt b9 ⟨_, rfl, rfl⟩
 refine Oi (b := b9) (o := o9) (len := ds.length) (cap := cap) (j := j) (some 16) 57 (.tmp 14) (.tmp 15) 56 3 40 .i64 <| On 11 [0, 1, 5, 6, 9, 10, 11, 12, 13, 14, 15, 16, 17] ?_
 obtain ⟨x12, hx13⟩ : ∃ x, ds[j]? = some x := ⟨_, List.getElem?_eq_getElem (by first | omega | (simp only [List.length_map]; omega))⟩
 obtain ⟨f14, g14, A14, c14, l14⟩ := x12
 obtain ⟨hls14, hsl14, hso14⟩ := hall j _ hx13
 replace hls14 : l14 = rowL (j : Int) cs := hls14
 replace hsl14 : SlT w1 2 lkc A14 c14 l14 := hsl14
 replace hso14 : ∀ q, inA A14 q → _ := hso14
 obtain ⟨hbf14, hbh14, hbt14, _⟩ := hinv.at_ (de_at hacc hx13)
 replace hbf14 : 0 ≤ f14 := hbf14
 replace hbh14 : 0 ≤ g14 := hbh14
 replace hbt14 : f14 + g14 ≤ 1073741824 := hbt14
 have hsw14 : ∀ q, inA A14 q → q ≠ x ∧ q ≠ b9 ∧ q < w.heap.size := fun q hq => ⟨(hso14 q hq).2.1, fun e => (hso14 q hq).2.2 ⟨_, rfl, e⟩, hFlt q (hso14 q hq).1⟩
 have hsx14 := SlT.lt hsl14
 have hll14 : l14.length = (rowL (j : Int) cs).length := by rw [hls14]
 refine Lc (o9 + j * 3 + 2) (.slice A14 l14.length c14) hat9.blk (At.cell hat9 (es_at hx13) rfl) <| Oen [0, 1, 5, 6, 10, 11, 12, 13, 14, 15, 16, 17, 18, 19, 20, 21] <| Vi ((i : Int) < (l14.length : Int)) (fun hc15 => ?_) (fun hc15 => ?_)
 ·
  refine Vsk <| V_seq <| V_block <| V_region <| On 4 [0, 1, 6, 10, 11, 12, 13, 14, 15, 16, 17, 18, 19, 20, 24, 27] <| Lr 0 (sl_ b9 o9 ds.length cap) hx <| On 6 [0, 1, 6, 10, 11, 12, 13, 14, 15, 16, 17, 18, 19, 20, 24, 28, 29] <| Oi (b := b9) (o := o9) (len := ds.length) (cap := cap) (j := j) (some 30) 57 (.tmp 28) (.tmp 29) 56 3 40 .i64 <| On 8 [0, 1, 6, 10, 11, 12, 13, 14, 15, 16, 17, 18, 19, 20, 24, 31] <| Lc (o9 + j * 3 + 2) (.slice A14 l14.length c14) hat9.blk (At.cell hat9 (es_at hx13) rfl) <| On 10 [0, 1, 6, 10, 11, 12, 13, 14, 15, 16, 17, 18, 19, 20, 24, 32, 33] ?_
  obtain ⟨b16, o16, L16, T16, rfl, hat16⟩ := SlT.open_ hsl14 (by first | omega | (simp only [List.length_map]; omega) | (simp; done) | (simp; omega))
  have hb16lt := hat16.blk.lt
  have hob17 := hsw14 b16 ⟨_, rfl, rfl⟩
  have hob18 := hsx14 b16 ⟨_, rfl, rfl⟩
  refine Oi (b := b16) (o := o16) (len := l14.length) (cap := c14) (j := i) (some 34) 52 (.tmp 32) (.tmp 33) 61 2 16 .i64 <| On 12 [0, 1, 6, 10, 11, 12, 13, 14, 15, 16, 17, 18, 19, 20, 24, 35] ?_
  obtain ⟨x19, hx20⟩ : ∃ x, l14[i]? = some x := ⟨_, List.getElem?_eq_getElem (by first | omega | (simp only [List.length_map]; omega))⟩
  refine Lc (o16 + i * 2 + 1) (nt x19.2) hat16.blk (At.cell hat16 (es_at hx20) rfl) <| On 15 [0, 1, 5, 6, 10, 11, 12, 13, 14, 15, 16, 17, 18, 19, 20] <| OI_end rfl <| X_block <| X_then <| V_region ?_
  have hw21 : IntKind.i64.wrap ((i : Int) + 1) = ((i + 1 : Nat) : Int) := (wrap64_id (by omega) (by omega)).trans (by omega)
  refine On 2 [0, 1, 5, 10, 11, 12, 13, 14, 15, 16, 17, 18, 19, 20, 23] <| Oq (u := nt (IntKind.i64.wrap ((i : Int) + 1))) (v := nt ((i + 1 : Nat) : Int)) 23 (by rw [hw21]) <| Os 3 [(0, pt x), (1, nt (j : Int)), (5, nt (if x19.2 > m then x19.2 else m)), (6, nt ((i + 1 : Nat) : Int)), (10, nt (i : Int)), (11, pt x), (12, pt x), (13, pt x), (14, sl_ b9 o9 ds.length cap), (15, nt (j : Int)), (16, .pointer (some ⟨b9, o9 + j * 3, none⟩)), (17, .pointer (some ⟨b9, o9 + j * 3 + 2, none⟩)), (18, sl_ b16 o16 l14.length c14), (19, nt (l14.length : Int)), (20, .bool (decide ((i : Int) < (l14.length : Int))))] <| OI_end rfl ?_
  exact V_again (k2 - 1) (by omega) [(0, pt x), (1, nt (j : Int)), (5, nt (if x19.2 > m then x19.2 else m)), (6, nt ((i + 1 : Nat) : Int))] rfl ⟨i + 1, if x19.2 > m then x19.2 else m, by omega, by rw [take_row (by rw [← hls14]; exact hx20), lockM_app, ← hm], hk3, rfl⟩
 refine V_exit <| X_exit_then <| X_exit_then <| X_exit_here <| X_then <| Vs [(4, nt m)] <| V_ret ?_
 have hie : i = (rowL (j : Int) cs).length := by omega
 rw [hie, List.take_length] at hm
 exact X_return _ rfl ⟨by rw [hm]; rfl, hK0⟩
theorem locked6_out (F : Nat → Prop) (x : Nat) (xs : List Acc) (cs : List Ci) (a : Int) (w : World) (h : DLd F w x xs cs) (hia : isA a = false) : Calls Try.prog 49 #[pt x, nt a] w (rk_ w (nt 0)) := by
 obtain ⟨hinv, hcl, hFx, hFlt, A, cap, ds, hdx⟩ := h
 have hx := hdx.blk
 have hA := hdx.sl
 have hxlt := hx.lt
 have hacc := hdx.acc
 have hall := hdx.all
 have hAx : ∀ q, inA A q → q ≠ x := fun q hq => (hdx.own q hq).2
 have hAlt := SlT.lt hA
 have hdl := de_len hacc hinv
 have hcl1 := hcl.1
 have hF0 : ∀ q, F q → F q ∨ w.heap.size ≤ q := fun _ h => .inl h
 have hK0 : Keep none_ w w := Keep.refl _ _
 have hzhK0 := Keep.size hK0
 refine eV ?_
 refine Vr <| On 1 [0, 1] <| Oer <| On 1 [0, 1, 5] <| Oe <| V_seq <| Vn [0, 1, 5, 6] <| V_block <| Vp [(0, pt x), (1, nt a), (5, nt 0), (6, nt 0)] <| V_loop (fun k wI e => (k = 0) ∧ Keep none_ w wI ∧ e = [(0, pt x), (1, nt a), (5, nt 0), (6, nt 0)]) 0 ⟨rfl, Keep.refl _ _, rfl⟩ ?_
 rintro k2 w1 _ ⟨hk9, hk3, rfl⟩
 have hsz4 := Keep.size hk3
 replace hK0 := hK0.tn hk3
 have hzhk3 := Keep.size hk3
 exact V_seq <| Vr <| On 1 [0, 1, 5, 6, 7] <| Kq (is6_spec a _) <| On 3 [0, 1, 5, 6, 9] <| Oq (u := .bool (isA a)) (v := .bool false) 9 (by rw [hia]) <| Oen [0, 1, 5, 6, 10, 11, 12, 13, 14, 15, 16, 17, 18, 19, 20, 21] <| Vf <| V_exit <| X_exit_then <| X_exit_then <| X_exit_here <| X_then <| Vn [4] <| Rr (nt 0) ⟨rfl, hK0⟩
theorem locked6_spec (F : Nat → Prop) (x : Nat) (xs : List Acc) (cs : List Ci) (a : Int) (w : World) (h : DLd F w x xs cs) : Calls Try.prog 49 #[pt x, nt a] w fun e w' => e = .returned (nt (lockedL cs a)) ∧ Keep none_ w w' := by
  cases hia : isA a with
  | true =>
    obtain ⟨j, rfl⟩ : ∃ j : Nat, a = j := ⟨a.toNat, by simp only [isA, decide_eq_true_eq] at hia; omega⟩
    exact locked6_in F x xs cs j w h (by simp only [isA, decide_eq_true_eq] at hia; omega)
  | false =>
    have h0 : lockedL cs a = 0 := by
      have hr : rowL a cs = [] := by
        unfold rowL
        rw [List.filter_eq_nil_iff.2]; rfl
        intro c hc hca
        have := h.okc.2.2 c hc
        rw [show c.a = a by simpa using hca, hia] at this; cases this
      unfold lockedL; rw [hr]; rfl
    rw [h0]; exact locked6_out F x xs cs a w h hia
end Go.Al

namespace Go.Al
open Go Go.RowKit Go.Proofs
theorem may6_spec (F : Nat → Prop) (x : Nat) (xs : List Acc) (cs : List Ci) (a n : Int) (w : World) (h : DLd F w x xs cs) : Calls Try.prog 57 #[pt x, nt a, nt n] w fun e w' => e = .returned (nt (spendsE xs cs a n)) ∧ Keep none_ w w' := by
 have h9 := h
 obtain ⟨hinv, hcl, hFx, hFlt, A, cap, ds, hdx⟩ := h
 have hx := hdx.blk
 have hA := hdx.sl
 have hxlt := hx.lt
 have hacc := hdx.acc
 have hall := hdx.all
 have hAx : ∀ q, inA A q → q ≠ x := fun q hq => (hdx.own q hq).2
 have hAlt := SlT.lt hA
 have hdl := de_len hacc hinv
 have hcl1 := hcl.1
 have hF0 : ∀ q, F q → F q ∨ w.heap.size ≤ q := fun _ h => .inl h
 have hK0 : Keep none_ w w := Keep.refl _ _
 have hzhK0 := Keep.size hK0
 refine eV ?_
 refine Vr <| On 1 [0, 1, 2] <| Oe <| V_seq <| V_block <| Vr <| On 1 [0, 1, 2, 8] <| Kq (is6_spec a _) <| Os 4 [(0, pt x), (1, nt a), (2, nt n), (11, .bool (!(isA a)))] ?_
 cases hg6 : (!(isA a))
 ·
  have hiaa : isA a = true := by simpa using hg6
  obtain ⟨j7, hj7, hjl7⟩ : ∃ j : Nat, a = j ∧ j < 10 := ⟨(a).toNat, by have h9 := hiaa; simp only [isA, decide_eq_true_eq] at h9; omega, by have h9 := hiaa; simp only [isA, decide_eq_true_eq] at h9; omega⟩
  refine OI_eq [(0, pt x), (1, nt a), (2, nt n), (11, .bool false)] (by first | rfl | rw [hg6]) <| On 8 [0, 1, 2, 15] ?_
  by_cases hg8 : n < 0
  ·
   exact Dt 15 hg8 <| Oen [0, 1, 2, 7] <| Vo <| Vn [6] <| V_ret <| X_ret_block <| X_ret_then <| Xr (nt 1) ⟨by unfold spendsE; simp_all <;> omega, hK0⟩
  refine Df 15 hg8 <| Oen [0, 1, 2, 7] <| Vi (n > 1073741824) (fun hc9 => ?_) (fun hc9 => ?_)
  ·
   exact Vn [6] <| V_ret <| X_ret_block <| X_ret_then <| Xr (nt 1) ⟨by unfold spendsE; simp_all <;> omega, hK0⟩
  refine Vr <| On 4 [0, 1, 2, 20, 23] <| Lr 0 (.slice A ds.length cap) hx <| On 6 [0, 1, 2, 20, 24, 25] ?_
  obtain ⟨b10, o10, L10, T10, rfl, hat10⟩ := SlT.open_ hA (by first | omega | (simp only [List.length_map]; omega) | (simp; done) | (simp; omega))
  have hb10lt := hat10.blk.lt
  have hob11 := hAx b10 ⟨_, rfl, rfl⟩
  have hob12 := hAlt b10 ⟨_, rfl, rfl⟩
  refine Op_ [(0, pt x), (1, nt a), (2, nt n), (20, nt n), (24, sl_ b10 o10 ds.length cap), (25, nt a)] <| Oq (u := nt a) (v := nt (j7 : Int)) 25 (by rw [hj7]) <| Oi (b := b10) (o := o10) (len := ds.length) (cap := cap) (j := j7) (some 26) 57 (.tmp 24) (.tmp 25) 56 3 40 .i64 <| On 8 [0, 1, 2, 20, 27] ?_
  obtain ⟨x13, hx14⟩ : ∃ x, ds[j7]? = some x := ⟨_, List.getElem?_eq_getElem (by first | omega | (simp only [List.length_map]; omega))⟩
  obtain ⟨f15, g15, A15, c15, l15⟩ := x13
  obtain ⟨hls15, hsl15, hso15⟩ := hall j7 _ hx14
  replace hls15 : l15 = rowL (j7 : Int) cs := hls15
  replace hsl15 : SlT w 2 lkc A15 c15 l15 := hsl15
  replace hso15 : ∀ q, inA A15 q → _ := hso15
  obtain ⟨hbf15, hbh15, hbt15, _⟩ := hinv.at_ (de_at hacc hx14)
  replace hbf15 : 0 ≤ f15 := hbf15
  replace hbh15 : 0 ≤ g15 := hbh15
  replace hbt15 : f15 + g15 ≤ 1073741824 := hbt15
  have hsw15 : ∀ q, inA A15 q → q ≠ x ∧ q ≠ b10 ∧ q < w.heap.size := fun q hq => ⟨(hso15 q hq).2.1, fun e => (hso15 q hq).2.2 ⟨_, rfl, e⟩, hFlt q (hso15 q hq).1⟩
  have hsx15 := SlT.lt hsl15
  have hac_a : acct xs a = ⟨f15, g15⟩ := by rw [hj7]; exact de_acct hacc hx14 hjl7
  refine Lc (o10 + j7 * 3) (nt f15) hat10.blk (At.cell0 hat10 (es_at hx14) rfl) <| Oen [0, 1, 2, 19] <| Vi (n > f15) (fun hc16 => ?_) (fun hc16 => ?_)
  ·
   exact Vn [6] <| V_ret <| X_ret_block <| X_ret_then <| Xr (nt 6) ⟨by unfold spendsE; simp_all <;> omega, hK0⟩
  refine V_seq <| Vd1 (acts [15]) none_ [0, 1, 2, 13, 14, 15, 3, 4, 5, 6, 7, 8, 9, 10, 11, 12, 16, 17, 18] fun w18 hk17 he19 K22 _ => ?_
  replace hx := hx.k0 hk17
  replace hat10 := hat10.keep hk17 id
  replace h9 := DLd.keep h9 hk17 nk
  replace hK0 := hK0.tn hk17
  have qhx := hx
  have qhat10 := hat10
  refine Gn [13, 14, 15, 3, 4, 5, 6, 7, 8, 9, 10, 11, 12, 16, 17, 18] [0, 1, 2, 33] ?_
  by_cases hg23 : n > 0
  ·
   refine Et 33 hg23 <| Gn [15, 3, 4, 5, 6, 7, 8, 9, 10, 11, 12, 16, 17, 18] [0, 1, 2, 33, 44, 45] <| Hg (locked6_spec F x xs cs a _ h9) ?_
   rintro _ w24 ⟨rfl, hk25⟩
   have K26 := K22.tr (Keep.ofNone hk25)
   refine ⟨_, rfl, K26, ?_⟩
   have hzK26 := Keep.size K26
   have hsz27 := Keep.size hk25
   replace hK0 := hK0.tn hk25
   refine Gn [6, 7, 8, 9, 10, 11, 12, 16, 17, 18] [1, 2, 33, 36, 46] <| Mr 0 (sl_ b10 o10 ds.length cap) qhx <| Gn [8, 9, 10, 11, 12, 16, 17, 18] [2, 33, 37, 38, 46] <| Gp_ [(2, nt n), (33, .bool true), (37, sl_ b10 o10 ds.length cap), (38, nt a), (46, nt (lockedL cs a))] <| Gq_ (u := nt a) (v := nt (j7 : Int)) 38 (by rw [hj7]) <| GI_pure (some 39) (.indexAddr 57 (.tmp 37) (.tmp 38)) (by kernel_rfl) (by kernel_rfl) (pure_idxN (b := b10) (o := o10) (len := ds.length) (cap := cap) (kd := .i64) (j := j7) (E := 56) (sz := 3) (by_ := 40) (by kernel_rfl) (by kernel_rfl) (by kernel_rfl) (by omega)) <| Gn [10, 11, 12, 16, 17, 18] [2, 33, 40, 46] <| Mc0 (o10 + j7 * 3) (nt f15) qhat10.blk (At.cell0 qhat10 (es_at hx14) rfl) ?_
   have hw28 : IntKind.i64.wrap (f15 - n) = f15 - n := (wrap64_id (by omega) (by omega)).trans (by omega)
   refine Gn [16, 17, 18] [33, 43, 46] <| Gq_ (u := nt (IntKind.i64.wrap (f15 - n))) (v := nt (f15 - n)) 43 (by rw [hw28]) <| Gn [] [30] <| GI_end <| X_then <| Vi (f15 - n < lockedL cs a) (fun hc29 => ?_) (fun hc29 => ?_)
   ·
    exact Vn [6] <| V_ret <| X_ret_block <| X_ret_then <| Xr (nt 7) ⟨by unfold spendsE; simp_all <;> omega, hK0⟩
   exact V_skip <| X_block <| X_then <| Vn [6] <| Rr (nt 0) ⟨by unfold spendsE; simp_all <;> omega, hK0⟩
  exact Ef 33 hg23 <| Gn [] [30] <| GI_end <| X_then <| Vf <| V_skip <| X_block <| X_then <| Vn [6] <| Rr (nt 0) ⟨by unfold spendsE; simp_all <;> omega, hK0⟩
 exact OI_eq [(0, pt x), (1, nt a), (2, nt n), (11, .bool true)] (by first | rfl | rw [hg6]) <| Oen [0, 1, 2, 7] <| Vo <| Vn [6] <| V_ret <| X_ret_block <| X_ret_then <| Xr (nt 1) ⟨by unfold spendsE; simp_all <;> omega, hK0⟩
end Go.Al

namespace Go.Al
open Go Go.RowKit Go.Proofs
theorem spends_7 {xs : List Acc} {cs : List Ci} {a n : Int} (h : spendsE xs cs a n = 7) : isA a = true ∧ 0 ≤ n ∧ n ≤ 1073741824 ∧ n ≤ (acct xs a).free := by
  unfold spendsE at h
  split at h
  · cases h
  · rename_i h1
    split at h
    · cases h
    · rename_i h2
      simp only [not_or, Bool.not_eq_false, Classical.not_not] at h1
      exact ⟨h1.1, h1.2.1, h1.2.2, by omega⟩
theorem same_moved {xs : List Acc} {j : Nat} {f g n : Int} (h : xs[j]? = some ⟨f, g⟩) : (xs.set j ⟨f - n, g⟩).set j ⟨f - n + n, g⟩ = xs := by
  obtain ⟨h1, h2⟩ := List.getElem?_eq_some_iff.1 h
  rw [List.set_set, show f - n + n = f by omega, ← h2, List.set_getElem_self]
theorem subH_0 {xs : List Acc} (hi : Inv xs) (a : Int) (hA : isA a = true) : subH xs a 0 = xs := by
  unfold subH setA
  by_cases ha : isA a = true
  · obtain ⟨j, x, rfl, hj, hx, he⟩ := isA_some hi ha
    obtain ⟨h1, h2⟩ := List.getElem?_eq_some_iff.1 hx
    rw [he, Int.toNat_natCast, Int.sub_zero, ← h2, List.set_getElem_self]
  · exact absurd hA ha
set_option maxHeartbeats 1000000 in
theorem transfer6_spec (F : Nat → Prop) (x : Nat) (xs : List Acc) (cs : List Ci) (a b n : Int) (w : World) (h : DLd F w x xs cs) : Calls Try.prog 40 #[pt x, nt a, nt b, nt n] w fun e w' => e = .returned (nt (transE xs cs a b n)) ∧ (∃ F', DLd F' w' x (transX xs cs a b n) (cs) ∧ (∀ q, F' q → F q ∨ w.heap.size ≤ q)) ∧ Keep F w w' := by
 have hFlt := DLd.lt h
 have hxlt := hFlt _ (DLd.at_ h)
 have hinv := DLd.inv h
 have htot1 := hinv.2.2
 have htot0 := (tot_mem hinv.2.1).1
 have hF0 : ∀ q, F q → F q ∨ w.heap.size ≤ q := fun _ h => .inl h
 have hK0 : Keep F w w := Keep.refl _ _
 have hzhK0 := Keep.size hK0
 refine eV ?_
 refine Vr <| On 1 [0, 1, 2, 3] <| Oe <| V_seq <| Vr <| On 1 [0, 1, 2, 3, 10] <| Kq (is6_spec b _) <| Oen [0, 1, 2, 3, 12] <| Vb (!(isA b)) (fun hc6 => ?_) (fun hc6 => ?_)
 ·
  exact Vn [8] <| Rt <| Xr (nt 1) ⟨by unfold transE; simp_all, ⟨F, by rw [show transX xs cs a b n = xs from by unfold transX; simp_all]; exact h, hF0⟩, hK0⟩
 refine Vsk <| Vr <| On 3 [0, 1, 2, 3, 13, 14, 15] <| Kk (may6_spec F x xs cs a n _ h) fun w7 hk8 _ => ?_
 replace h := DLd.keep h hk8 nk
 replace hK0 := hK0.tn hk8
 refine On 5 [0, 1, 2, 3, 9] <| Oe <| V_seq <| Vr <| On 4 [0, 1, 2, 3, 9, 20] ?_
 by_cases hg10 : a = b
 ·
  refine Dt 20 hg10 <| Oen [0, 1, 2, 3, 9, 23] <| Vi (spendsE xs cs a n = 7) (fun hc11 => ?_) (fun hc11 => ?_)
  ·
   obtain ⟨hsa, hn1, hn2, hn3⟩ := spends_7 hc11
   obtain ⟨_, hcl, hFx, _, A, cap, ds, hdx⟩ := h
   have hx := hdx.blk
   have hA := hdx.sl
   have hacc := hdx.acc
   have hall := hdx.all
   have hAx : ∀ q, inA A q → q ≠ x := fun q hq => (hdx.own q hq).2
   have hAlt := SlT.lt hA
   have hdl := de_len hacc hinv
   have hcl1 := hcl.1
   have hFlt9 : ∀ q, F q → q < w7.heap.size := fun q hq => Nat.lt_of_lt_of_le (hFlt q hq) (by omega)
   obtain ⟨j12, hj12, hjl12⟩ : ∃ j : Nat, a = j ∧ j < 10 := ⟨(a).toNat, by have h9 := hsa; simp only [isA, decide_eq_true_eq] at h9; omega, by have h9 := hsa; simp only [isA, decide_eq_true_eq] at h9; omega⟩
   have hjb : b = j12 := hg10 ▸ hj12
   refine V_region <| On 1 [0, 1, 2, 3, 9] <| Oe <| V_seq <| Vn [0, 1, 2, 3, 9, 25] <| Vf <| Vsk <| V_seq ?_
   have h10 : 0 < ds.length := by omega
   obtain ⟨b13, o13, L13, T13, rfl, hat13⟩ := SlT.open_ hA (by first | omega | (simp only [List.length_map]; omega) | (simp; done) | (simp; omega))
   have hb13lt := hat13.blk.lt
   have hob14 := hAx b13 ⟨_, rfl, rfl⟩
   have hob15 := hAlt b13 ⟨_, rfl, rfl⟩
   have hFb13 : b13 < w.heap.size := hFlt _ (hdx.own _ ⟨_, rfl, rfl⟩).1
   refine Vd1 (acts [12, 17]) (only b13) [5, 6, 7, 8, 9, 10, 11, 12, 0, 1, 2, 3, 4, 13, 14, 15, 16, 17] fun w17 hk16 he18 K21 _ => ?_
   replace hx := hx.k0 hk16
   replace hat13 := hat13.keep hk16 id
   replace hK0 := hK0.tn hk16
   replace hall := DAll.keep hall hk16 (fun _ _ _ _ f => f)
   have qhx := hx
   refine Gn [8, 9, 10, 11, 12, 0, 1, 2, 3, 4, 13, 14, 15, 16, 17] [0, 1, 2, 3, 34] <| Mc 0 (sl_ b13 o13 ds.length cap) qhx (by show ¬ (_ = _); omega) rfl <| Gn [10, 11, 12, 0, 1, 2, 3, 4, 13, 14, 15, 16, 17] [0, 1, 2, 3, 35, 36] <| Gp_ [(0, pt x), (1, nt a), (2, nt b), (3, nt n), (35, sl_ b13 o13 ds.length cap), (36, nt a)] <| Gq_ (u := nt a) (v := nt (j12 : Int)) 36 (by rw [hj12]) <| GI_pure (some 37) (.indexAddr 57 (.tmp 35) (.tmp 36)) (by kernel_rfl) (by kernel_rfl) (pure_idxN (b := b13) (o := o13) (len := ds.length) (cap := cap) (kd := .i64) (j := j12) (E := 56) (sz := 3) (by_ := 40) (by kernel_rfl) (by kernel_rfl) (by kernel_rfl) (by omega)) <| Gn [12, 0, 1, 2, 3, 4, 13, 14, 15, 16, 17] [0, 1, 2, 3, 38] ?_
   obtain ⟨x22, hx23⟩ : ∃ x, ds[j12]? = some x := ⟨_, List.getElem?_eq_getElem (by first | omega | (simp only [List.length_map]; omega))⟩
   obtain ⟨f24, g24, A24, c24, l24⟩ := x22
   obtain ⟨hls24, hsl24, hso24⟩ := hall j12 _ hx23
   replace hls24 : l24 = rowL (j12 : Int) cs := hls24
   replace hsl24 : SlT w17 2 lkc A24 c24 l24 := hsl24
   replace hso24 : ∀ q, inA A24 q → _ := hso24
   obtain ⟨hbf24, hbh24, hbt24, _⟩ := hinv.at_ (de_at hacc hx23)
   replace hbf24 : 0 ≤ f24 := hbf24
   replace hbh24 : 0 ≤ g24 := hbh24
   replace hbt24 : f24 + g24 ≤ 1073741824 := hbt24
   have hsw24 : ∀ q, inA A24 q → q ≠ x ∧ q ≠ b13 ∧ q < w.heap.size := fun q hq => ⟨(hso24 q hq).2.1, fun e => (hso24 q hq).2.2 ⟨_, rfl, e⟩, hFlt q (hso24 q hq).1⟩
   have hsx24 := SlT.lt hsl24
   have hac_a : acct xs a = ⟨f24, g24⟩ := by rw [hj12]; exact de_acct hacc hx23 hjl12
   have hac_b : acct xs b = ⟨f24, g24⟩ := by rw [hjb]; exact de_acct hacc hx23 hjl12
   rw [hac_a] at hn3; replace hn3 : n ≤ f24 := hn3
   refine GI_cellA 3 (.tmp 38) (o13 + j12 * 3) (nt f24) (some 39) (by kernel_rfl) (by kernel_rfl) K21 (by kernel_rfl) hat13.blk (m := 1) (by kernel_rfl) (At.cell0 hat13 (es_at hx23) rfl) <| Gn [3, 4, 13, 14, 15, 16, 17] [0, 1, 2, 3, 29, 39] <| Mc 0 (sl_ b13 o13 ds.length cap) qhx (by show ¬ (_ = _); omega) rfl ?_
   have hw25 : IntKind.i64.wrap (f24 - n) = f24 - n := (wrap64_id (by omega) (by omega)).trans (by omega)
   refine Gs [15, 16, 17] [(0, pt x), (2, nt b), (3, nt n), (30, sl_ b13 o13 ds.length cap), (31, nt a), (41, nt (IntKind.i64.wrap (f24 - n)))] <| Gq_ (u := nt (IntKind.i64.wrap (f24 - n))) (v := nt (f24 - n)) 41 (by rw [hw25]) <| Gp_ [(0, pt x), (2, nt b), (3, nt n), (30, sl_ b13 o13 ds.length cap), (31, nt a), (41, nt (f24 - n))] <| Gq_ (u := nt a) (v := nt (j12 : Int)) 31 (by rw [hj12]) <| GI_pure (some 42) (.indexAddr 57 (.tmp 30) (.tmp 31)) (by kernel_rfl) (by kernel_rfl) (pure_idxN (b := b13) (o := o13) (len := ds.length) (cap := cap) (kd := .i64) (j := j12) (E := 56) (sz := 3) (by_ := 40) (by kernel_rfl) (by kernel_rfl) (by kernel_rfl) (by omega)) <| Gn [17] [0, 2, 3, 41, 43] <| GI_final 17 (by kernel_rfl) (by kernel_rfl) <| OI_set (m := 1) (kd := false) 3 (.tmp 43) (.tmp 41) (o13 + j12 * 3) (nt (f24 - n)) [nt (f24 - n)] none (by kernel_rfl) (by kernel_rfl) (by kernel_rfl) (At.blk hat13) (by kernel_rfl) (by kernel_rfl) rfl (by have h1 := At.room hat13; have h2 := At.le hat13; rw [List.length_map] at h2; omega) (by simp [Value.oneCell']) ?_
   intro w26 hn27 hk28 hz29
   have hat30 := At.set (y := (DE.mk (f24 - n) g24 A24 c24 l24 : DE)) (k := 0) hat13 hx23 (by omega) (by simp [DE.cells, over]) hn27
   have hsz31 := Keep.size hk28
   replace hx := hx.k1 hk28
   replace hK0 := Keep.fresh hK0 hk28 (by intro i hi hs; have hs2 : i = b13 := hs; first | (exfalso; omega) | (rw [hs2]; exact (hdx.own _ ⟨_, rfl, rfl⟩).1))
   replace hall := DAll.keep hall hk28 (fun q h1 h2 h3 hs => by have hs : q = b13 := hs; exact h3 (hs ▸ ⟨_, rfl, rfl⟩))
   have hlhx32 : (ds.set j12 (DE.mk (f24 - n) g24 A24 c24 l24)).length = ds.length := List.length_set
   have hx32 : (ds.set j12 (DE.mk (f24 - n) g24 A24 c24 l24))[j12]? = some (DE.mk (f24 - n) g24 A24 c24 l24) := by rw [List.getElem?_set_self (List.getElem?_eq_some_iff.1 hx23).1]
   have hst33 := de_at hacc hx23
   have ht33 : tot (xs.set j12 (Acc.mk (f24 - n) g24)) = tot xs + ((f24 - n) + g24) - (f24 + g24) := tot_set _ hst33
   have hinv33 : Inv (xs.set j12 (Acc.mk (f24 - n) g24)) := Inv.set hinv hst33 _ (by show 0 ≤ (f24 - n); omega) (by show 0 ≤ g24; omega) (by show tot xs + ((f24 - n) + g24) - (f24 + g24) ≤ 1073741824; omega)
   replace hacc := map_set (j := j12) hacc (f24 - n) g24 A24 c24 l24
   replace hall := DAll.set hall hx23 (f24 - n) g24
   refine Oe <| V_seq <| Vd1 (acts [12, 17]) (only b13) [5, 6, 7, 8, 9, 10, 11, 12, 0, 1, 2, 3, 4, 13, 14, 15, 16, 17] fun w35 hk34 he36 K39 _ => ?_
   replace hx := hx.k0 hk34
   replace hat30 := hat30.keep hk34 id
   replace hK0 := hK0.tn hk34
   replace hall := DAll.keep hall hk34 (fun _ _ _ _ f => f)
   have qhx := hx
   refine Gn [8, 9, 10, 11, 12, 0, 1, 2, 3, 4, 13, 14, 15, 16, 17] [0, 2, 3, 51] <| Mc 0 (sl_ b13 o13 ds.length cap) qhx (by show ¬ (_ = _); omega) rfl <| Gn [10, 11, 12, 0, 1, 2, 3, 4, 13, 14, 15, 16, 17] [0, 2, 3, 52, 53] <| Gp_ [(0, pt x), (2, nt b), (3, nt n), (52, sl_ b13 o13 ds.length cap), (53, nt b)] <| Gq_ (u := nt b) (v := nt (j12 : Int)) 53 (by rw [hjb]) <| GI_pure (some 54) (.indexAddr 57 (.tmp 52) (.tmp 53)) (by kernel_rfl) (by kernel_rfl) (pure_idxN (b := b13) (o := o13) (len := ds.length) (cap := cap) (kd := .i64) (j := j12) (E := 56) (sz := 3) (by_ := 40) (by kernel_rfl) (by kernel_rfl) (by kernel_rfl) (by omega)) <| Gn [12, 0, 1, 2, 3, 4, 13, 14, 15, 16, 17] [0, 2, 3, 55] <| GI_cellA 3 (.tmp 55) (o13 + j12 * 3) (nt (f24 - n)) (some 56) (by kernel_rfl) (by kernel_rfl) K39 (by kernel_rfl) hat30.blk (m := 1) (by kernel_rfl) (At.cell0 hat30 (es_at hx32) rfl) <| Gn [3, 4, 13, 14, 15, 16, 17] [2, 3, 46, 56] <| Mc 0 (sl_ b13 o13 ds.length cap) qhx (by show ¬ (_ = _); omega) rfl ?_
   have hw40 : IntKind.i64.wrap ((f24 - n) + n) = (f24 - n) + n := (wrap64_id (by omega) (by omega)).trans (by omega)
   refine Gs [15, 16, 17] [(47, sl_ b13 o13 ds.length cap), (48, nt b), (58, nt (IntKind.i64.wrap ((f24 - n) + n)))] <| Gq_ (u := nt (IntKind.i64.wrap ((f24 - n) + n))) (v := nt ((f24 - n) + n)) 58 (by rw [hw40]) <| Gp_ [(47, sl_ b13 o13 ds.length cap), (48, nt b), (58, nt ((f24 - n) + n))] <| Gq_ (u := nt b) (v := nt (j12 : Int)) 48 (by rw [hjb]) <| GI_pure (some 59) (.indexAddr 57 (.tmp 47) (.tmp 48)) (by kernel_rfl) (by kernel_rfl) (pure_idxN (b := b13) (o := o13) (len := ds.length) (cap := cap) (kd := .i64) (j := j12) (E := 56) (sz := 3) (by_ := 40) (by kernel_rfl) (by kernel_rfl) (by kernel_rfl) (by omega)) <| Gn [17] [58, 60] <| GI_final 17 (by kernel_rfl) (by kernel_rfl) <| OI_set (m := 1) (kd := false) 3 (.tmp 60) (.tmp 58) (o13 + j12 * 3) (nt ((f24 - n) + n)) [nt ((f24 - n) + n)] none (by kernel_rfl) (by kernel_rfl) (by kernel_rfl) (At.blk hat30) (by kernel_rfl) (by kernel_rfl) rfl (by have h1 := At.room hat30; have h2 := At.le hat30; rw [List.length_map] at h2; omega) (by simp [Value.oneCell']) ?_
   intro w41 hn42 hk43 hz44
   have hat45 := At.set (y := (DE.mk ((f24 - n) + n) g24 A24 c24 l24 : DE)) (k := 0) hat30 hx32 (by omega) (by simp [DE.cells, over]) hn42
   have hsz46 := Keep.size hk43
   replace hx := hx.k1 hk43
   replace hK0 := Keep.fresh hK0 hk43 (by intro i hi hs; have hs2 : i = b13 := hs; first | (exfalso; omega) | (rw [hs2]; exact (hdx.own _ ⟨_, rfl, rfl⟩).1))
   replace hall := DAll.keep hall hk43 (fun q h1 h2 h3 hs => by have hs : q = b13 := hs; exact h3 (hs ▸ ⟨_, rfl, rfl⟩))
   have hlhx47 : ((ds.set j12 (DE.mk (f24 - n) g24 A24 c24 l24)).set j12 (DE.mk ((f24 - n) + n) g24 A24 c24 l24)).length = (ds.set j12 (DE.mk (f24 - n) g24 A24 c24 l24)).length := List.length_set
   have hx47 : ((ds.set j12 (DE.mk (f24 - n) g24 A24 c24 l24)).set j12 (DE.mk ((f24 - n) + n) g24 A24 c24 l24))[j12]? = some (DE.mk ((f24 - n) + n) g24 A24 c24 l24) := by rw [List.getElem?_set_self (List.getElem?_eq_some_iff.1 hx32).1]
   have hst48 := de_at hacc hx32
   have ht48 : tot ((xs.set j12 (Acc.mk (f24 - n) g24)).set j12 (Acc.mk ((f24 - n) + n) g24)) = tot (xs.set j12 (Acc.mk (f24 - n) g24)) + (((f24 - n) + n) + g24) - ((f24 - n) + g24) := tot_set _ hst48
   have hinv48 : Inv ((xs.set j12 (Acc.mk (f24 - n) g24)).set j12 (Acc.mk ((f24 - n) + n) g24)) := Inv.set hinv33 hst48 _ (by show 0 ≤ ((f24 - n) + n); omega) (by show 0 ≤ g24; omega) (by show tot (xs.set j12 (Acc.mk (f24 - n) g24)) + (((f24 - n) + n) + g24) - ((f24 - n) + g24) ≤ 1073741824; omega)
   replace hacc := map_set (j := j12) hacc ((f24 - n) + n) g24 A24 c24 l24
   replace hall := DAll.set hall hx32 ((f24 - n) + n) g24
   exact Oer <| Oen [8] <| Rr (nt 0) ⟨by unfold transE; simp_all, ⟨F, by rw [show transX xs cs a b n = ((xs.set j12 (Acc.mk (f24 - n) g24)).set j12 (Acc.mk ((f24 - n) + n) g24)) from (show transX xs cs a b n = xs from by unfold transX; rw [hc11, if_neg (by rintro ⟨_, h⟩; cases h)]).trans (same_moved hst33).symm]; exact ⟨hinv48, hcl, hFx, fun q hq => Nat.lt_of_lt_of_le (hFlt q hq) (by omega), _, _, _, ⟨by simp only [List.length_set]; exact hx, At.slt hat45, hdx.own, hacc, hall⟩⟩, hF0⟩, hK0⟩
  refine Vsk <| V_seq <| Vn [0, 1, 2, 3, 9, 25] <| V_not (spendsE xs cs a n = 0) (by kernel_rfl) (fun hc49 => ?_) (fun hc49 => ?_)
  ·
   exact Vn [8] <| Rt <| Xr (nt (spendsE xs cs a n)) ⟨by unfold transE; simp_all, ⟨F, by rw [show transX xs cs a b n = xs from by unfold transX; simp_all]; exact h, hF0⟩, hK0⟩
  obtain ⟨hsa, hn1, hn2, hn3, _⟩ := spends_ok hinv hc49
  obtain ⟨_, hcl, hFx, _, A, cap, ds, hdx⟩ := h
  have hx := hdx.blk
  have hA := hdx.sl
  have hacc := hdx.acc
  have hall := hdx.all
  have hAx : ∀ q, inA A q → q ≠ x := fun q hq => (hdx.own q hq).2
  have hAlt := SlT.lt hA
  have hdl := de_len hacc hinv
  have hcl1 := hcl.1
  have hFlt9 : ∀ q, F q → q < w7.heap.size := fun q hq => Nat.lt_of_lt_of_le (hFlt q hq) (by omega)
  obtain ⟨j50, hj50, hjl50⟩ : ∃ j : Nat, a = j ∧ j < 10 := ⟨(a).toNat, by have h9 := hsa; simp only [isA, decide_eq_true_eq] at h9; omega, by have h9 := hsa; simp only [isA, decide_eq_true_eq] at h9; omega⟩
  have hiab : isA b = true := by simpa using hc6
  obtain ⟨j51, hj51, hjl51⟩ : ∃ j : Nat, b = j ∧ j < 10 := ⟨(b).toNat, by have h9 := hiab; simp only [isA, decide_eq_true_eq] at h9; omega, by have h9 := hiab; simp only [isA, decide_eq_true_eq] at h9; omega⟩
  refine Vsk <| V_seq ?_
  have h10 : 0 < ds.length := by omega
  obtain ⟨b52, o52, L52, T52, rfl, hat52⟩ := SlT.open_ hA (by first | omega | (simp only [List.length_map]; omega) | (simp; done) | (simp; omega))
  have hb52lt := hat52.blk.lt
  have hob53 := hAx b52 ⟨_, rfl, rfl⟩
  have hob54 := hAlt b52 ⟨_, rfl, rfl⟩
  have hFb52 : b52 < w.heap.size := hFlt _ (hdx.own _ ⟨_, rfl, rfl⟩).1
  refine Vd1 (acts [12, 17]) (only b52) [5, 6, 7, 8, 9, 10, 11, 12, 0, 1, 2, 3, 4, 13, 14, 15, 16, 17] fun w56 hk55 he57 K60 _ => ?_
  replace hx := hx.k0 hk55
  replace hat52 := hat52.keep hk55 id
  replace hK0 := hK0.tn hk55
  replace hall := DAll.keep hall hk55 (fun _ _ _ _ f => f)
  have qhx := hx
  refine Gn [8, 9, 10, 11, 12, 0, 1, 2, 3, 4, 13, 14, 15, 16, 17] [0, 1, 2, 3, 34] <| Mc 0 (sl_ b52 o52 ds.length cap) qhx (by show ¬ (_ = _); omega) rfl <| Gn [10, 11, 12, 0, 1, 2, 3, 4, 13, 14, 15, 16, 17] [0, 1, 2, 3, 35, 36] <| Gp_ [(0, pt x), (1, nt a), (2, nt b), (3, nt n), (35, sl_ b52 o52 ds.length cap), (36, nt a)] <| Gq_ (u := nt a) (v := nt (j50 : Int)) 36 (by rw [hj50]) <| GI_pure (some 37) (.indexAddr 57 (.tmp 35) (.tmp 36)) (by kernel_rfl) (by kernel_rfl) (pure_idxN (b := b52) (o := o52) (len := ds.length) (cap := cap) (kd := .i64) (j := j50) (E := 56) (sz := 3) (by_ := 40) (by kernel_rfl) (by kernel_rfl) (by kernel_rfl) (by omega)) <| Gn [12, 0, 1, 2, 3, 4, 13, 14, 15, 16, 17] [0, 1, 2, 3, 38] ?_
  obtain ⟨x61, hx62⟩ : ∃ x, ds[j50]? = some x := ⟨_, List.getElem?_eq_getElem (by first | omega | (simp only [List.length_map]; omega))⟩
  obtain ⟨f63, g63, A63, c63, l63⟩ := x61
  obtain ⟨hls63, hsl63, hso63⟩ := hall j50 _ hx62
  replace hls63 : l63 = rowL (j50 : Int) cs := hls63
  replace hsl63 : SlT w56 2 lkc A63 c63 l63 := hsl63
  replace hso63 : ∀ q, inA A63 q → _ := hso63
  obtain ⟨hbf63, hbh63, hbt63, _⟩ := hinv.at_ (de_at hacc hx62)
  replace hbf63 : 0 ≤ f63 := hbf63
  replace hbh63 : 0 ≤ g63 := hbh63
  replace hbt63 : f63 + g63 ≤ 1073741824 := hbt63
  have hsw63 : ∀ q, inA A63 q → q ≠ x ∧ q ≠ b52 ∧ q < w.heap.size := fun q hq => ⟨(hso63 q hq).2.1, fun e => (hso63 q hq).2.2 ⟨_, rfl, e⟩, hFlt q (hso63 q hq).1⟩
  have hsx63 := SlT.lt hsl63
  have hac_a : acct xs a = ⟨f63, g63⟩ := by rw [hj50]; exact de_acct hacc hx62 hjl50
  rw [hac_a] at hn3; replace hn3 : n ≤ f63 := hn3
  refine GI_cellA 3 (.tmp 38) (o52 + j50 * 3) (nt f63) (some 39) (by kernel_rfl) (by kernel_rfl) K60 (by kernel_rfl) hat52.blk (m := 1) (by kernel_rfl) (At.cell0 hat52 (es_at hx62) rfl) <| Gn [3, 4, 13, 14, 15, 16, 17] [0, 1, 2, 3, 29, 39] <| Mc 0 (sl_ b52 o52 ds.length cap) qhx (by show ¬ (_ = _); omega) rfl ?_
  have hw64 : IntKind.i64.wrap (f63 - n) = f63 - n := (wrap64_id (by omega) (by omega)).trans (by omega)
  refine Gs [15, 16, 17] [(0, pt x), (2, nt b), (3, nt n), (30, sl_ b52 o52 ds.length cap), (31, nt a), (41, nt (IntKind.i64.wrap (f63 - n)))] <| Gq_ (u := nt (IntKind.i64.wrap (f63 - n))) (v := nt (f63 - n)) 41 (by rw [hw64]) <| Gp_ [(0, pt x), (2, nt b), (3, nt n), (30, sl_ b52 o52 ds.length cap), (31, nt a), (41, nt (f63 - n))] <| Gq_ (u := nt a) (v := nt (j50 : Int)) 31 (by rw [hj50]) <| GI_pure (some 42) (.indexAddr 57 (.tmp 30) (.tmp 31)) (by kernel_rfl) (by kernel_rfl) (pure_idxN (b := b52) (o := o52) (len := ds.length) (cap := cap) (kd := .i64) (j := j50) (E := 56) (sz := 3) (by_ := 40) (by kernel_rfl) (by kernel_rfl) (by kernel_rfl) (by omega)) <| Gn [17] [0, 2, 3, 41, 43] <| GI_final 17 (by kernel_rfl) (by kernel_rfl) <| OI_set (m := 1) (kd := false) 3 (.tmp 43) (.tmp 41) (o52 + j50 * 3) (nt (f63 - n)) [nt (f63 - n)] none (by kernel_rfl) (by kernel_rfl) (by kernel_rfl) (At.blk hat52) (by kernel_rfl) (by kernel_rfl) rfl (by have h1 := At.room hat52; have h2 := At.le hat52; rw [List.length_map] at h2; omega) (by simp [Value.oneCell']) ?_
  intro w65 hn66 hk67 hz68
  have hat69 := At.set (y := (DE.mk (f63 - n) g63 A63 c63 l63 : DE)) (k := 0) hat52 hx62 (by omega) (by simp [DE.cells, over]) hn66
  have hsz70 := Keep.size hk67
  replace hx := hx.k1 hk67
  replace hK0 := Keep.fresh hK0 hk67 (by intro i hi hs; have hs2 : i = b52 := hs; first | (exfalso; omega) | (rw [hs2]; exact (hdx.own _ ⟨_, rfl, rfl⟩).1))
  replace hall := DAll.keep hall hk67 (fun q h1 h2 h3 hs => by have hs : q = b52 := hs; exact h3 (hs ▸ ⟨_, rfl, rfl⟩))
  have hlhx71 : (ds.set j50 (DE.mk (f63 - n) g63 A63 c63 l63)).length = ds.length := List.length_set
  have hx71 : (ds.set j50 (DE.mk (f63 - n) g63 A63 c63 l63))[j50]? = some (DE.mk (f63 - n) g63 A63 c63 l63) := by rw [List.getElem?_set_self (List.getElem?_eq_some_iff.1 hx62).1]
  have hst72 := de_at hacc hx62
  have ht72 : tot (xs.set j50 (Acc.mk (f63 - n) g63)) = tot xs + ((f63 - n) + g63) - (f63 + g63) := tot_set _ hst72
  have hinv72 : Inv (xs.set j50 (Acc.mk (f63 - n) g63)) := Inv.set hinv hst72 _ (by show 0 ≤ (f63 - n); omega) (by show 0 ≤ g63; omega) (by show tot xs + ((f63 - n) + g63) - (f63 + g63) ≤ 1073741824; omega)
  replace hacc := map_set (j := j50) hacc (f63 - n) g63 A63 c63 l63
  replace hall := DAll.set hall hx62 (f63 - n) g63
  refine Oe <| V_seq <| Vd1 (acts [12, 17]) (only b52) [5, 6, 7, 8, 9, 10, 11, 12, 0, 1, 2, 3, 4, 13, 14, 15, 16, 17] fun w74 hk73 he75 K78 _ => ?_
  replace hx := hx.k0 hk73
  replace hat69 := hat69.keep hk73 id
  replace hK0 := hK0.tn hk73
  replace hall := DAll.keep hall hk73 (fun _ _ _ _ f => f)
  have qhx := hx
  refine Gn [8, 9, 10, 11, 12, 0, 1, 2, 3, 4, 13, 14, 15, 16, 17] [0, 2, 3, 51] <| Mc 0 (sl_ b52 o52 ds.length cap) qhx (by show ¬ (_ = _); omega) rfl <| Gn [10, 11, 12, 0, 1, 2, 3, 4, 13, 14, 15, 16, 17] [0, 2, 3, 52, 53] <| Gp_ [(0, pt x), (2, nt b), (3, nt n), (52, sl_ b52 o52 ds.length cap), (53, nt b)] <| Gq_ (u := nt b) (v := nt (j51 : Int)) 53 (by rw [hj51]) <| GI_pure (some 54) (.indexAddr 57 (.tmp 52) (.tmp 53)) (by kernel_rfl) (by kernel_rfl) (pure_idxN (b := b52) (o := o52) (len := ds.length) (cap := cap) (kd := .i64) (j := j51) (E := 56) (sz := 3) (by_ := 40) (by kernel_rfl) (by kernel_rfl) (by kernel_rfl) (by omega)) <| Gn [12, 0, 1, 2, 3, 4, 13, 14, 15, 16, 17] [0, 2, 3, 55] ?_
  obtain ⟨x79, hx80⟩ : ∃ x, (ds.set j50 (DE.mk (f63 - n) g63 A63 c63 l63))[j51]? = some x := ⟨_, List.getElem?_eq_getElem (by first | omega | (simp only [List.length_map]; omega))⟩
  obtain ⟨f81, g81, A81, c81, l81⟩ := x79
  obtain ⟨hls81, hsl81, hso81⟩ := hall j51 _ hx80
  replace hls81 : l81 = rowL (j51 : Int) cs := hls81
  replace hsl81 : SlT w74 2 lkc A81 c81 l81 := hsl81
  replace hso81 : ∀ q, inA A81 q → _ := hso81
  obtain ⟨hbf81, hbh81, hbt81, _⟩ := hinv72.at_ (de_at hacc hx80)
  replace hbf81 : 0 ≤ f81 := hbf81
  replace hbh81 : 0 ≤ g81 := hbh81
  replace hbt81 : f81 + g81 ≤ 1073741824 := hbt81
  have hsw81 : ∀ q, inA A81 q → q ≠ x ∧ q ≠ b52 ∧ q < w.heap.size := fun q hq => ⟨(hso81 q hq).2.1, fun e => (hso81 q hq).2.2 ⟨_, rfl, e⟩, hFlt q (hso81 q hq).1⟩
  have hsx81 := SlT.lt hsl81
  refine GI_cellA 3 (.tmp 55) (o52 + j51 * 3) (nt f81) (some 56) (by kernel_rfl) (by kernel_rfl) K78 (by kernel_rfl) hat69.blk (m := 1) (by kernel_rfl) (At.cell0 hat69 (es_at hx80) rfl) <| Gn [3, 4, 13, 14, 15, 16, 17] [2, 3, 46, 56] <| Mc 0 (sl_ b52 o52 ds.length cap) qhx (by show ¬ (_ = _); omega) rfl ?_
  have hw82 : IntKind.i64.wrap (f81 + n) = f81 + n := (wrap64_id (by omega) (by omega)).trans (by omega)
  refine Gs [15, 16, 17] [(47, sl_ b52 o52 ds.length cap), (48, nt b), (58, nt (IntKind.i64.wrap (f81 + n)))] <| Gq_ (u := nt (IntKind.i64.wrap (f81 + n))) (v := nt (f81 + n)) 58 (by rw [hw82]) <| Gp_ [(47, sl_ b52 o52 ds.length cap), (48, nt b), (58, nt (f81 + n))] <| Gq_ (u := nt b) (v := nt (j51 : Int)) 48 (by rw [hj51]) <| GI_pure (some 59) (.indexAddr 57 (.tmp 47) (.tmp 48)) (by kernel_rfl) (by kernel_rfl) (pure_idxN (b := b52) (o := o52) (len := ds.length) (cap := cap) (kd := .i64) (j := j51) (E := 56) (sz := 3) (by_ := 40) (by kernel_rfl) (by kernel_rfl) (by kernel_rfl) (by omega)) <| Gn [17] [58, 60] <| GI_final 17 (by kernel_rfl) (by kernel_rfl) <| OI_set (m := 1) (kd := false) 3 (.tmp 60) (.tmp 58) (o52 + j51 * 3) (nt (f81 + n)) [nt (f81 + n)] none (by kernel_rfl) (by kernel_rfl) (by kernel_rfl) (At.blk hat69) (by kernel_rfl) (by kernel_rfl) rfl (by have h1 := At.room hat69; have h2 := At.le hat69; rw [List.length_map] at h2; omega) (by simp [Value.oneCell']) ?_
  intro w83 hn84 hk85 hz86
  have hat87 := At.set (y := (DE.mk (f81 + n) g81 A81 c81 l81 : DE)) (k := 0) hat69 hx80 (by omega) (by simp [DE.cells, over]) hn84
  have hsz88 := Keep.size hk85
  replace hx := hx.k1 hk85
  replace hK0 := Keep.fresh hK0 hk85 (by intro i hi hs; have hs2 : i = b52 := hs; first | (exfalso; omega) | (rw [hs2]; exact (hdx.own _ ⟨_, rfl, rfl⟩).1))
  replace hall := DAll.keep hall hk85 (fun q h1 h2 h3 hs => by have hs : q = b52 := hs; exact h3 (hs ▸ ⟨_, rfl, rfl⟩))
  have hlhx89 : ((ds.set j50 (DE.mk (f63 - n) g63 A63 c63 l63)).set j51 (DE.mk (f81 + n) g81 A81 c81 l81)).length = (ds.set j50 (DE.mk (f63 - n) g63 A63 c63 l63)).length := List.length_set
  have hx89 : ((ds.set j50 (DE.mk (f63 - n) g63 A63 c63 l63)).set j51 (DE.mk (f81 + n) g81 A81 c81 l81))[j51]? = some (DE.mk (f81 + n) g81 A81 c81 l81) := by rw [List.getElem?_set_self (List.getElem?_eq_some_iff.1 hx80).1]
  have hst90 := de_at hacc hx80
  have ht90 : tot ((xs.set j50 (Acc.mk (f63 - n) g63)).set j51 (Acc.mk (f81 + n) g81)) = tot (xs.set j50 (Acc.mk (f63 - n) g63)) + ((f81 + n) + g81) - (f81 + g81) := tot_set _ hst90
  have hinv90 : Inv ((xs.set j50 (Acc.mk (f63 - n) g63)).set j51 (Acc.mk (f81 + n) g81)) := Inv.set hinv72 hst90 _ (by show 0 ≤ (f81 + n); omega) (by show 0 ≤ g81; omega) (by show tot (xs.set j50 (Acc.mk (f63 - n) g63)) + ((f81 + n) + g81) - (f81 + g81) ≤ 1073741824; omega)
  replace hacc := map_set (j := j51) hacc (f81 + n) g81 A81 c81 l81
  replace hall := DAll.set hall hx80 (f81 + n) g81
  exact Oer <| Oen [8] <| Rr (nt 0) ⟨by unfold transE; simp_all, ⟨F, by rw [show transX xs cs a b n = addF (subF xs a n) b n from by unfold transX; rw [if_pos ⟨hiab, hc49⟩], show subF xs a n = _ from by unfold subF; rw [setA_at hj50, acct_at hj50 hst72 hjl50], show addF (xs.set j50 (Acc.mk (f63 - n) g63)) b n = _ from by unfold addF; rw [setA_at hj51, acct_at hj51 hst90 hjl51]]; exact ⟨hinv90, hcl, hFx, fun q hq => Nat.lt_of_lt_of_le (hFlt q hq) (by omega), _, _, _, ⟨by simp only [List.length_set]; exact hx, At.slt hat87, hdx.own, hacc, hall⟩⟩, hF0⟩, hK0⟩
 refine Df 20 hg10 <| Oen [0, 1, 2, 3, 9, 23] <| Vf <| Vsk <| V_seq <| Vn [0, 1, 2, 3, 9, 25] <| V_not (spendsE xs cs a n = 0) (by kernel_rfl) (fun hc91 => ?_) (fun hc91 => ?_)
 ·
  exact Vn [8] <| Rt <| Xr (nt (spendsE xs cs a n)) ⟨by unfold transE; simp_all, ⟨F, by rw [show transX xs cs a b n = xs from by unfold transX; simp_all]; exact h, hF0⟩, hK0⟩
 obtain ⟨hsa, hn1, hn2, hn3, _⟩ := spends_ok hinv hc91
 obtain ⟨_, hcl, hFx, _, A, cap, ds, hdx⟩ := h
 have hx := hdx.blk
 have hA := hdx.sl
 have hacc := hdx.acc
 have hall := hdx.all
 have hAx : ∀ q, inA A q → q ≠ x := fun q hq => (hdx.own q hq).2
 have hAlt := SlT.lt hA
 have hdl := de_len hacc hinv
 have hcl1 := hcl.1
 have hFlt9 : ∀ q, F q → q < w7.heap.size := fun q hq => Nat.lt_of_lt_of_le (hFlt q hq) (by omega)
 obtain ⟨j92, hj92, hjl92⟩ : ∃ j : Nat, a = j ∧ j < 10 := ⟨(a).toNat, by have h9 := hsa; simp only [isA, decide_eq_true_eq] at h9; omega, by have h9 := hsa; simp only [isA, decide_eq_true_eq] at h9; omega⟩
 have hiab : isA b = true := by simpa using hc6
 obtain ⟨j93, hj93, hjl93⟩ : ∃ j : Nat, b = j ∧ j < 10 := ⟨(b).toNat, by have h9 := hiab; simp only [isA, decide_eq_true_eq] at h9; omega, by have h9 := hiab; simp only [isA, decide_eq_true_eq] at h9; omega⟩
 refine Vsk <| V_seq ?_
 have h10 : 0 < ds.length := by omega
 obtain ⟨b94, o94, L94, T94, rfl, hat94⟩ := SlT.open_ hA (by first | omega | (simp only [List.length_map]; omega) | (simp; done) | (simp; omega))
 have hb94lt := hat94.blk.lt
 have hob95 := hAx b94 ⟨_, rfl, rfl⟩
 have hob96 := hAlt b94 ⟨_, rfl, rfl⟩
 have hFb94 : b94 < w.heap.size := hFlt _ (hdx.own _ ⟨_, rfl, rfl⟩).1
 refine Vd1 (acts [12, 17]) (only b94) [5, 6, 7, 8, 9, 10, 11, 12, 0, 1, 2, 3, 4, 13, 14, 15, 16, 17] fun w98 hk97 he99 K102 _ => ?_
 replace hx := hx.k0 hk97
 replace hat94 := hat94.keep hk97 id
 replace hK0 := hK0.tn hk97
 replace hall := DAll.keep hall hk97 (fun _ _ _ _ f => f)
 have qhx := hx
 refine Gn [8, 9, 10, 11, 12, 0, 1, 2, 3, 4, 13, 14, 15, 16, 17] [0, 1, 2, 3, 34] <| Mc 0 (sl_ b94 o94 ds.length cap) qhx (by show ¬ (_ = _); omega) rfl <| Gn [10, 11, 12, 0, 1, 2, 3, 4, 13, 14, 15, 16, 17] [0, 1, 2, 3, 35, 36] <| Gp_ [(0, pt x), (1, nt a), (2, nt b), (3, nt n), (35, sl_ b94 o94 ds.length cap), (36, nt a)] <| Gq_ (u := nt a) (v := nt (j92 : Int)) 36 (by rw [hj92]) <| GI_pure (some 37) (.indexAddr 57 (.tmp 35) (.tmp 36)) (by kernel_rfl) (by kernel_rfl) (pure_idxN (b := b94) (o := o94) (len := ds.length) (cap := cap) (kd := .i64) (j := j92) (E := 56) (sz := 3) (by_ := 40) (by kernel_rfl) (by kernel_rfl) (by kernel_rfl) (by omega)) <| Gn [12, 0, 1, 2, 3, 4, 13, 14, 15, 16, 17] [0, 1, 2, 3, 38] ?_
 obtain ⟨x103, hx104⟩ : ∃ x, ds[j92]? = some x := ⟨_, List.getElem?_eq_getElem (by first | omega | (simp only [List.length_map]; omega))⟩
 obtain ⟨f105, g105, A105, c105, l105⟩ := x103
 obtain ⟨hls105, hsl105, hso105⟩ := hall j92 _ hx104
 replace hls105 : l105 = rowL (j92 : Int) cs := hls105
 replace hsl105 : SlT w98 2 lkc A105 c105 l105 := hsl105
 replace hso105 : ∀ q, inA A105 q → _ := hso105
 obtain ⟨hbf105, hbh105, hbt105, _⟩ := hinv.at_ (de_at hacc hx104)
 replace hbf105 : 0 ≤ f105 := hbf105
 replace hbh105 : 0 ≤ g105 := hbh105
 replace hbt105 : f105 + g105 ≤ 1073741824 := hbt105
 have hsw105 : ∀ q, inA A105 q → q ≠ x ∧ q ≠ b94 ∧ q < w.heap.size := fun q hq => ⟨(hso105 q hq).2.1, fun e => (hso105 q hq).2.2 ⟨_, rfl, e⟩, hFlt q (hso105 q hq).1⟩
 have hsx105 := SlT.lt hsl105
 have hac_a : acct xs a = ⟨f105, g105⟩ := by rw [hj92]; exact de_acct hacc hx104 hjl92
 rw [hac_a] at hn3; replace hn3 : n ≤ f105 := hn3
 refine GI_cellA 3 (.tmp 38) (o94 + j92 * 3) (nt f105) (some 39) (by kernel_rfl) (by kernel_rfl) K102 (by kernel_rfl) hat94.blk (m := 1) (by kernel_rfl) (At.cell0 hat94 (es_at hx104) rfl) <| Gn [3, 4, 13, 14, 15, 16, 17] [0, 1, 2, 3, 29, 39] <| Mc 0 (sl_ b94 o94 ds.length cap) qhx (by show ¬ (_ = _); omega) rfl ?_
 have hw106 : IntKind.i64.wrap (f105 - n) = f105 - n := (wrap64_id (by omega) (by omega)).trans (by omega)
 refine Gs [15, 16, 17] [(0, pt x), (2, nt b), (3, nt n), (30, sl_ b94 o94 ds.length cap), (31, nt a), (41, nt (IntKind.i64.wrap (f105 - n)))] <| Gq_ (u := nt (IntKind.i64.wrap (f105 - n))) (v := nt (f105 - n)) 41 (by rw [hw106]) <| Gp_ [(0, pt x), (2, nt b), (3, nt n), (30, sl_ b94 o94 ds.length cap), (31, nt a), (41, nt (f105 - n))] <| Gq_ (u := nt a) (v := nt (j92 : Int)) 31 (by rw [hj92]) <| GI_pure (some 42) (.indexAddr 57 (.tmp 30) (.tmp 31)) (by kernel_rfl) (by kernel_rfl) (pure_idxN (b := b94) (o := o94) (len := ds.length) (cap := cap) (kd := .i64) (j := j92) (E := 56) (sz := 3) (by_ := 40) (by kernel_rfl) (by kernel_rfl) (by kernel_rfl) (by omega)) <| Gn [17] [0, 2, 3, 41, 43] <| GI_final 17 (by kernel_rfl) (by kernel_rfl) <| OI_set (m := 1) (kd := false) 3 (.tmp 43) (.tmp 41) (o94 + j92 * 3) (nt (f105 - n)) [nt (f105 - n)] none (by kernel_rfl) (by kernel_rfl) (by kernel_rfl) (At.blk hat94) (by kernel_rfl) (by kernel_rfl) rfl (by have h1 := At.room hat94; have h2 := At.le hat94; rw [List.length_map] at h2; omega) (by simp [Value.oneCell']) ?_
 intro w107 hn108 hk109 hz110
 have hat111 := At.set (y := (DE.mk (f105 - n) g105 A105 c105 l105 : DE)) (k := 0) hat94 hx104 (by omega) (by simp [DE.cells, over]) hn108
 have hsz112 := Keep.size hk109
 replace hx := hx.k1 hk109
 replace hK0 := Keep.fresh hK0 hk109 (by intro i hi hs; have hs2 : i = b94 := hs; first | (exfalso; omega) | (rw [hs2]; exact (hdx.own _ ⟨_, rfl, rfl⟩).1))
 replace hall := DAll.keep hall hk109 (fun q h1 h2 h3 hs => by have hs : q = b94 := hs; exact h3 (hs ▸ ⟨_, rfl, rfl⟩))
 have hlhx113 : (ds.set j92 (DE.mk (f105 - n) g105 A105 c105 l105)).length = ds.length := List.length_set
 have hx113 : (ds.set j92 (DE.mk (f105 - n) g105 A105 c105 l105))[j92]? = some (DE.mk (f105 - n) g105 A105 c105 l105) := by rw [List.getElem?_set_self (List.getElem?_eq_some_iff.1 hx104).1]
 have hst114 := de_at hacc hx104
 have ht114 : tot (xs.set j92 (Acc.mk (f105 - n) g105)) = tot xs + ((f105 - n) + g105) - (f105 + g105) := tot_set _ hst114
 have hinv114 : Inv (xs.set j92 (Acc.mk (f105 - n) g105)) := Inv.set hinv hst114 _ (by show 0 ≤ (f105 - n); omega) (by show 0 ≤ g105; omega) (by show tot xs + ((f105 - n) + g105) - (f105 + g105) ≤ 1073741824; omega)
 replace hacc := map_set (j := j92) hacc (f105 - n) g105 A105 c105 l105
 replace hall := DAll.set hall hx104 (f105 - n) g105
 refine Oe <| V_seq <| Vd1 (acts [12, 17]) (only b94) [5, 6, 7, 8, 9, 10, 11, 12, 0, 1, 2, 3, 4, 13, 14, 15, 16, 17] fun w116 hk115 he117 K120 _ => ?_
 replace hx := hx.k0 hk115
 replace hat111 := hat111.keep hk115 id
 replace hK0 := hK0.tn hk115
 replace hall := DAll.keep hall hk115 (fun _ _ _ _ f => f)
 have qhx := hx
 refine Gn [8, 9, 10, 11, 12, 0, 1, 2, 3, 4, 13, 14, 15, 16, 17] [0, 2, 3, 51] <| Mc 0 (sl_ b94 o94 ds.length cap) qhx (by show ¬ (_ = _); omega) rfl <| Gn [10, 11, 12, 0, 1, 2, 3, 4, 13, 14, 15, 16, 17] [0, 2, 3, 52, 53] <| Gp_ [(0, pt x), (2, nt b), (3, nt n), (52, sl_ b94 o94 ds.length cap), (53, nt b)] <| Gq_ (u := nt b) (v := nt (j93 : Int)) 53 (by rw [hj93]) <| GI_pure (some 54) (.indexAddr 57 (.tmp 52) (.tmp 53)) (by kernel_rfl) (by kernel_rfl) (pure_idxN (b := b94) (o := o94) (len := ds.length) (cap := cap) (kd := .i64) (j := j93) (E := 56) (sz := 3) (by_ := 40) (by kernel_rfl) (by kernel_rfl) (by kernel_rfl) (by omega)) <| Gn [12, 0, 1, 2, 3, 4, 13, 14, 15, 16, 17] [0, 2, 3, 55] ?_
 obtain ⟨x121, hx122⟩ : ∃ x, (ds.set j92 (DE.mk (f105 - n) g105 A105 c105 l105))[j93]? = some x := ⟨_, List.getElem?_eq_getElem (by first | omega | (simp only [List.length_map]; omega))⟩
 obtain ⟨f123, g123, A123, c123, l123⟩ := x121
 obtain ⟨hls123, hsl123, hso123⟩ := hall j93 _ hx122
 replace hls123 : l123 = rowL (j93 : Int) cs := hls123
 replace hsl123 : SlT w116 2 lkc A123 c123 l123 := hsl123
 replace hso123 : ∀ q, inA A123 q → _ := hso123
 obtain ⟨hbf123, hbh123, hbt123, _⟩ := hinv114.at_ (de_at hacc hx122)
 replace hbf123 : 0 ≤ f123 := hbf123
 replace hbh123 : 0 ≤ g123 := hbh123
 replace hbt123 : f123 + g123 ≤ 1073741824 := hbt123
 have hsw123 : ∀ q, inA A123 q → q ≠ x ∧ q ≠ b94 ∧ q < w.heap.size := fun q hq => ⟨(hso123 q hq).2.1, fun e => (hso123 q hq).2.2 ⟨_, rfl, e⟩, hFlt q (hso123 q hq).1⟩
 have hsx123 := SlT.lt hsl123
 refine GI_cellA 3 (.tmp 55) (o94 + j93 * 3) (nt f123) (some 56) (by kernel_rfl) (by kernel_rfl) K120 (by kernel_rfl) hat111.blk (m := 1) (by kernel_rfl) (At.cell0 hat111 (es_at hx122) rfl) <| Gn [3, 4, 13, 14, 15, 16, 17] [2, 3, 46, 56] <| Mc 0 (sl_ b94 o94 ds.length cap) qhx (by show ¬ (_ = _); omega) rfl ?_
 have hw124 : IntKind.i64.wrap (f123 + n) = f123 + n := (wrap64_id (by omega) (by omega)).trans (by omega)
 refine Gs [15, 16, 17] [(47, sl_ b94 o94 ds.length cap), (48, nt b), (58, nt (IntKind.i64.wrap (f123 + n)))] <| Gq_ (u := nt (IntKind.i64.wrap (f123 + n))) (v := nt (f123 + n)) 58 (by rw [hw124]) <| Gp_ [(47, sl_ b94 o94 ds.length cap), (48, nt b), (58, nt (f123 + n))] <| Gq_ (u := nt b) (v := nt (j93 : Int)) 48 (by rw [hj93]) <| GI_pure (some 59) (.indexAddr 57 (.tmp 47) (.tmp 48)) (by kernel_rfl) (by kernel_rfl) (pure_idxN (b := b94) (o := o94) (len := ds.length) (cap := cap) (kd := .i64) (j := j93) (E := 56) (sz := 3) (by_ := 40) (by kernel_rfl) (by kernel_rfl) (by kernel_rfl) (by omega)) <| Gn [17] [58, 60] <| GI_final 17 (by kernel_rfl) (by kernel_rfl) <| OI_set (m := 1) (kd := false) 3 (.tmp 60) (.tmp 58) (o94 + j93 * 3) (nt (f123 + n)) [nt (f123 + n)] none (by kernel_rfl) (by kernel_rfl) (by kernel_rfl) (At.blk hat111) (by kernel_rfl) (by kernel_rfl) rfl (by have h1 := At.room hat111; have h2 := At.le hat111; rw [List.length_map] at h2; omega) (by simp [Value.oneCell']) ?_
 intro w125 hn126 hk127 hz128
 have hat129 := At.set (y := (DE.mk (f123 + n) g123 A123 c123 l123 : DE)) (k := 0) hat111 hx122 (by omega) (by simp [DE.cells, over]) hn126
 have hsz130 := Keep.size hk127
 replace hx := hx.k1 hk127
 replace hK0 := Keep.fresh hK0 hk127 (by intro i hi hs; have hs2 : i = b94 := hs; first | (exfalso; omega) | (rw [hs2]; exact (hdx.own _ ⟨_, rfl, rfl⟩).1))
 replace hall := DAll.keep hall hk127 (fun q h1 h2 h3 hs => by have hs : q = b94 := hs; exact h3 (hs ▸ ⟨_, rfl, rfl⟩))
 have hlhx131 : ((ds.set j92 (DE.mk (f105 - n) g105 A105 c105 l105)).set j93 (DE.mk (f123 + n) g123 A123 c123 l123)).length = (ds.set j92 (DE.mk (f105 - n) g105 A105 c105 l105)).length := List.length_set
 have hx131 : ((ds.set j92 (DE.mk (f105 - n) g105 A105 c105 l105)).set j93 (DE.mk (f123 + n) g123 A123 c123 l123))[j93]? = some (DE.mk (f123 + n) g123 A123 c123 l123) := by rw [List.getElem?_set_self (List.getElem?_eq_some_iff.1 hx122).1]
 have hst132 := de_at hacc hx122
 have ht132 : tot ((xs.set j92 (Acc.mk (f105 - n) g105)).set j93 (Acc.mk (f123 + n) g123)) = tot (xs.set j92 (Acc.mk (f105 - n) g105)) + ((f123 + n) + g123) - (f123 + g123) := tot_set _ hst132
 have hinv132 : Inv ((xs.set j92 (Acc.mk (f105 - n) g105)).set j93 (Acc.mk (f123 + n) g123)) := Inv.set hinv114 hst132 _ (by show 0 ≤ (f123 + n); omega) (by show 0 ≤ g123; omega) (by show tot (xs.set j92 (Acc.mk (f105 - n) g105)) + ((f123 + n) + g123) - (f123 + g123) ≤ 1073741824; omega)
 replace hacc := map_set (j := j93) hacc (f123 + n) g123 A123 c123 l123
 replace hall := DAll.set hall hx122 (f123 + n) g123
 exact Oer <| Oen [8] <| Rr (nt 0) ⟨by unfold transE; simp_all, ⟨F, by rw [show transX xs cs a b n = addF (subF xs a n) b n from by unfold transX; rw [if_pos ⟨hiab, hc91⟩], show subF xs a n = _ from by unfold subF; rw [setA_at hj92, acct_at hj92 hst114 hjl92], show addF (xs.set j92 (Acc.mk (f105 - n) g105)) b n = _ from by unfold addF; rw [setA_at hj93, acct_at hj93 hst132 hjl93]]; exact ⟨hinv132, hcl, hFx, fun q hq => Nat.lt_of_lt_of_le (hFlt q hq) (by omega), _, _, _, ⟨by simp only [List.length_set]; exact hx, At.slt hat129, hdx.own, hacc, hall⟩⟩, hF0⟩, hK0⟩
end Go.Al

namespace Go.Al
open Go Go.RowKit Go.Proofs
theorem issued6_spec (F : Nat → Prop) (x : Nat) (xs : List Acc) (cs : List Ci) (w : World) (h : DLd F w x xs cs) : Calls Try.prog 50 #[pt x] w fun e w' => e = .returned (nt (tot xs)) ∧ Keep none_ w w' := by
 obtain ⟨hinv, hcl, hFx, hFlt, A, cap, ds, hdx⟩ := h
 have hx := hdx.blk
 have hA := hdx.sl
 have hxlt := hx.lt
 have hacc := hdx.acc
 have hall := hdx.all
 have hAx : ∀ q, inA A q → q ≠ x := fun q hq => (hdx.own q hq).2
 have hAlt := SlT.lt hA
 have hdl := de_len hacc hinv
 have hcl1 := hcl.1
 have hF0 : ∀ q, F q → F q ∨ w.heap.size ≤ q := fun _ h => .inl h
 have hnn := hinv.2.1
 have htt : tot xs ≤ 1125899906842624 := by have h9 := hinv.2.2; omega
 have hK0 : Keep none_ w w := Keep.refl _ _
 have hzhK0 := Keep.size hK0
 refine eV ?_
 refine Vr <| On 1 [0] <| Oer <| On 1 [0, 3] <| Oe <| V_seq <| Vn [0, 3, 4] <| V_block <| Vp [(0, pt x), (3, nt 0), (4, nt 0)] <| V_loop (fun k wI e => ∃ i : Nat, ∃ s : Int, (k + i = ds.length) ∧ (s = tot (xs.take i)) ∧ Keep none_ w wI ∧ e = [(0, pt x), (3, nt s), (4, nt (i : Int))]) ds.length ⟨0, 0, rfl, rfl, Keep.refl _ _, rfl⟩ ?_
 rintro k2 w1 _ ⟨i, s, hki, hs, hk3, rfl⟩
 have hsz4 := Keep.size hk3
 replace hx := hx.k0 hk3
 replace hA := hA.keep0 hk3
 replace hall := DAll.keep hall hk3 (fun _ _ _ _ f => f)
 replace hK0 := hK0.tn hk3
 have hzhk3 := Keep.size hk3
 refine V_seq <| Vr <| On 4 [0, 3, 4, 5, 8] <| Lr 0 (.slice A ds.length cap) hx <| Oen [0, 3, 4, 11] <| Vi ((i : Int) < (ds.length : Int)) (fun hc5 => ?_) (fun hc5 => ?_)
 ·
  refine Vsk <| V_seq <| V_block <| Vd1 (acts []) none_ [0, 1, 2, 3, 4, 5, 6, 7, 8, 9, 10, 11, 12, 13, 14, 15, 16, 17, 18, 19] fun w7 hk6 he8 K11 _ => ?_
  replace hx := hx.k0 hk6
  replace hA := hA.keep0 hk6
  replace hall := DAll.keep hall hk6 (fun _ _ _ _ f => f)
  replace hk3 := hk3.tn hk6
  have qhx := hx
  refine Gn [4, 5, 6, 7, 8, 9, 10, 11, 12, 13, 14, 15, 16, 17, 18, 19] [0, 4, 14, 17] <| Mr 0 (.slice A ds.length cap) qhx <| Gn [6, 7, 8, 9, 10, 11, 12, 13, 14, 15, 16, 17, 18, 19] [0, 4, 14, 18, 19] ?_
  obtain ⟨b12, o12, L12, T12, rfl, hat12⟩ := SlT.open_ hA (by first | omega | (simp only [List.length_map]; omega) | (simp; done) | (simp; omega))
  have hb12lt := hat12.blk.lt
  have hob13 := hAx b12 ⟨_, rfl, rfl⟩
  have hob14 := hAlt b12 ⟨_, rfl, rfl⟩
  refine GI_pure (some 20) (.indexAddr 57 (.tmp 18) (.tmp 19)) (by kernel_rfl) (by kernel_rfl) (pure_idxN (b := b12) (o := o12) (len := ds.length) (cap := cap) (kd := .i64) (j := i) (E := 56) (sz := 3) (by_ := 40) (by kernel_rfl) (by kernel_rfl) (by kernel_rfl) (by omega)) <| Gn [8, 9, 10, 11, 12, 13, 14, 15, 16, 17, 18, 19] [0, 4, 14, 21] ?_
  obtain ⟨x15, hx16⟩ : ∃ x, ds[i]? = some x := ⟨_, List.getElem?_eq_getElem (by first | omega | (simp only [List.length_map]; omega))⟩
  obtain ⟨f17, g17, A17, c17, l17⟩ := x15
  obtain ⟨hls17, hsl17, hso17⟩ := hall i _ hx16
  replace hls17 : l17 = rowL (i : Int) cs := hls17
  replace hsl17 : SlT w7 2 lkc A17 c17 l17 := hsl17
  replace hso17 : ∀ q, inA A17 q → _ := hso17
  obtain ⟨hbf17, hbh17, hbt17, _⟩ := hinv.at_ (de_at hacc hx16)
  replace hbf17 : 0 ≤ f17 := hbf17
  replace hbh17 : 0 ≤ g17 := hbh17
  replace hbt17 : f17 + g17 ≤ 1073741824 := hbt17
  have hsw17 : ∀ q, inA A17 q → q ≠ x ∧ q ≠ b12 ∧ q < w.heap.size := fun q hq => ⟨(hso17 q hq).2.1, fun e => (hso17 q hq).2.2 ⟨_, rfl, e⟩, hFlt q (hso17 q hq).1⟩
  have hsx17 := SlT.lt hsl17
  obtain ⟨hst1, hst2, hst3, hbx1, hbx2⟩ := tot_step2 hnn htt (de_at hacc hx16)
  replace hst1 : tot (xs.take (i + 1)) = tot (xs.take i) + (f17 + g17) := hst1
  replace hst3 : tot (xs.take i) + (f17 + g17) ≤ 1125899906842624 := hst3
  refine Mc0 (o12 + i * 3) (nt f17) hat12.blk (At.cell0 hat12 (es_at hx16) rfl) ?_
  have hw18 : IntKind.i64.wrap (s + f17) = s + f17 := (wrap64_id (by omega) (by omega)).trans (by omega)
  refine Gn [10, 11, 12, 13, 14, 15, 16, 17, 18, 19] [0, 4, 23] <| Gq_ (u := nt (IntKind.i64.wrap (s + f17))) (v := nt (s + f17)) 23 (by rw [hw18]) <| Gn [13, 14, 15, 16, 17, 18, 19] [0, 4, 23, 26] <| Mr 0 (sl_ b12 o12 ds.length cap) qhx <| Gn [15, 16, 17, 18, 19] [0, 4, 23, 27, 28] <| GI_pure (some 29) (.indexAddr 57 (.tmp 27) (.tmp 28)) (by kernel_rfl) (by kernel_rfl) (pure_idxN (b := b12) (o := o12) (len := ds.length) (cap := cap) (kd := .i64) (j := i) (E := 56) (sz := 3) (by_ := 40) (by kernel_rfl) (by kernel_rfl) (by kernel_rfl) (by omega)) <| Gn [17, 18, 19] [0, 4, 23, 30] <| Mc0 (o12 + i * 3 + 1) (nt g17) hat12.blk (At.cell hat12 (es_at hx16) rfl) ?_
  have hw19 : IntKind.i64.wrap ((s + f17) + g17) = (s + f17) + g17 := (wrap64_id (by omega) (by omega)).trans (by omega)
  refine Gn [19] [0, 4, 32] <| Gq_ (u := nt (IntKind.i64.wrap ((s + f17) + g17))) (v := nt ((s + f17) + g17)) 32 (by rw [hw19]) <| Gn [] [0, 3, 4] <| GI_end <| X_block <| X_then <| V_region ?_
  have hw20 : IntKind.i64.wrap ((i : Int) + 1) = ((i + 1 : Nat) : Int) := (wrap64_id (by omega) (by omega)).trans (by omega)
  refine On 2 [0, 3, 13] <| Oq (u := nt (IntKind.i64.wrap ((i : Int) + 1))) (v := nt ((i + 1 : Nat) : Int)) 13 (by rw [hw20]) <| Os 3 [(0, pt x), (3, nt ((s + f17) + g17)), (4, nt ((i + 1 : Nat) : Int))] <| OI_end rfl ?_
  exact V_again (k2 - 1) (by omega) [(0, pt x), (3, nt ((s + f17) + g17)), (4, nt ((i + 1 : Nat) : Int))] rfl ⟨i + 1, (s + f17) + g17, by omega, by rw [hst1, hs]; omega, hk3, rfl⟩
 refine V_exit <| X_exit_then <| X_exit_then <| X_exit_here <| X_then <| Vs [(2, nt s)] <| V_ret ?_
 have he : i = xs.length := by have h9 := hinv.1; omega
 rw [he, List.take_length] at hs
 exact X_return _ rfl ⟨by rw [hs], hK0⟩
set_option maxHeartbeats 1000000 in
theorem reserve6_spec (F : Nat → Prop) (x : Nat) (xs : List Acc) (cs : List Ci) (a n : Int) (w : World) (h : DLd F w x xs cs) : Calls Try.prog 41 #[pt x, nt a, nt n] w fun e w' => e = .returned (nt (spendsE xs cs a n)) ∧ (∃ F', DLd F' w' x (resX xs cs a n) (cs) ∧ (∀ q, F' q → F q ∨ w.heap.size ≤ q)) ∧ Keep F w w' := by
 have hFlt := DLd.lt h
 have hxlt := hFlt _ (DLd.at_ h)
 have hinv := DLd.inv h
 have htot1 := hinv.2.2
 have htot0 := (tot_mem hinv.2.1).1
 have hF0 : ∀ q, F q → F q ∨ w.heap.size ≤ q := fun _ h => .inl h
 have hK0 : Keep F w w := Keep.refl _ _
 have hzhK0 := Keep.size hK0
 refine eV ?_
 refine Vr <| On 1 [0, 1, 2] <| Oer <| On 3 [0, 1, 2, 8, 9, 10] <| Kk (may6_spec F x xs cs a n _ h) fun w1 hk2 _ => ?_
 replace h := DLd.keep h hk2 nk
 replace hK0 := hK0.tn hk2
 refine On 5 [0, 1, 2, 7] <| Oe <| V_seq <| Vn [0, 1, 2, 7, 13] <| V_not (spendsE xs cs a n = 0) (by kernel_rfl) (fun hc4 => ?_) (fun hc4 => ?_)
 ·
  exact Vn [6] <| Rt <| Xr (nt (spendsE xs cs a n)) ⟨rfl, ⟨F, by rw [show resX xs cs a n = xs from by unfold resX; simp_all]; exact h, hF0⟩, hK0⟩
 obtain ⟨hsa, hn1, hn2, hn3, _⟩ := spends_ok hinv hc4
 obtain ⟨_, hcl, hFx, _, A, cap, ds, hdx⟩ := h
 have hx := hdx.blk
 have hA := hdx.sl
 have hacc := hdx.acc
 have hall := hdx.all
 have hAx : ∀ q, inA A q → q ≠ x := fun q hq => (hdx.own q hq).2
 have hAlt := SlT.lt hA
 have hdl := de_len hacc hinv
 have hcl1 := hcl.1
 have hFlt9 : ∀ q, F q → q < w1.heap.size := fun q hq => Nat.lt_of_lt_of_le (hFlt q hq) (by omega)
 obtain ⟨j5, hj5, hjl5⟩ : ∃ j : Nat, a = j ∧ j < 10 := ⟨(a).toNat, by have h9 := hsa; simp only [isA, decide_eq_true_eq] at h9; omega, by have h9 := hsa; simp only [isA, decide_eq_true_eq] at h9; omega⟩
 refine Vsk <| V_seq ?_
 have h10 : 0 < ds.length := by omega
 obtain ⟨b6, o6, L6, T6, rfl, hat6⟩ := SlT.open_ hA (by first | omega | (simp only [List.length_map]; omega) | (simp; done) | (simp; omega))
 have hb6lt := hat6.blk.lt
 have hob7 := hAx b6 ⟨_, rfl, rfl⟩
 have hob8 := hAlt b6 ⟨_, rfl, rfl⟩
 have hFb6 : b6 < w.heap.size := hFlt _ (hdx.own _ ⟨_, rfl, rfl⟩).1
 refine Vd (acts [17, 27, 32, 35]) (only b6) [[10, 11, 12, 13, 14, 15, 16, 17, 20, 21, 22, 23, 24, 25, 26, 27, 0, 1, 2, 3, 4, 5, 6, 7, 8, 18, 19, 30, 31, 32, 9, 28, 29, 33, 34, 35], [20, 21, 22, 23, 24, 25, 26, 27, 10, 11, 12, 13, 14, 15, 16, 17, 0, 1, 2, 3, 4, 5, 6, 7, 8, 18, 19, 30, 31, 32, 9, 28, 29, 33, 34, 35]] ?_
 intro w10 hk9 he11 L hL12
 have hsz13 := Keep.size hk9
 replace hx := hx.k0 hk9
 replace hat6 := hat6.keep hk9 id
 replace hK0 := hK0.tn hk9
 replace hall := DAll.keep hall hk9 (fun _ _ _ _ f => f)
 have qhx := hx
 have K14 : Keep (only b6) w10 w10 := Keep.refl _ _
 simp only [List.mem_cons, List.not_mem_nil, or_false] at hL12
 rcases hL12 with rfl | rfl
 ·
  refine Gn [13, 14, 15, 16, 17, 20, 21, 22, 23, 24, 25, 26, 27, 0, 1, 2, 3, 4, 5, 6, 7, 8, 18, 19, 30, 31, 32, 9, 28, 29, 33, 34, 35] [0, 1, 2, 27] <| Mc 0 (sl_ b6 o6 ds.length cap) qhx (by show ¬ (_ = _); omega) rfl <| Gn [15, 16, 17, 20, 21, 22, 23, 24, 25, 26, 27, 0, 1, 2, 3, 4, 5, 6, 7, 8, 18, 19, 30, 31, 32, 9, 28, 29, 33, 34, 35] [0, 1, 2, 28, 29] <| Gp_ [(0, pt x), (1, nt a), (2, nt n), (28, sl_ b6 o6 ds.length cap), (29, nt a)] <| Gq_ (u := nt a) (v := nt (j5 : Int)) 29 (by rw [hj5]) <| GI_pure (some 30) (.indexAddr 57 (.tmp 28) (.tmp 29)) (by kernel_rfl) (by kernel_rfl) (pure_idxN (b := b6) (o := o6) (len := ds.length) (cap := cap) (kd := .i64) (j := j5) (E := 56) (sz := 3) (by_ := 40) (by kernel_rfl) (by kernel_rfl) (by kernel_rfl) (by omega)) <| Gn [17, 20, 21, 22, 23, 24, 25, 26, 27, 0, 1, 2, 3, 4, 5, 6, 7, 8, 18, 19, 30, 31, 32, 9, 28, 29, 33, 34, 35] [0, 1, 2, 31] ?_
  obtain ⟨x15, hx16⟩ : ∃ x, ds[j5]? = some x := ⟨_, List.getElem?_eq_getElem (by first | omega | (simp only [List.length_map]; omega))⟩
  obtain ⟨f17, g17, A17, c17, l17⟩ := x15
  obtain ⟨hls17, hsl17, hso17⟩ := hall j5 _ hx16
  replace hls17 : l17 = rowL (j5 : Int) cs := hls17
  replace hsl17 : SlT w10 2 lkc A17 c17 l17 := hsl17
  replace hso17 : ∀ q, inA A17 q → _ := hso17
  obtain ⟨hbf17, hbh17, hbt17, _⟩ := hinv.at_ (de_at hacc hx16)
  replace hbf17 : 0 ≤ f17 := hbf17
  replace hbh17 : 0 ≤ g17 := hbh17
  replace hbt17 : f17 + g17 ≤ 1073741824 := hbt17
  have hsw17 : ∀ q, inA A17 q → q ≠ x ∧ q ≠ b6 ∧ q < w.heap.size := fun q hq => ⟨(hso17 q hq).2.1, fun e => (hso17 q hq).2.2 ⟨_, rfl, e⟩, hFlt q (hso17 q hq).1⟩
  have hsx17 := SlT.lt hsl17
  have hac_a : acct xs a = ⟨f17, g17⟩ := by rw [hj5]; exact de_acct hacc hx16 hjl5
  rw [hac_a] at hn3; replace hn3 : n ≤ f17 := hn3
  refine GI_cellA 3 (.tmp 31) (o6 + j5 * 3) (nt f17) (some 32) (by kernel_rfl) (by kernel_rfl) K14 (by kernel_rfl) hat6.blk (m := 1) (by kernel_rfl) (At.cell0 hat6 (es_at hx16) rfl) <| Gn [23, 24, 25, 26, 27, 0, 1, 2, 3, 4, 5, 6, 7, 8, 18, 19, 30, 31, 32, 9, 28, 29, 33, 34, 35] [0, 1, 2, 32, 37] <| Mc 0 (sl_ b6 o6 ds.length cap) qhx (by show ¬ (_ = _); omega) rfl <| Gn [25, 26, 27, 0, 1, 2, 3, 4, 5, 6, 7, 8, 18, 19, 30, 31, 32, 9, 28, 29, 33, 34, 35] [0, 1, 2, 32, 38, 39] <| Gp_ [(0, pt x), (1, nt a), (2, nt n), (32, nt f17), (38, sl_ b6 o6 ds.length cap), (39, nt a)] <| Gq_ (u := nt a) (v := nt (j5 : Int)) 39 (by rw [hj5]) <| GI_pure (some 40) (.indexAddr 57 (.tmp 38) (.tmp 39)) (by kernel_rfl) (by kernel_rfl) (pure_idxN (b := b6) (o := o6) (len := ds.length) (cap := cap) (kd := .i64) (j := j5) (E := 56) (sz := 3) (by_ := 40) (by kernel_rfl) (by kernel_rfl) (by kernel_rfl) (by omega)) <| Gn [27, 0, 1, 2, 3, 4, 5, 6, 7, 8, 18, 19, 30, 31, 32, 9, 28, 29, 33, 34, 35] [0, 1, 2, 32, 41] <| GI_cellA 3 (.tmp 41) (o6 + j5 * 3 + 1) (nt g17) (some 42) (by kernel_rfl) (by kernel_rfl) K14 (by kernel_rfl) hat6.blk (m := 1) (by kernel_rfl) (At.cell hat6 (es_at hx16) rfl) <| Gn [3, 4, 5, 6, 7, 8, 18, 19, 30, 31, 32, 9, 28, 29, 33, 34, 35] [0, 1, 2, 17, 32, 42] <| Mc 0 (sl_ b6 o6 ds.length cap) qhx (by show ¬ (_ = _); omega) rfl <| Gn [8, 18, 19, 30, 31, 32, 9, 28, 29, 33, 34, 35] [1, 2, 18, 19, 22, 32, 42] <| Mc 0 (sl_ b6 o6 ds.length cap) qhx (by show ¬ (_ = _); omega) rfl ?_
  have hw18 : IntKind.i64.wrap (f17 - n) = f17 - n := (wrap64_id (by omega) (by omega)).trans (by omega)
  refine Gs [30, 31, 32, 9, 28, 29, 33, 34, 35] [(1, nt a), (2, nt n), (18, sl_ b6 o6 ds.length cap), (19, nt a), (23, sl_ b6 o6 ds.length cap), (34, nt (IntKind.i64.wrap (f17 - n))), (42, nt g17)] <| Gq_ (u := nt (IntKind.i64.wrap (f17 - n))) (v := nt (f17 - n)) 34 (by rw [hw18]) <| Gp_ [(1, nt a), (2, nt n), (18, sl_ b6 o6 ds.length cap), (19, nt a), (23, sl_ b6 o6 ds.length cap), (34, nt (f17 - n)), (42, nt g17)] <| Gq_ (u := nt a) (v := nt (j5 : Int)) 19 (by rw [hj5]) <| GI_pure (some 45) (.indexAddr 57 (.tmp 18) (.tmp 19)) (by kernel_rfl) (by kernel_rfl) (pure_idxN (b := b6) (o := o6) (len := ds.length) (cap := cap) (kd := .i64) (j := j5) (E := 56) (sz := 3) (by_ := 40) (by kernel_rfl) (by kernel_rfl) (by kernel_rfl) (by omega)) <| Gn [32, 9, 28, 29, 33, 34, 35] [1, 2, 23, 34, 42, 46] <| GI_set (m := 1) (kd := false) 3 (.tmp 46) (.tmp 34) (o6 + j5 * 3) (nt (f17 - n)) [nt (f17 - n)] none (by kernel_rfl) (by kernel_rfl) (by kernel_rfl) (by kernel_rfl) (At.blk hat6) (by kernel_rfl) (by kernel_rfl) rfl (by have h1 := At.room hat6; have h2 := At.le hat6; rw [List.length_map] at h2; omega) (by simp [Value.oneCell']) K14 (fun hh => rfl) ?_
  intro w19 hn20 hk21 hz22 K24
  have hat23 := At.set (y := (DE.mk (f17 - n) g17 A17 c17 l17 : DE)) (k := 0) hat6 hx16 (by omega) (by simp [DE.cells, over]) hn20
  have hsz25 := Keep.size hk21
  replace hx := hx.k1 hk21
  replace hK0 := Keep.fresh hK0 hk21 (by intro i hi hs; have hs2 : i = b6 := hs; first | (exfalso; omega) | (rw [hs2]; exact (hdx.own _ ⟨_, rfl, rfl⟩).1))
  replace hall := DAll.keep hall hk21 (fun q h1 h2 h3 hs => by have hs : q = b6 := hs; exact h3 (hs ▸ ⟨_, rfl, rfl⟩))
  have hlhx26 : (ds.set j5 (DE.mk (f17 - n) g17 A17 c17 l17)).length = ds.length := List.length_set
  have hx26 : (ds.set j5 (DE.mk (f17 - n) g17 A17 c17 l17))[j5]? = some (DE.mk (f17 - n) g17 A17 c17 l17) := by rw [List.getElem?_set_self (List.getElem?_eq_some_iff.1 hx16).1]
  have hst27 := de_at hacc hx16
  have ht27 : tot (xs.set j5 (Acc.mk (f17 - n) g17)) = tot xs + ((f17 - n) + g17) - (f17 + g17) := tot_set _ hst27
  have hinv27 : Inv (xs.set j5 (Acc.mk (f17 - n) g17)) := Inv.set hinv hst27 _ (by show 0 ≤ (f17 - n); omega) (by show 0 ≤ g17; omega) (by show tot xs + ((f17 - n) + g17) - (f17 + g17) ≤ 1073741824; omega)
  replace hacc := map_set (j := j5) hacc (f17 - n) g17 A17 c17 l17
  replace hall := DAll.set hall hx16 (f17 - n) g17
  have hw28 : IntKind.i64.wrap (g17 + n) = g17 + n := (wrap64_id (by omega) (by omega)).trans (by omega)
  refine Gs [33, 34, 35] [(23, sl_ b6 o6 ds.length cap), (24, nt a), (44, nt (IntKind.i64.wrap (g17 + n)))] <| Gq_ (u := nt (IntKind.i64.wrap (g17 + n))) (v := nt (g17 + n)) 44 (by rw [hw28]) <| Gp_ [(23, sl_ b6 o6 ds.length cap), (24, nt a), (44, nt (g17 + n))] <| Gq_ (u := nt a) (v := nt (j5 : Int)) 24 (by rw [hj5]) <| GI_pure (some 47) (.indexAddr 57 (.tmp 23) (.tmp 24)) (by kernel_rfl) (by kernel_rfl) (pure_idxN (b := b6) (o := o6) (len := ds.length) (cap := cap) (kd := .i64) (j := j5) (E := 56) (sz := 3) (by_ := 40) (by kernel_rfl) (by kernel_rfl) (by kernel_rfl) (by omega)) <| Gn [35] [44, 48] <| GI_final 35 (by kernel_rfl) (by kernel_rfl) <| OI_set (m := 1) (kd := false) 3 (.tmp 48) (.tmp 44) (o6 + j5 * 3 + 1) (nt (g17 + n)) [nt (g17 + n)] none (by kernel_rfl) (by kernel_rfl) (by kernel_rfl) (At.blk hat23) (by kernel_rfl) (by kernel_rfl) rfl (by have h1 := At.room hat23; have h2 := At.le hat23; rw [List.length_map] at h2; omega) (by simp [Value.oneCell']) ?_
  intro w29 hn30 hk31 hz32
  have hat33 := At.set (y := (DE.mk (f17 - n) (g17 + n) A17 c17 l17 : DE)) (k := 1) hat23 hx26 (by omega) (by simp [DE.cells, over]) hn30
  have hsz34 := Keep.size hk31
  replace hx := hx.k1 hk31
  replace hK0 := Keep.fresh hK0 hk31 (by intro i hi hs; have hs2 : i = b6 := hs; first | (exfalso; omega) | (rw [hs2]; exact (hdx.own _ ⟨_, rfl, rfl⟩).1))
  replace hall := DAll.keep hall hk31 (fun q h1 h2 h3 hs => by have hs : q = b6 := hs; exact h3 (hs ▸ ⟨_, rfl, rfl⟩))
  have hlhx35 : ((ds.set j5 (DE.mk (f17 - n) g17 A17 c17 l17)).set j5 (DE.mk (f17 - n) (g17 + n) A17 c17 l17)).length = (ds.set j5 (DE.mk (f17 - n) g17 A17 c17 l17)).length := List.length_set
  have hx35 : ((ds.set j5 (DE.mk (f17 - n) g17 A17 c17 l17)).set j5 (DE.mk (f17 - n) (g17 + n) A17 c17 l17))[j5]? = some (DE.mk (f17 - n) (g17 + n) A17 c17 l17) := by rw [List.getElem?_set_self (List.getElem?_eq_some_iff.1 hx26).1]
  have hst36 := de_at hacc hx26
  have ht36 : tot ((xs.set j5 (Acc.mk (f17 - n) g17)).set j5 (Acc.mk (f17 - n) (g17 + n))) = tot (xs.set j5 (Acc.mk (f17 - n) g17)) + ((f17 - n) + (g17 + n)) - ((f17 - n) + g17) := tot_set _ hst36
  have hinv36 : Inv ((xs.set j5 (Acc.mk (f17 - n) g17)).set j5 (Acc.mk (f17 - n) (g17 + n))) := Inv.set hinv27 hst36 _ (by show 0 ≤ (f17 - n); omega) (by show 0 ≤ (g17 + n); omega) (by show tot (xs.set j5 (Acc.mk (f17 - n) g17)) + ((f17 - n) + (g17 + n)) - ((f17 - n) + g17) ≤ 1073741824; omega)
  replace hacc := map_set (j := j5) hacc (f17 - n) (g17 + n) A17 c17 l17
  replace hall := DAll.set hall hx26 (f17 - n) (g17 + n)
  exact Oer <| Oen [6] <| Rr (nt 0) ⟨by rw [hc4], ⟨F, by rw [show resX xs cs a n = addH (subF xs a n) a n from by unfold resX; rw [if_pos hc4], show subF xs a n = _ from by unfold subF; rw [setA_at hj5, acct_at hj5 hst27 hjl5], show addH (xs.set j5 (Acc.mk (f17 - n) g17)) a n = _ from by unfold addH; rw [setA_at hj5, acct_at hj5 hst36 hjl5]]; exact ⟨hinv36, hcl, hFx, fun q hq => Nat.lt_of_lt_of_le (hFlt q hq) (by omega), _, _, _, ⟨by simp only [List.length_set]; exact hx, At.slt hat33, hdx.own, hacc, hall⟩⟩, hF0⟩, hK0⟩
 ·
  refine Gn [23, 24, 25, 26, 27, 10, 11, 12, 13, 14, 15, 16, 17, 0, 1, 2, 3, 4, 5, 6, 7, 8, 18, 19, 30, 31, 32, 9, 28, 29, 33, 34, 35] [0, 1, 2, 37] <| Mc 0 (sl_ b6 o6 ds.length cap) qhx (by show ¬ (_ = _); omega) rfl <| Gn [25, 26, 27, 10, 11, 12, 13, 14, 15, 16, 17, 0, 1, 2, 3, 4, 5, 6, 7, 8, 18, 19, 30, 31, 32, 9, 28, 29, 33, 34, 35] [0, 1, 2, 38, 39] <| Gp_ [(0, pt x), (1, nt a), (2, nt n), (38, sl_ b6 o6 ds.length cap), (39, nt a)] <| Gq_ (u := nt a) (v := nt (j5 : Int)) 39 (by rw [hj5]) <| GI_pure (some 40) (.indexAddr 57 (.tmp 38) (.tmp 39)) (by kernel_rfl) (by kernel_rfl) (pure_idxN (b := b6) (o := o6) (len := ds.length) (cap := cap) (kd := .i64) (j := j5) (E := 56) (sz := 3) (by_ := 40) (by kernel_rfl) (by kernel_rfl) (by kernel_rfl) (by omega)) <| Gn [27, 10, 11, 12, 13, 14, 15, 16, 17, 0, 1, 2, 3, 4, 5, 6, 7, 8, 18, 19, 30, 31, 32, 9, 28, 29, 33, 34, 35] [0, 1, 2, 41] ?_
  obtain ⟨x37, hx38⟩ : ∃ x, ds[j5]? = some x := ⟨_, List.getElem?_eq_getElem (by first | omega | (simp only [List.length_map]; omega))⟩
  obtain ⟨f39, g39, A39, c39, l39⟩ := x37
  obtain ⟨hls39, hsl39, hso39⟩ := hall j5 _ hx38
  replace hls39 : l39 = rowL (j5 : Int) cs := hls39
  replace hsl39 : SlT w10 2 lkc A39 c39 l39 := hsl39
  replace hso39 : ∀ q, inA A39 q → _ := hso39
  obtain ⟨hbf39, hbh39, hbt39, _⟩ := hinv.at_ (de_at hacc hx38)
  replace hbf39 : 0 ≤ f39 := hbf39
  replace hbh39 : 0 ≤ g39 := hbh39
  replace hbt39 : f39 + g39 ≤ 1073741824 := hbt39
  have hsw39 : ∀ q, inA A39 q → q ≠ x ∧ q ≠ b6 ∧ q < w.heap.size := fun q hq => ⟨(hso39 q hq).2.1, fun e => (hso39 q hq).2.2 ⟨_, rfl, e⟩, hFlt q (hso39 q hq).1⟩
  have hsx39 := SlT.lt hsl39
  have hac_a : acct xs a = ⟨f39, g39⟩ := by rw [hj5]; exact de_acct hacc hx38 hjl5
  rw [hac_a] at hn3; replace hn3 : n ≤ f39 := hn3
  refine GI_cellA 3 (.tmp 41) (o6 + j5 * 3 + 1) (nt g39) (some 42) (by kernel_rfl) (by kernel_rfl) K14 (by kernel_rfl) hat6.blk (m := 1) (by kernel_rfl) (At.cell hat6 (es_at hx38) rfl) <| Gn [13, 14, 15, 16, 17, 0, 1, 2, 3, 4, 5, 6, 7, 8, 18, 19, 30, 31, 32, 9, 28, 29, 33, 34, 35] [0, 1, 2, 27, 42] <| Mc 0 (sl_ b6 o6 ds.length cap) qhx (by show ¬ (_ = _); omega) rfl <| Gn [15, 16, 17, 0, 1, 2, 3, 4, 5, 6, 7, 8, 18, 19, 30, 31, 32, 9, 28, 29, 33, 34, 35] [0, 1, 2, 28, 29, 42] <| Gp_ [(0, pt x), (1, nt a), (2, nt n), (28, sl_ b6 o6 ds.length cap), (29, nt a), (42, nt g39)] <| Gq_ (u := nt a) (v := nt (j5 : Int)) 29 (by rw [hj5]) <| GI_pure (some 30) (.indexAddr 57 (.tmp 28) (.tmp 29)) (by kernel_rfl) (by kernel_rfl) (pure_idxN (b := b6) (o := o6) (len := ds.length) (cap := cap) (kd := .i64) (j := j5) (E := 56) (sz := 3) (by_ := 40) (by kernel_rfl) (by kernel_rfl) (by kernel_rfl) (by omega)) <| Gn [17, 0, 1, 2, 3, 4, 5, 6, 7, 8, 18, 19, 30, 31, 32, 9, 28, 29, 33, 34, 35] [0, 1, 2, 31, 42] <| GI_cellA 3 (.tmp 31) (o6 + j5 * 3) (nt f39) (some 32) (by kernel_rfl) (by kernel_rfl) K14 (by kernel_rfl) hat6.blk (m := 1) (by kernel_rfl) (At.cell0 hat6 (es_at hx38) rfl) <| Gn [3, 4, 5, 6, 7, 8, 18, 19, 30, 31, 32, 9, 28, 29, 33, 34, 35] [0, 1, 2, 17, 32, 42] <| Mc 0 (sl_ b6 o6 ds.length cap) qhx (by show ¬ (_ = _); omega) rfl <| Gn [8, 18, 19, 30, 31, 32, 9, 28, 29, 33, 34, 35] [1, 2, 18, 19, 22, 32, 42] <| Mc 0 (sl_ b6 o6 ds.length cap) qhx (by show ¬ (_ = _); omega) rfl ?_
  have hw40 : IntKind.i64.wrap (f39 - n) = f39 - n := (wrap64_id (by omega) (by omega)).trans (by omega)
  refine Gs [30, 31, 32, 9, 28, 29, 33, 34, 35] [(1, nt a), (2, nt n), (18, sl_ b6 o6 ds.length cap), (19, nt a), (23, sl_ b6 o6 ds.length cap), (34, nt (IntKind.i64.wrap (f39 - n))), (42, nt g39)] <| Gq_ (u := nt (IntKind.i64.wrap (f39 - n))) (v := nt (f39 - n)) 34 (by rw [hw40]) <| Gp_ [(1, nt a), (2, nt n), (18, sl_ b6 o6 ds.length cap), (19, nt a), (23, sl_ b6 o6 ds.length cap), (34, nt (f39 - n)), (42, nt g39)] <| Gq_ (u := nt a) (v := nt (j5 : Int)) 19 (by rw [hj5]) <| GI_pure (some 45) (.indexAddr 57 (.tmp 18) (.tmp 19)) (by kernel_rfl) (by kernel_rfl) (pure_idxN (b := b6) (o := o6) (len := ds.length) (cap := cap) (kd := .i64) (j := j5) (E := 56) (sz := 3) (by_ := 40) (by kernel_rfl) (by kernel_rfl) (by kernel_rfl) (by omega)) <| Gn [32, 9, 28, 29, 33, 34, 35] [1, 2, 23, 34, 42, 46] <| GI_set (m := 1) (kd := false) 3 (.tmp 46) (.tmp 34) (o6 + j5 * 3) (nt (f39 - n)) [nt (f39 - n)] none (by kernel_rfl) (by kernel_rfl) (by kernel_rfl) (by kernel_rfl) (At.blk hat6) (by kernel_rfl) (by kernel_rfl) rfl (by have h1 := At.room hat6; have h2 := At.le hat6; rw [List.length_map] at h2; omega) (by simp [Value.oneCell']) K14 (fun hh => rfl) ?_
  intro w41 hn42 hk43 hz44 K46
  have hat45 := At.set (y := (DE.mk (f39 - n) g39 A39 c39 l39 : DE)) (k := 0) hat6 hx38 (by omega) (by simp [DE.cells, over]) hn42
  have hsz47 := Keep.size hk43
  replace hx := hx.k1 hk43
  replace hK0 := Keep.fresh hK0 hk43 (by intro i hi hs; have hs2 : i = b6 := hs; first | (exfalso; omega) | (rw [hs2]; exact (hdx.own _ ⟨_, rfl, rfl⟩).1))
  replace hall := DAll.keep hall hk43 (fun q h1 h2 h3 hs => by have hs : q = b6 := hs; exact h3 (hs ▸ ⟨_, rfl, rfl⟩))
  have hlhx48 : (ds.set j5 (DE.mk (f39 - n) g39 A39 c39 l39)).length = ds.length := List.length_set
  have hx48 : (ds.set j5 (DE.mk (f39 - n) g39 A39 c39 l39))[j5]? = some (DE.mk (f39 - n) g39 A39 c39 l39) := by rw [List.getElem?_set_self (List.getElem?_eq_some_iff.1 hx38).1]
  have hst49 := de_at hacc hx38
  have ht49 : tot (xs.set j5 (Acc.mk (f39 - n) g39)) = tot xs + ((f39 - n) + g39) - (f39 + g39) := tot_set _ hst49
  have hinv49 : Inv (xs.set j5 (Acc.mk (f39 - n) g39)) := Inv.set hinv hst49 _ (by show 0 ≤ (f39 - n); omega) (by show 0 ≤ g39; omega) (by show tot xs + ((f39 - n) + g39) - (f39 + g39) ≤ 1073741824; omega)
  replace hacc := map_set (j := j5) hacc (f39 - n) g39 A39 c39 l39
  replace hall := DAll.set hall hx38 (f39 - n) g39
  have hw50 : IntKind.i64.wrap (g39 + n) = g39 + n := (wrap64_id (by omega) (by omega)).trans (by omega)
  refine Gs [33, 34, 35] [(23, sl_ b6 o6 ds.length cap), (24, nt a), (44, nt (IntKind.i64.wrap (g39 + n)))] <| Gq_ (u := nt (IntKind.i64.wrap (g39 + n))) (v := nt (g39 + n)) 44 (by rw [hw50]) <| Gp_ [(23, sl_ b6 o6 ds.length cap), (24, nt a), (44, nt (g39 + n))] <| Gq_ (u := nt a) (v := nt (j5 : Int)) 24 (by rw [hj5]) <| GI_pure (some 47) (.indexAddr 57 (.tmp 23) (.tmp 24)) (by kernel_rfl) (by kernel_rfl) (pure_idxN (b := b6) (o := o6) (len := ds.length) (cap := cap) (kd := .i64) (j := j5) (E := 56) (sz := 3) (by_ := 40) (by kernel_rfl) (by kernel_rfl) (by kernel_rfl) (by omega)) <| Gn [35] [44, 48] <| GI_final 35 (by kernel_rfl) (by kernel_rfl) <| OI_set (m := 1) (kd := false) 3 (.tmp 48) (.tmp 44) (o6 + j5 * 3 + 1) (nt (g39 + n)) [nt (g39 + n)] none (by kernel_rfl) (by kernel_rfl) (by kernel_rfl) (At.blk hat45) (by kernel_rfl) (by kernel_rfl) rfl (by have h1 := At.room hat45; have h2 := At.le hat45; rw [List.length_map] at h2; omega) (by simp [Value.oneCell']) ?_
  intro w51 hn52 hk53 hz54
  have hat55 := At.set (y := (DE.mk (f39 - n) (g39 + n) A39 c39 l39 : DE)) (k := 1) hat45 hx48 (by omega) (by simp [DE.cells, over]) hn52
  have hsz56 := Keep.size hk53
  replace hx := hx.k1 hk53
  replace hK0 := Keep.fresh hK0 hk53 (by intro i hi hs; have hs2 : i = b6 := hs; first | (exfalso; omega) | (rw [hs2]; exact (hdx.own _ ⟨_, rfl, rfl⟩).1))
  replace hall := DAll.keep hall hk53 (fun q h1 h2 h3 hs => by have hs : q = b6 := hs; exact h3 (hs ▸ ⟨_, rfl, rfl⟩))
  have hlhx57 : ((ds.set j5 (DE.mk (f39 - n) g39 A39 c39 l39)).set j5 (DE.mk (f39 - n) (g39 + n) A39 c39 l39)).length = (ds.set j5 (DE.mk (f39 - n) g39 A39 c39 l39)).length := List.length_set
  have hx57 : ((ds.set j5 (DE.mk (f39 - n) g39 A39 c39 l39)).set j5 (DE.mk (f39 - n) (g39 + n) A39 c39 l39))[j5]? = some (DE.mk (f39 - n) (g39 + n) A39 c39 l39) := by rw [List.getElem?_set_self (List.getElem?_eq_some_iff.1 hx48).1]
  have hst58 := de_at hacc hx48
  have ht58 : tot ((xs.set j5 (Acc.mk (f39 - n) g39)).set j5 (Acc.mk (f39 - n) (g39 + n))) = tot (xs.set j5 (Acc.mk (f39 - n) g39)) + ((f39 - n) + (g39 + n)) - ((f39 - n) + g39) := tot_set _ hst58
  have hinv58 : Inv ((xs.set j5 (Acc.mk (f39 - n) g39)).set j5 (Acc.mk (f39 - n) (g39 + n))) := Inv.set hinv49 hst58 _ (by show 0 ≤ (f39 - n); omega) (by show 0 ≤ (g39 + n); omega) (by show tot (xs.set j5 (Acc.mk (f39 - n) g39)) + ((f39 - n) + (g39 + n)) - ((f39 - n) + g39) ≤ 1073741824; omega)
  replace hacc := map_set (j := j5) hacc (f39 - n) (g39 + n) A39 c39 l39
  replace hall := DAll.set hall hx48 (f39 - n) (g39 + n)
  exact Oer <| Oen [6] <| Rr (nt 0) ⟨by rw [hc4], ⟨F, by rw [show resX xs cs a n = addH (subF xs a n) a n from by unfold resX; rw [if_pos hc4], show subF xs a n = _ from by unfold subF; rw [setA_at hj5, acct_at hj5 hst49 hjl5], show addH (xs.set j5 (Acc.mk (f39 - n) g39)) a n = _ from by unfold addH; rw [setA_at hj5, acct_at hj5 hst58 hjl5]]; exact ⟨hinv58, hcl, hFx, fun q hq => Nat.lt_of_lt_of_le (hFlt q hq) (by omega), _, _, _, ⟨by simp only [List.length_set]; exact hx, At.slt hat55, hdx.own, hacc, hall⟩⟩, hF0⟩, hK0⟩
set_option maxHeartbeats 1000000 in
theorem burn6_spec (F : Nat → Prop) (x : Nat) (xs : List Acc) (cs : List Ci) (a n : Int) (w : World) (h : DLd F w x xs cs) : Calls Try.prog 46 #[pt x, nt a, nt n] w fun e w' => e = .returned (nt (spendsE xs cs a n)) ∧ (∃ F', DLd F' w' x (burnX xs cs a n) (cs) ∧ (∀ q, F' q → F q ∨ w.heap.size ≤ q)) ∧ Keep F w w' := by
 have hFlt := DLd.lt h
 have hxlt := hFlt _ (DLd.at_ h)
 have hinv := DLd.inv h
 have htot1 := hinv.2.2
 have htot0 := (tot_mem hinv.2.1).1
 have hF0 : ∀ q, F q → F q ∨ w.heap.size ≤ q := fun _ h => .inl h
 have hK0 : Keep F w w := Keep.refl _ _
 have hzhK0 := Keep.size hK0
 refine eV ?_
 refine Vr <| On 1 [0, 1, 2] <| Oer <| On 3 [0, 1, 2, 8, 9, 10] <| Kk (may6_spec F x xs cs a n _ h) fun w1 hk2 _ => ?_
 replace h := DLd.keep h hk2 nk
 replace hK0 := hK0.tn hk2
 refine On 5 [0, 1, 2, 7] <| Oe <| V_seq <| Vn [0, 1, 2, 7, 13] <| Vi (spendsE xs cs a n = 0) (fun hc4 => ?_) (fun hc4 => ?_)
 ·
  obtain ⟨hsa, hn1, hn2, hn3, _⟩ := spends_ok hinv hc4
  obtain ⟨_, hcl, hFx, _, A, cap, ds, hdx⟩ := h
  have hx := hdx.blk
  have hA := hdx.sl
  have hacc := hdx.acc
  have hall := hdx.all
  have hAx : ∀ q, inA A q → q ≠ x := fun q hq => (hdx.own q hq).2
  have hAlt := SlT.lt hA
  have hdl := de_len hacc hinv
  have hcl1 := hcl.1
  have hFlt9 : ∀ q, F q → q < w1.heap.size := fun q hq => Nat.lt_of_lt_of_le (hFlt q hq) (by omega)
  obtain ⟨j5, hj5, hjl5⟩ : ∃ j : Nat, a = j ∧ j < 10 := ⟨(a).toNat, by have h9 := hsa; simp only [isA, decide_eq_true_eq] at h9; omega, by have h9 := hsa; simp only [isA, decide_eq_true_eq] at h9; omega⟩
  have h10 : 0 < ds.length := by omega
  obtain ⟨b6, o6, L6, T6, rfl, hat6⟩ := SlT.open_ hA (by first | omega | (simp only [List.length_map]; omega) | (simp; done) | (simp; omega))
  have hb6lt := hat6.blk.lt
  have hob7 := hAx b6 ⟨_, rfl, rfl⟩
  have hob8 := hAlt b6 ⟨_, rfl, rfl⟩
  have hFb6 : b6 < w.heap.size := hFlt _ (hdx.own _ ⟨_, rfl, rfl⟩).1
  refine Vd1 (acts [12, 17]) (only b6) [5, 6, 7, 8, 9, 10, 11, 12, 0, 1, 2, 3, 4, 13, 14, 15, 16, 17] fun w10 hk9 he11 K14 _ => ?_
  replace hx := hx.k0 hk9
  replace hat6 := hat6.keep hk9 id
  replace hK0 := hK0.tn hk9
  replace hall := DAll.keep hall hk9 (fun _ _ _ _ f => f)
  have qhx := hx
  refine Gn [8, 9, 10, 11, 12, 0, 1, 2, 3, 4, 13, 14, 15, 16, 17] [0, 1, 2, 7, 21] <| Mc 0 (sl_ b6 o6 ds.length cap) qhx (by show ¬ (_ = _); omega) rfl <| Gn [10, 11, 12, 0, 1, 2, 3, 4, 13, 14, 15, 16, 17] [0, 1, 2, 7, 22, 23] <| Gp_ [(0, pt x), (1, nt a), (2, nt n), (7, nt (spendsE xs cs a n)), (22, sl_ b6 o6 ds.length cap), (23, nt a)] <| Gq_ (u := nt a) (v := nt (j5 : Int)) 23 (by rw [hj5]) <| GI_pure (some 24) (.indexAddr 57 (.tmp 22) (.tmp 23)) (by kernel_rfl) (by kernel_rfl) (pure_idxN (b := b6) (o := o6) (len := ds.length) (cap := cap) (kd := .i64) (j := j5) (E := 56) (sz := 3) (by_ := 40) (by kernel_rfl) (by kernel_rfl) (by kernel_rfl) (by omega)) <| Gn [12, 0, 1, 2, 3, 4, 13, 14, 15, 16, 17] [0, 1, 2, 7, 25] ?_
  obtain ⟨x15, hx16⟩ : ∃ x, ds[j5]? = some x := ⟨_, List.getElem?_eq_getElem (by first | omega | (simp only [List.length_map]; omega))⟩
  obtain ⟨f17, g17, A17, c17, l17⟩ := x15
  obtain ⟨hls17, hsl17, hso17⟩ := hall j5 _ hx16
  replace hls17 : l17 = rowL (j5 : Int) cs := hls17
  replace hsl17 : SlT w10 2 lkc A17 c17 l17 := hsl17
  replace hso17 : ∀ q, inA A17 q → _ := hso17
  obtain ⟨hbf17, hbh17, hbt17, _⟩ := hinv.at_ (de_at hacc hx16)
  replace hbf17 : 0 ≤ f17 := hbf17
  replace hbh17 : 0 ≤ g17 := hbh17
  replace hbt17 : f17 + g17 ≤ 1073741824 := hbt17
  have hsw17 : ∀ q, inA A17 q → q ≠ x ∧ q ≠ b6 ∧ q < w.heap.size := fun q hq => ⟨(hso17 q hq).2.1, fun e => (hso17 q hq).2.2 ⟨_, rfl, e⟩, hFlt q (hso17 q hq).1⟩
  have hsx17 := SlT.lt hsl17
  have hac_a : acct xs a = ⟨f17, g17⟩ := by rw [hj5]; exact de_acct hacc hx16 hjl5
  rw [hac_a] at hn3; replace hn3 : n ≤ f17 := hn3
  refine GI_cellA 3 (.tmp 25) (o6 + j5 * 3) (nt f17) (some 26) (by kernel_rfl) (by kernel_rfl) K14 (by kernel_rfl) hat6.blk (m := 1) (by kernel_rfl) (At.cell0 hat6 (es_at hx16) rfl) <| Gn [3, 4, 13, 14, 15, 16, 17] [1, 2, 7, 16, 26] <| Mc 0 (sl_ b6 o6 ds.length cap) qhx (by show ¬ (_ = _); omega) rfl ?_
  have hw18 : IntKind.i64.wrap (f17 - n) = f17 - n := (wrap64_id (by omega) (by omega)).trans (by omega)
  refine Gs [15, 16, 17] [(7, nt (spendsE xs cs a n)), (17, sl_ b6 o6 ds.length cap), (18, nt a), (28, nt (IntKind.i64.wrap (f17 - n)))] <| Gq_ (u := nt (IntKind.i64.wrap (f17 - n))) (v := nt (f17 - n)) 28 (by rw [hw18]) <| Gp_ [(7, nt (spendsE xs cs a n)), (17, sl_ b6 o6 ds.length cap), (18, nt a), (28, nt (f17 - n))] <| Gq_ (u := nt a) (v := nt (j5 : Int)) 18 (by rw [hj5]) <| GI_pure (some 29) (.indexAddr 57 (.tmp 17) (.tmp 18)) (by kernel_rfl) (by kernel_rfl) (pure_idxN (b := b6) (o := o6) (len := ds.length) (cap := cap) (kd := .i64) (j := j5) (E := 56) (sz := 3) (by_ := 40) (by kernel_rfl) (by kernel_rfl) (by kernel_rfl) (by omega)) <| Gn [17] [7, 28, 30] <| GI_final 17 (by kernel_rfl) (by kernel_rfl) <| OI_set (m := 1) (kd := false) 3 (.tmp 30) (.tmp 28) (o6 + j5 * 3) (nt (f17 - n)) [nt (f17 - n)] none (by kernel_rfl) (by kernel_rfl) (by kernel_rfl) (At.blk hat6) (by kernel_rfl) (by kernel_rfl) rfl (by have h1 := At.room hat6; have h2 := At.le hat6; rw [List.length_map] at h2; omega) (by simp [Value.oneCell']) ?_
  intro w19 hn20 hk21 hz22
  have hat23 := At.set (y := (DE.mk (f17 - n) g17 A17 c17 l17 : DE)) (k := 0) hat6 hx16 (by omega) (by simp [DE.cells, over]) hn20
  have hsz24 := Keep.size hk21
  replace hx := hx.k1 hk21
  replace hK0 := Keep.fresh hK0 hk21 (by intro i hi hs; have hs2 : i = b6 := hs; first | (exfalso; omega) | (rw [hs2]; exact (hdx.own _ ⟨_, rfl, rfl⟩).1))
  replace hall := DAll.keep hall hk21 (fun q h1 h2 h3 hs => by have hs : q = b6 := hs; exact h3 (hs ▸ ⟨_, rfl, rfl⟩))
  have hlhx25 : (ds.set j5 (DE.mk (f17 - n) g17 A17 c17 l17)).length = ds.length := List.length_set
  have hx25 : (ds.set j5 (DE.mk (f17 - n) g17 A17 c17 l17))[j5]? = some (DE.mk (f17 - n) g17 A17 c17 l17) := by rw [List.getElem?_set_self (List.getElem?_eq_some_iff.1 hx16).1]
  have hst26 := de_at hacc hx16
  have ht26 : tot (xs.set j5 (Acc.mk (f17 - n) g17)) = tot xs + ((f17 - n) + g17) - (f17 + g17) := tot_set _ hst26
  have hinv26 : Inv (xs.set j5 (Acc.mk (f17 - n) g17)) := Inv.set hinv hst26 _ (by show 0 ≤ (f17 - n); omega) (by show 0 ≤ g17; omega) (by show tot xs + ((f17 - n) + g17) - (f17 + g17) ≤ 1073741824; omega)
  replace hacc := map_set (j := j5) hacc (f17 - n) g17 A17 c17 l17
  replace hall := DAll.set hall hx16 (f17 - n) g17
  exact Oer <| Oen [6] <| Rr (nt (spendsE xs cs a n)) ⟨by rw [hc4], ⟨F, by rw [show burnX xs cs a n = subF xs a n from by unfold burnX; rw [if_pos hc4], show subF xs a n = _ from by unfold subF; rw [setA_at hj5, acct_at hj5 hst26 hjl5]]; exact ⟨hinv26, hcl, hFx, fun q hq => Nat.lt_of_lt_of_le (hFlt q hq) (by omega), _, _, _, ⟨by simp only [List.length_set]; exact hx, At.slt hat23, hdx.own, hacc, hall⟩⟩, hF0⟩, hK0⟩
 exact Vsk <| Vn [6] <| Rr (nt (spendsE xs cs a n)) ⟨rfl, ⟨F, by rw [show burnX xs cs a n = xs from by unfold burnX; simp_all]; exact h, hF0⟩, hK0⟩
set_option maxHeartbeats 1000000 in
theorem mint6_spec (F : Nat → Prop) (x : Nat) (xs : List Acc) (cs : List Ci) (a n : Int) (w : World) (h : DLd F w x xs cs) : Calls Try.prog 45 #[pt x, nt a, nt n] w fun e w' => e = .returned (nt (mintE xs a n)) ∧ (∃ F', DLd F' w' x (mintX xs a n) (cs) ∧ (∀ q, F' q → F q ∨ w.heap.size ≤ q)) ∧ Keep F w w' := by
 have hFlt := DLd.lt h
 have hxlt := hFlt _ (DLd.at_ h)
 have hinv := DLd.inv h
 have htot1 := hinv.2.2
 have htot0 := (tot_mem hinv.2.1).1
 have hF0 : ∀ q, F q → F q ∨ w.heap.size ≤ q := fun _ h => .inl h
 have hK0 : Keep F w w := Keep.refl _ _
 have hzhK0 := Keep.size hK0
 refine eV ?_
 refine Vr <| On 1 [0, 1, 2] <| Oe <| V_seq <| V_block <| Vr <| On 1 [0, 1, 2, 8] <| Kq (is6_spec a _) <| Os 4 [(0, pt x), (1, nt a), (2, nt n), (11, .bool (!(isA a)))] ?_
 cases hg6 : (!(isA a))
 ·
  refine OI_eq [(0, pt x), (1, nt a), (2, nt n), (11, .bool false)] (by first | rfl | rw [hg6]) <| On 8 [0, 1, 2, 15] ?_
  by_cases hg7 : n < 0
  ·
   exact Dt 15 hg7 <| Oen [0, 1, 2, 7] <| Vo <| Vn [6] <| V_ret <| X_ret_block <| X_ret_then <| Xr (nt 1) ⟨by unfold mintE; simp_all <;> omega, ⟨F, by rw [show mintX xs a n = xs from by unfold mintX; rw [if_neg]; unfold mintE; simp_all <;> omega]; exact h, hF0⟩, hK0⟩
  refine Df 15 hg7 <| Oen [0, 1, 2, 7] <| Vi (n > 1073741824) (fun hc8 => ?_) (fun hc8 => ?_)
  ·
   exact Vn [6] <| V_ret <| X_ret_block <| X_ret_then <| Xr (nt 1) ⟨by unfold mintE; simp_all <;> omega, ⟨F, by rw [show mintX xs a n = xs from by unfold mintX; rw [if_neg]; unfold mintE; simp_all <;> omega]; exact h, hF0⟩, hK0⟩
  refine Vr <| On 2 [0, 1, 2, 20, 21] <| Kk (issued6_spec F x xs cs _ h) fun w9 hk10 _ => ?_
  replace h := DLd.keep h hk10 nk
  replace hK0 := hK0.tn hk10
  have hw12 : IntKind.i64.wrap (1073741824 - (tot xs)) = 1073741824 - (tot xs) := (wrap64_id (by omega) (by omega)).trans (by omega)
  refine On 4 [0, 1, 2, 20, 23] <| Oq (u := nt (IntKind.i64.wrap (1073741824 - (tot xs)))) (v := nt (1073741824 - (tot xs))) 23 (by rw [hw12]) <| Oen [0, 1, 2, 19] <| Vi (n > 1073741824 - (tot xs)) (fun hc13 => ?_) (fun hc13 => ?_)
  ·
   exact Vn [6] <| V_ret <| X_ret_block <| X_ret_then <| Xr (nt 10) ⟨by unfold mintE; simp_all <;> omega, ⟨F, by rw [show mintX xs a n = xs from by unfold mintX; rw [if_neg]; unfold mintE; simp_all <;> omega]; exact h, hF0⟩, hK0⟩
  have hsa : isA a = true := by simpa using hg6
  obtain ⟨_, hcl, hFx, _, A, cap, ds, hdx⟩ := h
  have hx := hdx.blk
  have hA := hdx.sl
  have hacc := hdx.acc
  have hall := hdx.all
  have hAx : ∀ q, inA A q → q ≠ x := fun q hq => (hdx.own q hq).2
  have hAlt := SlT.lt hA
  have hdl := de_len hacc hinv
  have hcl1 := hcl.1
  have hFlt9 : ∀ q, F q → q < w9.heap.size := fun q hq => Nat.lt_of_lt_of_le (hFlt q hq) (by omega)
  obtain ⟨j14, hj14, hjl14⟩ : ∃ j : Nat, a = j ∧ j < 10 := ⟨(a).toNat, by have h9 := hsa; simp only [isA, decide_eq_true_eq] at h9; omega, by have h9 := hsa; simp only [isA, decide_eq_true_eq] at h9; omega⟩
  have hm0 : mintE xs a n = 0 := mint_ok hsa (by omega) hc13
  refine V_skip <| X_block <| X_then <| V_seq ?_
  have h10 : 0 < ds.length := by omega
  obtain ⟨b15, o15, L15, T15, rfl, hat15⟩ := SlT.open_ hA (by first | omega | (simp only [List.length_map]; omega) | (simp; done) | (simp; omega))
  have hb15lt := hat15.blk.lt
  have hob16 := hAx b15 ⟨_, rfl, rfl⟩
  have hob17 := hAlt b15 ⟨_, rfl, rfl⟩
  have hFb15 : b15 < w.heap.size := hFlt _ (hdx.own _ ⟨_, rfl, rfl⟩).1
  refine V_draws (acts [12, 17]) (only b15) [[5, 6, 7, 8, 9, 10, 11, 12, 0, 1, 2, 3, 4, 13, 14, 15, 16, 17]] (by kernel_rfl) (by repeat first | exact (by first | exact sure_body (by rintro _ _ ⟨h, _⟩; exact ⟨_, h⟩)) | refine sure_then ?_ | refine sure_block ?_ | refine sure_join ?_) (by kernel_rfl) ?_
  intro w19 hk18 he20 L hL21
  have hsz22 := Keep.size hk18
  replace hx := hx.k0 hk18
  replace hat15 := hat15.keep hk18 id
  replace hK0 := hK0.tn hk18
  replace hall := DAll.keep hall hk18 (fun _ _ _ _ f => f)
  have qhx := hx
  have K23 : Keep (only b15) w19 w19 := Keep.refl _ _
  obtain rfl := List.mem_singleton.1 hL21
  refine Gn [8, 9, 10, 11, 12, 0, 1, 2, 3, 4, 13, 14, 15, 16, 17] [0, 1, 2, 32] <| Mc 0 (sl_ b15 o15 ds.length cap) qhx (by show ¬ (_ = _); omega) rfl <| Gn [10, 11, 12, 0, 1, 2, 3, 4, 13, 14, 15, 16, 17] [0, 1, 2, 33, 34] <| Gp_ [(0, pt x), (1, nt a), (2, nt n), (33, sl_ b15 o15 ds.length cap), (34, nt a)] <| Gq_ (u := nt a) (v := nt (j14 : Int)) 34 (by rw [hj14]) <| GI_pure (some 35) (.indexAddr 57 (.tmp 33) (.tmp 34)) (by kernel_rfl) (by kernel_rfl) (pure_idxN (b := b15) (o := o15) (len := ds.length) (cap := cap) (kd := .i64) (j := j14) (E := 56) (sz := 3) (by_ := 40) (by kernel_rfl) (by kernel_rfl) (by kernel_rfl) (by omega)) <| Gn [12, 0, 1, 2, 3, 4, 13, 14, 15, 16, 17] [0, 1, 2, 36] ?_
  obtain ⟨x24, hx25⟩ : ∃ x, ds[j14]? = some x := ⟨_, List.getElem?_eq_getElem (by first | omega | (simp only [List.length_map]; omega))⟩
  obtain ⟨f26, g26, A26, c26, l26⟩ := x24
  obtain ⟨hls26, hsl26, hso26⟩ := hall j14 _ hx25
  replace hls26 : l26 = rowL (j14 : Int) cs := hls26
  replace hsl26 : SlT w19 2 lkc A26 c26 l26 := hsl26
  replace hso26 : ∀ q, inA A26 q → _ := hso26
  obtain ⟨hbf26, hbh26, hbt26, _⟩ := hinv.at_ (de_at hacc hx25)
  replace hbf26 : 0 ≤ f26 := hbf26
  replace hbh26 : 0 ≤ g26 := hbh26
  replace hbt26 : f26 + g26 ≤ 1073741824 := hbt26
  have hsw26 : ∀ q, inA A26 q → q ≠ x ∧ q ≠ b15 ∧ q < w.heap.size := fun q hq => ⟨(hso26 q hq).2.1, fun e => (hso26 q hq).2.2 ⟨_, rfl, e⟩, hFlt q (hso26 q hq).1⟩
  have hsx26 := SlT.lt hsl26
  have hac_a : acct xs a = ⟨f26, g26⟩ := by rw [hj14]; exact de_acct hacc hx25 hjl14
  refine GI_cellA 3 (.tmp 36) (o15 + j14 * 3) (nt f26) (some 37) (by kernel_rfl) (by kernel_rfl) K23 (by kernel_rfl) hat15.blk (m := 1) (by kernel_rfl) (At.cell0 hat15 (es_at hx25) rfl) <| Gn [3, 4, 13, 14, 15, 16, 17] [1, 2, 27, 37] <| Mc 0 (sl_ b15 o15 ds.length cap) qhx (by show ¬ (_ = _); omega) rfl ?_
  have hw27 : IntKind.i64.wrap (f26 + n) = f26 + n := (wrap64_id (by omega) (by omega)).trans (by omega)
  refine Gs [15, 16, 17] [(28, sl_ b15 o15 ds.length cap), (29, nt a), (39, nt (IntKind.i64.wrap (f26 + n)))] <| Gq_ (u := nt (IntKind.i64.wrap (f26 + n))) (v := nt (f26 + n)) 39 (by rw [hw27]) <| Gp_ [(28, sl_ b15 o15 ds.length cap), (29, nt a), (39, nt (f26 + n))] <| Gq_ (u := nt a) (v := nt (j14 : Int)) 29 (by rw [hj14]) <| GI_pure (some 40) (.indexAddr 57 (.tmp 28) (.tmp 29)) (by kernel_rfl) (by kernel_rfl) (pure_idxN (b := b15) (o := o15) (len := ds.length) (cap := cap) (kd := .i64) (j := j14) (E := 56) (sz := 3) (by_ := 40) (by kernel_rfl) (by kernel_rfl) (by kernel_rfl) (by omega)) <| Gn [17] [39, 41] <| GI_final 17 (by kernel_rfl) (by kernel_rfl) <| OI_set (m := 1) (kd := false) 3 (.tmp 41) (.tmp 39) (o15 + j14 * 3) (nt (f26 + n)) [nt (f26 + n)] none (by kernel_rfl) (by kernel_rfl) (by kernel_rfl) (At.blk hat15) (by kernel_rfl) (by kernel_rfl) rfl (by have h1 := At.room hat15; have h2 := At.le hat15; rw [List.length_map] at h2; omega) (by simp [Value.oneCell']) ?_
  intro w28 hn29 hk30 hz31
  have hat32 := At.set (y := (DE.mk (f26 + n) g26 A26 c26 l26 : DE)) (k := 0) hat15 hx25 (by omega) (by simp [DE.cells, over]) hn29
  have hsz33 := Keep.size hk30
  replace hx := hx.k1 hk30
  replace hK0 := Keep.fresh hK0 hk30 (by intro i hi hs; have hs2 : i = b15 := hs; first | (exfalso; omega) | (rw [hs2]; exact (hdx.own _ ⟨_, rfl, rfl⟩).1))
  replace hall := DAll.keep hall hk30 (fun q h1 h2 h3 hs => by have hs : q = b15 := hs; exact h3 (hs ▸ ⟨_, rfl, rfl⟩))
  have hlhx34 : (ds.set j14 (DE.mk (f26 + n) g26 A26 c26 l26)).length = ds.length := List.length_set
  have hx34 : (ds.set j14 (DE.mk (f26 + n) g26 A26 c26 l26))[j14]? = some (DE.mk (f26 + n) g26 A26 c26 l26) := by rw [List.getElem?_set_self (List.getElem?_eq_some_iff.1 hx25).1]
  have hst35 := de_at hacc hx25
  have ht35 : tot (xs.set j14 (Acc.mk (f26 + n) g26)) = tot xs + ((f26 + n) + g26) - (f26 + g26) := tot_set _ hst35
  have hinv35 : Inv (xs.set j14 (Acc.mk (f26 + n) g26)) := Inv.set hinv hst35 _ (by show 0 ≤ (f26 + n); omega) (by show 0 ≤ g26; omega) (by show tot xs + ((f26 + n) + g26) - (f26 + g26) ≤ 1073741824; omega)
  replace hacc := map_set (j := j14) hacc (f26 + n) g26 A26 c26 l26
  replace hall := DAll.set hall hx25 (f26 + n) g26
  exact Oer <| Oen [6] <| Rr (nt 0) ⟨by rw [hm0], ⟨F, by rw [show mintX xs a n = addF xs a n from by unfold mintX; rw [if_pos hm0], show addF xs a n = _ from by unfold addF; rw [setA_at hj14, acct_at hj14 hst35 hjl14]]; exact ⟨hinv35, hcl, hFx, fun q hq => Nat.lt_of_lt_of_le (hFlt q hq) (by omega), _, _, _, ⟨by simp only [List.length_set]; exact hx, At.slt hat32, hdx.own, hacc, hall⟩⟩, hF0⟩, hK0⟩
 exact OI_eq [(0, pt x), (1, nt a), (2, nt n), (11, .bool true)] (by first | rfl | rw [hg6]) <| Oen [0, 1, 2, 7] <| Vo <| Vn [6] <| V_ret <| X_ret_block <| X_ret_then <| Xr (nt 1) ⟨by unfold mintE; simp_all <;> omega, ⟨F, by rw [show mintX xs a n = xs from by unfold mintX; rw [if_neg]; unfold mintE; simp_all <;> omega]; exact h, hF0⟩, hK0⟩
end Go.Al

namespace Go.Al
open Go Go.RowKit Go.Proofs
theorem tk_neg {xs : List Acc} {a n : Int} (hi : Inv xs) (ha : isA a = true) (hn : n < 0) : tkN xs a n = 0 ∧ tkX xs a n = xs := by
  have hb := acct_bnd hi a
  have h0 : tkN xs a n = 0 := by unfold tkN imax imin; rw [if_pos ha]; split <;> (try split) <;> omega
  refine ⟨h0, ?_⟩
  unfold tkX; rw [if_pos ha, h0, subH_0 hi a ha]
theorem tk_no {xs : List Acc} {a n : Int} (ha : isA a = false) : tkN xs a n = 0 ∧ tkX xs a n = xs := by
  unfold tkX tkN; rw [ha]; exact ⟨rfl, rfl⟩
theorem tk_yes {xs : List Acc} {a n : Int} (hi : Inv xs) (ha : isA a = true) (hn : ¬ n < 0) : tkN xs a n = imin n (acct xs a).held ∧ 0 ≤ imin n (acct xs a).held ∧ imin n (acct xs a).held ≤ (acct xs a).held := by
  have hb := acct_bnd hi a
  unfold tkN; rw [if_pos ha]
  unfold imax imin; split <;> (try split) <;> omega
set_option maxHeartbeats 1000000 in
theorem take6_at (F : Nat → Prop) (x : Nat) (xs : List Acc) (cs : List Ci) (a n : Int) (w : World) (h : DLd F w x xs cs) : Calls Try.prog 58 #[pt x, nt a, nt n] w fun e w' => e = .returned (nt (tkN xs a n)) ∧ DLd F w' x (tkX xs a n) cs ∧ Keep F w w' := by
 have hFlt := DLd.lt h
 have hxlt := hFlt _ (DLd.at_ h)
 have hinv := DLd.inv h
 have htot1 := hinv.2.2
 have htot0 := (tot_mem hinv.2.1).1
 have hF0 : ∀ q, F q → F q ∨ w.heap.size ≤ q := fun _ h => .inl h
 have hK0 : Keep F w w := Keep.refl _ _
 have hzhK0 := Keep.size hK0
 refine eV ?_
 refine Vr <| On 1 [0, 1, 2] <| Oe <| V_seq <| Vr <| On 1 [0, 1, 2, 7] <| Kq (is6_spec a _) <| Os 4 [(0, pt x), (1, nt a), (2, nt n), (10, .bool (!(isA a)))] ?_
 cases hg6 : (!(isA a))
 ·
  refine OI_eq [(0, pt x), (1, nt a), (2, nt n), (10, .bool false)] (by first | rfl | rw [hg6]) <| Oen [0, 1, 2, 13] <| Vi (n < 0) (fun hc7 => ?_) (fun hc7 => ?_)
  ·
   refine Vn [6] <| Rt ?_
   obtain ⟨ht1, ht2⟩ : tkN xs a n = 0 ∧ tkX xs a n = xs := tk_neg hinv (by simpa using hg6) hc7
   exact Xr (nt 0) ⟨by rw [ht1], by rw [ht2]; exact h, hK0⟩
  have hsa : isA a = true := by simpa using hg6
  obtain ⟨htk1, htk2, htk3⟩ := tk_yes hinv hsa hc7
  obtain ⟨_, hcl, hFx, _, A, cap, ds, hdx⟩ := h
  have hx := hdx.blk
  have hA := hdx.sl
  have hacc := hdx.acc
  have hall := hdx.all
  have hAx : ∀ q, inA A q → q ≠ x := fun q hq => (hdx.own q hq).2
  have hAlt := SlT.lt hA
  have hdl := de_len hacc hinv
  have hcl1 := hcl.1
  have hFlt9 : ∀ q, F q → q < w.heap.size := fun q hq => Nat.lt_of_lt_of_le (hFlt q hq) (by omega)
  obtain ⟨j8, hj8, hjl8⟩ : ∃ j : Nat, a = j ∧ j < 10 := ⟨(a).toNat, by have h9 := hsa; simp only [isA, decide_eq_true_eq] at h9; omega, by have h9 := hsa; simp only [isA, decide_eq_true_eq] at h9; omega⟩
  refine Vsk <| Vr <| On 4 [0, 1, 14, 17] <| Lr 0 (.slice A ds.length cap) hx <| On 6 [0, 1, 14, 18, 19] ?_
  obtain ⟨b9, o9, L9, T9, rfl, hat9⟩ := SlT.open_ hA (by first | omega | (simp only [List.length_map]; omega) | (simp; done) | (simp; omega))
  have hb9lt := hat9.blk.lt
  have hob10 := hAx b9 ⟨_, rfl, rfl⟩
  have hob11 := hAlt b9 ⟨_, rfl, rfl⟩
  have hFb9 : b9 < w.heap.size := hFlt _ (hdx.own _ ⟨_, rfl, rfl⟩).1
  refine Op_ [(0, pt x), (1, nt a), (14, nt n), (18, sl_ b9 o9 ds.length cap), (19, nt a)] <| Oq (u := nt a) (v := nt (j8 : Int)) 19 (by rw [hj8]) <| Oi (b := b9) (o := o9) (len := ds.length) (cap := cap) (j := j8) (some 20) 57 (.tmp 18) (.tmp 19) 56 3 40 .i64 <| On 8 [0, 1, 14, 21] ?_
  obtain ⟨x12, hx13⟩ : ∃ x, ds[j8]? = some x := ⟨_, List.getElem?_eq_getElem (by first | omega | (simp only [List.length_map]; omega))⟩
  obtain ⟨f14, g14, A14, c14, l14⟩ := x12
  obtain ⟨hls14, hsl14, hso14⟩ := hall j8 _ hx13
  replace hls14 : l14 = rowL (j8 : Int) cs := hls14
  replace hsl14 : SlT w 2 lkc A14 c14 l14 := hsl14
  replace hso14 : ∀ q, inA A14 q → _ := hso14
  obtain ⟨hbf14, hbh14, hbt14, _⟩ := hinv.at_ (de_at hacc hx13)
  replace hbf14 : 0 ≤ f14 := hbf14
  replace hbh14 : 0 ≤ g14 := hbh14
  replace hbt14 : f14 + g14 ≤ 1073741824 := hbt14
  have hsw14 : ∀ q, inA A14 q → q ≠ x ∧ q ≠ b9 ∧ q < w.heap.size := fun q hq => ⟨(hso14 q hq).2.1, fun e => (hso14 q hq).2.2 ⟨_, rfl, e⟩, hFlt q (hso14 q hq).1⟩
  have hsx14 := SlT.lt hsl14
  have hac_a : acct xs a = ⟨f14, g14⟩ := by rw [hj8]; exact de_acct hacc hx13 hjl8
  rw [hac_a] at htk1 htk2 htk3; replace htk1 : tkN xs a n = imin n g14 := htk1; replace htk2 : 0 ≤ imin n g14 := htk2; replace htk3 : imin n g14 ≤ g14 := htk3
  refine Lc (o9 + j8 * 3 + 1) (nt g14) hat9.blk (At.cell hat9 (es_at hx13) rfl) <| Oen [0, 1, 2] <| V_seq <| Vd1 (acts [12, 17]) (only b9) [5, 6, 7, 8, 9, 10, 11, 12, 0, 1, 2, 3, 4, 13, 14, 15, 16, 17] fun w16 hk15 he17 K20 _ => ?_
  replace hx := hx.k0 hk15
  replace hat9 := hat9.keep hk15 id
  replace hK0 := hK0.tn hk15
  replace hall := DAll.keep hall hk15 (fun _ _ _ _ f => f)
  have qhx := hx
  refine Gn [8, 9, 10, 11, 12, 0, 1, 2, 3, 4, 13, 14, 15, 16, 17] [0, 1, 2, 31] <| Mc 0 (sl_ b9 o9 ds.length cap) qhx (by show ¬ (_ = _); omega) rfl <| Gn [10, 11, 12, 0, 1, 2, 3, 4, 13, 14, 15, 16, 17] [0, 1, 2, 32, 33] <| Gp_ [(0, pt x), (1, nt a), (2, nt (imin n g14)), (32, sl_ b9 o9 ds.length cap), (33, nt a)] <| Gq_ (u := nt a) (v := nt (j8 : Int)) 33 (by rw [hj8]) <| GI_pure (some 34) (.indexAddr 57 (.tmp 32) (.tmp 33)) (by kernel_rfl) (by kernel_rfl) (pure_idxN (b := b9) (o := o9) (len := ds.length) (cap := cap) (kd := .i64) (j := j8) (E := 56) (sz := 3) (by_ := 40) (by kernel_rfl) (by kernel_rfl) (by kernel_rfl) (by omega)) <| Gn [12, 0, 1, 2, 3, 4, 13, 14, 15, 16, 17] [0, 1, 2, 35] <| GI_cellA 3 (.tmp 35) (o9 + j8 * 3 + 1) (nt g14) (some 36) (by kernel_rfl) (by kernel_rfl) K20 (by kernel_rfl) hat9.blk (m := 1) (by kernel_rfl) (At.cell hat9 (es_at hx13) rfl) <| Gn [3, 4, 13, 14, 15, 16, 17] [1, 2, 26, 36] <| Mc 0 (sl_ b9 o9 ds.length cap) qhx (by show ¬ (_ = _); omega) rfl ?_
  have hw21 : IntKind.i64.wrap (g14 - (imin n g14)) = g14 - (imin n g14) := (wrap64_id (by omega) (by omega)).trans (by omega)
  refine Gs [15, 16, 17] [(2, nt (imin n g14)), (27, sl_ b9 o9 ds.length cap), (28, nt a), (38, nt (IntKind.i64.wrap (g14 - (imin n g14))))] <| Gq_ (u := nt (IntKind.i64.wrap (g14 - (imin n g14)))) (v := nt (g14 - (imin n g14))) 38 (by rw [hw21]) <| Gp_ [(2, nt (imin n g14)), (27, sl_ b9 o9 ds.length cap), (28, nt a), (38, nt (g14 - (imin n g14)))] <| Gq_ (u := nt a) (v := nt (j8 : Int)) 28 (by rw [hj8]) <| GI_pure (some 39) (.indexAddr 57 (.tmp 27) (.tmp 28)) (by kernel_rfl) (by kernel_rfl) (pure_idxN (b := b9) (o := o9) (len := ds.length) (cap := cap) (kd := .i64) (j := j8) (E := 56) (sz := 3) (by_ := 40) (by kernel_rfl) (by kernel_rfl) (by kernel_rfl) (by omega)) <| Gn [17] [2, 38, 40] <| GI_final 17 (by kernel_rfl) (by kernel_rfl) <| OI_set (m := 1) (kd := false) 3 (.tmp 40) (.tmp 38) (o9 + j8 * 3 + 1) (nt (g14 - (imin n g14))) [nt (g14 - (imin n g14))] none (by kernel_rfl) (by kernel_rfl) (by kernel_rfl) (At.blk hat9) (by kernel_rfl) (by kernel_rfl) rfl (by have h1 := At.room hat9; have h2 := At.le hat9; rw [List.length_map] at h2; omega) (by simp [Value.oneCell']) ?_
  intro w22 hn23 hk24 hz25
  have hat26 := At.set (y := (DE.mk f14 (g14 - (imin n g14)) A14 c14 l14 : DE)) (k := 1) hat9 hx13 (by omega) (by simp [DE.cells, over]) hn23
  have hsz27 := Keep.size hk24
  replace hx := hx.k1 hk24
  replace hK0 := Keep.fresh hK0 hk24 (by intro i hi hs; have hs2 : i = b9 := hs; first | (exfalso; omega) | (rw [hs2]; exact (hdx.own _ ⟨_, rfl, rfl⟩).1))
  replace hall := DAll.keep hall hk24 (fun q h1 h2 h3 hs => by have hs : q = b9 := hs; exact h3 (hs ▸ ⟨_, rfl, rfl⟩))
  have hlhx28 : (ds.set j8 (DE.mk f14 (g14 - (imin n g14)) A14 c14 l14)).length = ds.length := List.length_set
  have hx28 : (ds.set j8 (DE.mk f14 (g14 - (imin n g14)) A14 c14 l14))[j8]? = some (DE.mk f14 (g14 - (imin n g14)) A14 c14 l14) := by rw [List.getElem?_set_self (List.getElem?_eq_some_iff.1 hx13).1]
  have hst29 := de_at hacc hx13
  have ht29 : tot (xs.set j8 (Acc.mk f14 (g14 - (imin n g14)))) = tot xs + (f14 + (g14 - (imin n g14))) - (f14 + g14) := tot_set _ hst29
  have hinv29 : Inv (xs.set j8 (Acc.mk f14 (g14 - (imin n g14)))) := Inv.set hinv hst29 _ (by show 0 ≤ f14; omega) (by show 0 ≤ (g14 - (imin n g14)); omega) (by show tot xs + (f14 + (g14 - (imin n g14))) - (f14 + g14) ≤ 1073741824; omega)
  replace hacc := map_set (j := j8) hacc f14 (g14 - (imin n g14)) A14 c14 l14
  replace hall := DAll.set hall hx13 f14 (g14 - (imin n g14))
  exact Oer <| Oen [6] <| Rr (nt (imin n g14)) ⟨by rw [htk1], by rw [show tkX xs a n = (xs.set j8 (Acc.mk f14 (g14 - (imin n g14)))) from by unfold tkX; rw [if_pos hsa, htk1]; unfold subH; rw [setA_at hj8, hac_a]]; exact ⟨hinv29, hcl, hFx, fun q hq => Nat.lt_of_lt_of_le (hFlt q hq) (by omega), _, _, _, ⟨by simp only [List.length_set]; exact hx, At.slt hat26, hdx.own, hacc, hall⟩⟩, hK0⟩
 refine OI_eq [(0, pt x), (1, nt a), (2, nt n), (10, .bool true)] (by first | rfl | rw [hg6]) <| Oen [0, 1, 2, 13] <| Vo <| Vn [6] <| Rt ?_
 obtain ⟨ht1, ht2⟩ : tkN xs a n = 0 ∧ tkX xs a n = xs := tk_no (by simpa using hg6)
 exact Xr (nt 0) ⟨by rw [ht1], by rw [ht2]; exact h, hK0⟩
theorem slX_eq {xs : List Acc} {a n f g : Int} (hi : Inv xs) (h : (tkX xs a n)[0]? = some ⟨f, g⟩) : slX xs a n = (tkX xs a n).set 0 (Acc.mk (f + tkN xs a n) g) := by
  have hb := tkN_bnd hi a n
  unfold slX
  split
  · unfold addF; rw [setA_at (rfl : (0 : Int) = ((0 : Nat) : Int)), acct_at (rfl : (0 : Int) = ((0 : Nat) : Int)) h (by decide)]
  · obtain ⟨h1, h2⟩ := List.getElem?_eq_some_iff.1 h
    rw [show f + tkN xs a n = f by omega, ← h2, List.set_getElem_self]
set_option maxHeartbeats 1000000 in
theorem release6_spec (F : Nat → Prop) (x : Nat) (xs : List Acc) (cs : List Ci) (a n : Int) (w : World) (h : DLd F w x xs cs) : Calls Try.prog 42 #[pt x, nt a, nt n] w fun e w' => e = .returned (nt (tkN xs a n)) ∧ (∃ F', DLd F' w' x (relX xs a n) (cs) ∧ (∀ q, F' q → F q ∨ w.heap.size ≤ q)) ∧ Keep F w w' := by
 have hFlt := DLd.lt h
 have hxlt := hFlt _ (DLd.at_ h)
 have hinv := DLd.inv h
 have htot1 := hinv.2.2
 have htot0 := (tot_mem hinv.2.1).1
 have hF0 : ∀ q, F q → F q ∨ w.heap.size ≤ q := fun _ h => .inl h
 have hK0 : Keep F w w := Keep.refl _ _
 have hzhK0 := Keep.size hK0
 refine eV ?_
 refine Vr <| On 1 [0, 1, 2] <| Oer <| On 3 [0, 1, 7, 8, 9] <| Kg (take6_at F x xs cs a n _ h) ?_
 rintro _ w1 ⟨rfl, h9, hk2⟩
 refine ⟨_, rfl, ?_⟩
 have hsz3 := Keep.size hk2
 replace hK0 := Keep.fresh hK0 hk2 (by intro i hi hs; first | exact hs | (exfalso; have h2 := hFlt i hs; omega) | (have h2 := hFlt i hs; show _ ∨ _; omega))
 have hFlt8 := DLd.lt h9
 refine On 5 [0, 1, 2] <| Oe <| V_seq <| Vn [0, 1, 2, 12] <| Vi (tkN xs a n > 0) (fun hc4 => ?_) (fun hc4 => ?_)
 ·
  have hsa := tkN_pos hc4
  have hinvt := DLd.inv h9
  have htx := tkX_tot hinv a n
  have htn := tkN_bnd hinv a n
  have htb := acct_bnd hinv a
  obtain ⟨_, hcl, hFx, _, A, cap, ds, hdx⟩ := h9
  have hx := hdx.blk
  have hA := hdx.sl
  have hacc := hdx.acc
  have hall := hdx.all
  have hAx : ∀ q, inA A q → q ≠ x := fun q hq => (hdx.own q hq).2
  have hAlt := SlT.lt hA
  have hdl := de_len hacc hinvt
  have hcl1 := hcl.1
  obtain ⟨j5, hj5, hjl5⟩ : ∃ j : Nat, a = j ∧ j < 10 := ⟨(a).toNat, by have h9 := hsa; simp only [isA, decide_eq_true_eq] at h9; omega, by have h9 := hsa; simp only [isA, decide_eq_true_eq] at h9; omega⟩
  have h10 : 0 < ds.length := by omega
  obtain ⟨b6, o6, L6, T6, rfl, hat6⟩ := SlT.open_ hA (by first | omega | (simp only [List.length_map]; omega) | (simp; done) | (simp; omega))
  have hb6lt := hat6.blk.lt
  have hob7 := hAx b6 ⟨_, rfl, rfl⟩
  have hob8 := hAlt b6 ⟨_, rfl, rfl⟩
  have hFb6 : b6 < w.heap.size := hFlt _ (hdx.own _ ⟨_, rfl, rfl⟩).1
  refine Vd1 (acts [12, 17]) (only b6) [5, 6, 7, 8, 9, 10, 11, 12, 0, 1, 2, 3, 4, 13, 14, 15, 16, 17] fun w10 hk9 he11 K14 _ => ?_
  replace hx := hx.k0 hk9
  replace hat6 := hat6.keep hk9 id
  replace hK0 := hK0.tn hk9
  replace hall := DAll.keep hall hk9 (fun _ _ _ _ f => f)
  have qhx := hx
  refine Gn [8, 9, 10, 11, 12, 0, 1, 2, 3, 4, 13, 14, 15, 16, 17] [0, 1, 2, 20] <| Mc 0 (sl_ b6 o6 ds.length cap) qhx (by show ¬ (_ = _); omega) rfl <| Gn [10, 11, 12, 0, 1, 2, 3, 4, 13, 14, 15, 16, 17] [0, 1, 2, 21, 22] <| Gp_ [(0, pt x), (1, nt a), (2, nt (tkN xs a n)), (21, sl_ b6 o6 ds.length cap), (22, nt a)] <| Gq_ (u := nt a) (v := nt (j5 : Int)) 22 (by rw [hj5]) <| GI_pure (some 23) (.indexAddr 57 (.tmp 21) (.tmp 22)) (by kernel_rfl) (by kernel_rfl) (pure_idxN (b := b6) (o := o6) (len := ds.length) (cap := cap) (kd := .i64) (j := j5) (E := 56) (sz := 3) (by_ := 40) (by kernel_rfl) (by kernel_rfl) (by kernel_rfl) (by omega)) <| Gn [12, 0, 1, 2, 3, 4, 13, 14, 15, 16, 17] [0, 1, 2, 24] ?_
  obtain ⟨x15, hx16⟩ : ∃ x, ds[j5]? = some x := ⟨_, List.getElem?_eq_getElem (by first | omega | (simp only [List.length_map]; omega))⟩
  obtain ⟨f17, g17, A17, c17, l17⟩ := x15
  obtain ⟨hls17, hsl17, hso17⟩ := hall j5 _ hx16
  replace hls17 : l17 = rowL (j5 : Int) cs := hls17
  replace hsl17 : SlT w10 2 lkc A17 c17 l17 := hsl17
  replace hso17 : ∀ q, inA A17 q → _ := hso17
  obtain ⟨hbf17, hbh17, hbt17, _⟩ := hinvt.at_ (de_at hacc hx16)
  replace hbf17 : 0 ≤ f17 := hbf17
  replace hbh17 : 0 ≤ g17 := hbh17
  replace hbt17 : f17 + g17 ≤ 1073741824 := hbt17
  have hsw17 : ∀ q, inA A17 q → q ≠ x ∧ q ≠ b6 ∧ q < w.heap.size := fun q hq => ⟨(hso17 q hq).2.1, fun e => (hso17 q hq).2.2 ⟨_, rfl, e⟩, hFlt q (hso17 q hq).1⟩
  have hsx17 := SlT.lt hsl17
  refine GI_cellA 3 (.tmp 24) (o6 + j5 * 3) (nt f17) (some 25) (by kernel_rfl) (by kernel_rfl) K14 (by kernel_rfl) hat6.blk (m := 1) (by kernel_rfl) (At.cell0 hat6 (es_at hx16) rfl) <| Gn [3, 4, 13, 14, 15, 16, 17] [1, 2, 15, 25] <| Mc 0 (sl_ b6 o6 ds.length cap) qhx (by show ¬ (_ = _); omega) rfl ?_
  have hw18 : IntKind.i64.wrap (f17 + (tkN xs a n)) = f17 + (tkN xs a n) := (wrap64_id (by omega) (by omega)).trans (by omega)
  refine Gs [15, 16, 17] [(2, nt (tkN xs a n)), (16, sl_ b6 o6 ds.length cap), (17, nt a), (27, nt (IntKind.i64.wrap (f17 + (tkN xs a n))))] <| Gq_ (u := nt (IntKind.i64.wrap (f17 + (tkN xs a n)))) (v := nt (f17 + (tkN xs a n))) 27 (by rw [hw18]) <| Gp_ [(2, nt (tkN xs a n)), (16, sl_ b6 o6 ds.length cap), (17, nt a), (27, nt (f17 + (tkN xs a n)))] <| Gq_ (u := nt a) (v := nt (j5 : Int)) 17 (by rw [hj5]) <| GI_pure (some 28) (.indexAddr 57 (.tmp 16) (.tmp 17)) (by kernel_rfl) (by kernel_rfl) (pure_idxN (b := b6) (o := o6) (len := ds.length) (cap := cap) (kd := .i64) (j := j5) (E := 56) (sz := 3) (by_ := 40) (by kernel_rfl) (by kernel_rfl) (by kernel_rfl) (by omega)) <| Gn [17] [2, 27, 29] <| GI_final 17 (by kernel_rfl) (by kernel_rfl) <| OI_set (m := 1) (kd := false) 3 (.tmp 29) (.tmp 27) (o6 + j5 * 3) (nt (f17 + (tkN xs a n))) [nt (f17 + (tkN xs a n))] none (by kernel_rfl) (by kernel_rfl) (by kernel_rfl) (At.blk hat6) (by kernel_rfl) (by kernel_rfl) rfl (by have h1 := At.room hat6; have h2 := At.le hat6; rw [List.length_map] at h2; omega) (by simp [Value.oneCell']) ?_
  intro w19 hn20 hk21 hz22
  have hat23 := At.set (y := (DE.mk (f17 + (tkN xs a n)) g17 A17 c17 l17 : DE)) (k := 0) hat6 hx16 (by omega) (by simp [DE.cells, over]) hn20
  have hsz24 := Keep.size hk21
  replace hx := hx.k1 hk21
  replace hK0 := Keep.fresh hK0 hk21 (by intro i hi hs; have hs2 : i = b6 := hs; first | (exfalso; omega) | (rw [hs2]; exact (hdx.own _ ⟨_, rfl, rfl⟩).1))
  replace hall := DAll.keep hall hk21 (fun q h1 h2 h3 hs => by have hs : q = b6 := hs; exact h3 (hs ▸ ⟨_, rfl, rfl⟩))
  have hlhx25 : (ds.set j5 (DE.mk (f17 + (tkN xs a n)) g17 A17 c17 l17)).length = ds.length := List.length_set
  have hx25 : (ds.set j5 (DE.mk (f17 + (tkN xs a n)) g17 A17 c17 l17))[j5]? = some (DE.mk (f17 + (tkN xs a n)) g17 A17 c17 l17) := by rw [List.getElem?_set_self (List.getElem?_eq_some_iff.1 hx16).1]
  have hst26 := de_at hacc hx16
  have ht26 : tot ((tkX xs a n).set j5 (Acc.mk (f17 + (tkN xs a n)) g17)) = tot (tkX xs a n) + ((f17 + (tkN xs a n)) + g17) - (f17 + g17) := tot_set _ hst26
  have hinv26 : Inv ((tkX xs a n).set j5 (Acc.mk (f17 + (tkN xs a n)) g17)) := Inv.set hinvt hst26 _ (by show 0 ≤ (f17 + (tkN xs a n)); omega) (by show 0 ≤ g17; omega) (by show tot (tkX xs a n) + ((f17 + (tkN xs a n)) + g17) - (f17 + g17) ≤ 1073741824; omega)
  replace hacc := map_set (j := j5) hacc (f17 + (tkN xs a n)) g17 A17 c17 l17
  replace hall := DAll.set hall hx16 (f17 + (tkN xs a n)) g17
  exact Oer <| Oen [6] <| Rr (nt (tkN xs a n)) ⟨rfl, ⟨F, by rw [show relX xs a n = ((tkX xs a n).set j5 (Acc.mk (f17 + (tkN xs a n)) g17)) from by unfold relX; rw [if_pos hc4]; unfold addF; rw [setA_at hj5, acct_at hj5 hst26 hjl5]]; exact ⟨hinv26, hcl, hFx, fun q hq => Nat.lt_of_lt_of_le (hFlt q hq) (by omega), _, _, _, ⟨by simp only [List.length_set]; exact hx, At.slt hat23, hdx.own, hacc, hall⟩⟩, hF0⟩, hK0⟩
 exact Vsk <| Vn [6] <| Rr (nt (tkN xs a n)) ⟨rfl, ⟨F, by rw [show relX xs a n = tkX xs a n from by unfold relX; rw [if_neg hc4]]; exact h9, hF0⟩, hK0⟩
set_option maxHeartbeats 1000000 in
theorem slash6_spec (F : Nat → Prop) (x : Nat) (xs : List Acc) (cs : List Ci) (a n : Int) (w : World) (h : DLd F w x xs cs) : Calls Try.prog 43 #[pt x, nt a, nt n] w fun e w' => e = .returned (nt (tkN xs a n)) ∧ (∃ F', DLd F' w' x (slX xs a n) (cs) ∧ (∀ q, F' q → F q ∨ w.heap.size ≤ q)) ∧ Keep F w w' := by
 have hFlt := DLd.lt h
 have hxlt := hFlt _ (DLd.at_ h)
 have hinv := DLd.inv h
 have htot1 := hinv.2.2
 have htot0 := (tot_mem hinv.2.1).1
 have hF0 : ∀ q, F q → F q ∨ w.heap.size ≤ q := fun _ h => .inl h
 have hK0 : Keep F w w := Keep.refl _ _
 have hzhK0 := Keep.size hK0
 refine eV ?_
 refine Vr <| On 1 [0, 1, 2] <| Oer <| On 3 [0, 7, 8, 9] <| Kg (take6_at F x xs cs a n _ h) ?_
 rintro _ w1 ⟨rfl, h9, hk2⟩
 refine ⟨_, rfl, ?_⟩
 have hsz3 := Keep.size hk2
 replace hK0 := Keep.fresh hK0 hk2 (by intro i hi hs; first | exact hs | (exfalso; have h2 := hFlt i hs; omega) | (have h2 := hFlt i hs; show _ ∨ _; omega))
 have hFlt8 := DLd.lt h9
 refine Oen [0, 2] <| V_seq ?_
 have hinvt := DLd.inv h9
 have htx := tkX_tot hinv a n
 have htn := tkN_bnd hinv a n
 have htb := acct_bnd hinv a
 obtain ⟨_, hcl, hFx, _, A, cap, ds, hdx⟩ := h9
 have hx := hdx.blk
 have hA := hdx.sl
 have hacc := hdx.acc
 have hall := hdx.all
 have hAx : ∀ q, inA A q → q ≠ x := fun q hq => (hdx.own q hq).2
 have hAlt := SlT.lt hA
 have hdl := de_len hacc hinvt
 have hcl1 := hcl.1
 have h10 : 0 < ds.length := by omega
 obtain ⟨b4, o4, L4, T4, rfl, hat4⟩ := SlT.open_ hA (by first | omega | (simp only [List.length_map]; omega) | (simp; done) | (simp; omega))
 have hb4lt := hat4.blk.lt
 have hob5 := hAx b4 ⟨_, rfl, rfl⟩
 have hob6 := hAlt b4 ⟨_, rfl, rfl⟩
 have hFb4 : b4 < w.heap.size := hFlt _ (hdx.own _ ⟨_, rfl, rfl⟩).1
 refine Vd1 (acts [10, 15]) (only b4) [4, 5, 6, 7, 8, 9, 10, 0, 1, 2, 3, 11, 12, 13, 14, 15] fun w8 hk7 he9 K12 _ => ?_
 replace hx := hx.k0 hk7
 replace hat4 := hat4.keep hk7 id
 replace hK0 := hK0.tn hk7
 replace hall := DAll.keep hall hk7 (fun _ _ _ _ f => f)
 have qhx := hx
 refine Gn [7, 8, 9, 10, 0, 1, 2, 3, 11, 12, 13, 14, 15] [0, 2, 17] <| Mc 0 (sl_ b4 o4 ds.length cap) qhx (by show ¬ (_ = _); omega) rfl <| GI_pure (some 19) (.indexAddr 57 (.tmp 18) (.const (Value.int IntKind.i64 0))) (by kernel_rfl) (by kernel_rfl) (pure_idxN (b := b4) (o := o4) (len := ds.length) (cap := cap) (kd := .i64) (j := 0) (E := 56) (sz := 3) (by_ := 40) (by kernel_rfl) (by kernel_rfl) (by kernel_rfl) (by omega)) <| Gn [10, 0, 1, 2, 3, 11, 12, 13, 14, 15] [0, 2, 20] ?_
 obtain ⟨x13, hx14⟩ : ∃ x, ds[0]? = some x := ⟨_, List.getElem?_eq_getElem (by first | omega | (simp only [List.length_map]; omega))⟩
 obtain ⟨f15, g15, A15, c15, l15⟩ := x13
 obtain ⟨hls15, hsl15, hso15⟩ := hall 0 _ hx14
 replace hls15 : l15 = rowL ((0 : Nat) : Int) cs := hls15
 replace hsl15 : SlT w8 2 lkc A15 c15 l15 := hsl15
 replace hso15 : ∀ q, inA A15 q → _ := hso15
 obtain ⟨hbf15, hbh15, hbt15, _⟩ := hinvt.at_ (de_at hacc hx14)
 replace hbf15 : 0 ≤ f15 := hbf15
 replace hbh15 : 0 ≤ g15 := hbh15
 replace hbt15 : f15 + g15 ≤ 1073741824 := hbt15
 have hsw15 : ∀ q, inA A15 q → q ≠ x ∧ q ≠ b4 ∧ q < w.heap.size := fun q hq => ⟨(hso15 q hq).2.1, fun e => (hso15 q hq).2.2 ⟨_, rfl, e⟩, hFlt q (hso15 q hq).1⟩
 have hsx15 := SlT.lt hsl15
 refine GI_cellA 3 (.tmp 20) (o4 + 0 * 3) (nt f15) (some 21) (by kernel_rfl) (by kernel_rfl) K12 (by kernel_rfl) hat4.blk (m := 1) (by kernel_rfl) (At.cell0 hat4 (es_at hx14) rfl) <| Gn [3, 11, 12, 13, 14, 15] [2, 13, 21] <| Mc 0 (sl_ b4 o4 ds.length cap) qhx (by show ¬ (_ = _); omega) rfl ?_
 have hw16 : IntKind.i64.wrap (f15 + (tkN xs a n)) = f15 + (tkN xs a n) := (wrap64_id (by omega) (by omega)).trans (by omega)
 refine Gn [13, 14, 15] [2, 14, 23] <| Gq_ (u := nt (IntKind.i64.wrap (f15 + (tkN xs a n)))) (v := nt (f15 + (tkN xs a n))) 23 (by rw [hw16]) <| GI_pure (some 24) (.indexAddr 57 (.tmp 14) (.const (Value.int IntKind.i64 0))) (by kernel_rfl) (by kernel_rfl) (pure_idxN (b := b4) (o := o4) (len := ds.length) (cap := cap) (kd := .i64) (j := 0) (E := 56) (sz := 3) (by_ := 40) (by kernel_rfl) (by kernel_rfl) (by kernel_rfl) (by omega)) <| Gn [15] [2, 23, 25] <| GI_final 15 (by kernel_rfl) (by kernel_rfl) <| OI_set (m := 1) (kd := false) 3 (.tmp 25) (.tmp 23) (o4 + 0 * 3) (nt (f15 + (tkN xs a n))) [nt (f15 + (tkN xs a n))] none (by kernel_rfl) (by kernel_rfl) (by kernel_rfl) (At.blk hat4) (by kernel_rfl) (by kernel_rfl) rfl (by have h1 := At.room hat4; have h2 := At.le hat4; rw [List.length_map] at h2; omega) (by simp [Value.oneCell']) ?_
 intro w17 hn18 hk19 hz20
 have hat21 := At.set (y := (DE.mk (f15 + (tkN xs a n)) g15 A15 c15 l15 : DE)) (k := 0) hat4 hx14 (by omega) (by simp [DE.cells, over]) hn18
 have hsz22 := Keep.size hk19
 replace hx := hx.k1 hk19
 replace hK0 := Keep.fresh hK0 hk19 (by intro i hi hs; have hs2 : i = b4 := hs; first | (exfalso; omega) | (rw [hs2]; exact (hdx.own _ ⟨_, rfl, rfl⟩).1))
 replace hall := DAll.keep hall hk19 (fun q h1 h2 h3 hs => by have hs : q = b4 := hs; exact h3 (hs ▸ ⟨_, rfl, rfl⟩))
 have hlhx23 : (ds.set 0 (DE.mk (f15 + (tkN xs a n)) g15 A15 c15 l15)).length = ds.length := List.length_set
 have hx23 : (ds.set 0 (DE.mk (f15 + (tkN xs a n)) g15 A15 c15 l15))[0]? = some (DE.mk (f15 + (tkN xs a n)) g15 A15 c15 l15) := by rw [List.getElem?_set_self (List.getElem?_eq_some_iff.1 hx14).1]
 have hst24 := de_at hacc hx14
 have ht24 : tot ((tkX xs a n).set 0 (Acc.mk (f15 + (tkN xs a n)) g15)) = tot (tkX xs a n) + ((f15 + (tkN xs a n)) + g15) - (f15 + g15) := tot_set _ hst24
 have hinv24 : Inv ((tkX xs a n).set 0 (Acc.mk (f15 + (tkN xs a n)) g15)) := Inv.set hinvt hst24 _ (by show 0 ≤ (f15 + (tkN xs a n)); omega) (by show 0 ≤ g15; omega) (by show tot (tkX xs a n) + ((f15 + (tkN xs a n)) + g15) - (f15 + g15) ≤ 1073741824; omega)
 replace hacc := map_set (j := 0) hacc (f15 + (tkN xs a n)) g15 A15 c15 l15
 replace hall := DAll.set hall hx14 (f15 + (tkN xs a n)) g15
 exact Oer <| Oen [6] <| Rr (nt (tkN xs a n)) ⟨rfl, ⟨F, by rw [show slX xs a n = ((tkX xs a n).set 0 (Acc.mk (f15 + (tkN xs a n)) g15)) from slX_eq hinv hst24]; exact ⟨hinv24, hcl, hFx, fun q hq => Nat.lt_of_lt_of_le (hFlt q hq) (by omega), _, _, _, ⟨by simp only [List.length_set]; exact hx, At.slt hat21, hdx.own, hacc, hall⟩⟩, hF0⟩, hK0⟩
end Go.Al

namespace Go.Al
open Go Go.RowKit Go.Proofs
theorem okC_lock {cs : List Ci} (h : OkC cs) (hm : cs.length < 90000) (a di n : Int) : OkC (lockC cs a di n) := by
  unfold lockC
  split
  · rename_i ha
    split
    · obtain ⟨h1, h2⟩ := Srt.del h.2.1 a di
      refine ⟨by omega, h1, fun c hc => h.2.2 c ?_⟩
      have : ∀ (l : List Ci), c ∈ delC a di l → c ∈ l := by
        intro l
        induction l with
        | nil => exact fun h => h
        | cons y l ih =>
          rw [delC]
          split
          · exact List.mem_cons_of_mem _
          · intro h
            rcases List.mem_cons.1 h with rfl | h
            · exact List.mem_cons_self ..
            · exact List.mem_cons_of_mem _ (ih h)
      exact this _ hc
    · obtain ⟨h1, h2⟩ := Srt.set (a := a) (b := di) (v := n) h.2.1
      refine ⟨by omega, h1, fun c hc => ?_⟩
      rcases setC_mem hc with ⟨h3, _⟩ | h3
      · rw [h3]; exact ha
      · exact h.2.2 c h3
  · exact h
theorem set_same {xs : List Acc} {j : Nat} {f g : Int} (h : xs[j]? = some ⟨f, g⟩) : xs.set j ⟨f, g⟩ = xs := by
  obtain ⟨h1, h2⟩ := List.getElem?_eq_some_iff.1 h
  rw [← h2, List.set_getElem_self]
theorem DAll.lock {F F' : Nat → Prop} {w : World} {x : Nat} {A : Option Addr} {ds : List DE} {cs cs' : List Ci} {j : Nat} {f g : Int} {A0 A9 : Option Addr} {c0 c9 : Nat} {l0 ys : List (Int × Int)} (h : DAll F w x A ds cs) (hd : ds[j]? = some ⟨f, g, A0, c0, l0⟩) (hys : ys = rowL (j : Int) cs') (ho : ∀ i : Nat, i ≠ j → rowL (i : Int) cs' = rowL (i : Int) cs)
    (hsl : SlT w 2 lkc A9 c9 ys) (hown : ∀ q, inA A9 q → F' q ∧ q ≠ x ∧ ¬ inA A q) (hF : ∀ q, F q → F' q) : DAll F' w x A (ds.set j ⟨f, g, A9, c9, ys⟩) cs' := fun i e he => by
  by_cases hij : i = j
  · subst hij
    rw [List.getElem?_set_self (List.getElem?_eq_some_iff.1 hd).1] at he
    simp only [Option.some.injEq] at he
    subst he
    exact ⟨hys, hsl, hown⟩
  · rw [List.getElem?_set_ne (Ne.symm hij)] at he
    obtain ⟨h1, h2, h3⟩ := h i e he
    exact ⟨h1.trans (ho i hij).symm, h2, fun q hq => ⟨hF q (h3 q hq).1, (h3 q hq).2⟩⟩
set_option maxHeartbeats 1000000 in
theorem lock6_spec (F : Nat → Prop) (x : Nat) (xs : List Acc) (cs : List Ci) (a di n : Int) (w : World) (h : DLd F w x xs cs) (hmax : cs.length < 90000) : Calls Try.prog 44 #[pt x, nt a, nt di, nt n] w fun e w' => e = .returned (.tuple #[]) ∧ (∃ F', DLd F' w' x xs (lockC cs a di n) ∧ (∀ q, F' q → F q ∨ w.heap.size ≤ q)) ∧ Keep F w w' := by
 have hFlt := DLd.lt h
 have hxlt := hFlt _ (DLd.at_ h)
 have hinv := DLd.inv h
 have htot1 := hinv.2.2
 have htot0 := (tot_mem hinv.2.1).1
 have hF0 : ∀ q, F q → F q ∨ w.heap.size ≤ q := fun _ h => .inl h
 have hK0 : Keep F w w := Keep.refl _ _
 have hzhK0 := Keep.size hK0
 refine eV ?_
 refine V_seq <| Vr <| On 1 [0, 1, 2, 3, 12] <| Kq (is6_spec a _) <| Ose [(0, pt x), (1, nt a), (2, nt di), (3, nt n), (14, .bool (!(isA a)))] <| Vb (!(isA a)) (fun hc4 => ?_) (fun hc4 => ?_)
 ·
  refine Rt ?_
  exact X_return _ rfl ⟨rfl, ⟨F, by rw [show lockC cs a di n = cs from by unfold lockC; rw [if_neg]; simp_all]; exact h, hF0⟩, hK0⟩
 have hsa : isA a = true := by simpa using hc4
 obtain ⟨_, hcl, hFx, _, A, cap, ds, hdx⟩ := h
 have hx := hdx.blk
 have hA := hdx.sl
 have hacc := hdx.acc
 have hall := hdx.all
 have hAx : ∀ q, inA A q → q ≠ x := fun q hq => (hdx.own q hq).2
 have hAlt := SlT.lt hA
 have hdl := de_len hacc hinv
 have hcl1 := hcl.1
 have hFlt9 : ∀ q, F q → q < w.heap.size := fun q hq => Nat.lt_of_lt_of_le (hFlt q hq) (by omega)
 obtain ⟨j5, hj5, hjl5⟩ : ∃ j : Nat, a = j ∧ j < 10 := ⟨(a).toNat, by have h9 := hsa; simp only [isA, decide_eq_true_eq] at h9; omega, by have h9 := hsa; simp only [isA, decide_eq_true_eq] at h9; omega⟩
 refine Vsk <| Vs [(0, pt x), (1, nt a), (2, nt di), (3, nt n), (8, .slice none 0 0)] <| V_seqJ (fun wI e => ∃ lb : Bool, (lb = decide (n ≤ 0 ∨ n > 1073741824)) ∧ w = wI ∧ e = [(0, pt x), (1, nt a), (2, nt di), (3, nt n), (8, .slice none 0 0), (9, .bool lb)]) ?_ ?_
 ·
  refine V_region <| On 3 [0, 1, 2, 3, 8, 17] ?_
  by_cases hg6 : n ≤ 0
  ·
   refine Dt 17 hg6 <| Os 7 [(0, pt x), (1, nt a), (2, nt di), (3, nt n), (8, .slice none 0 0), (9, .bool true)] <| OI_end rfl ?_
   exact X_join [(0, pt x), (1, nt a), (2, nt di), (3, nt n), (8, .slice none 0 0), (9, .bool true)] rfl ⟨true, by first | exact (decide_eq_true (by omega)).symm | exact (decide_eq_false (by omega)).symm | simp [*], rfl, rfl⟩
  refine Df 17 hg6 <| Os 7 [(0, pt x), (1, nt a), (2, nt di), (3, nt n), (8, .slice none 0 0), (9, .bool (decide (n > 1073741824)))] <| OI_end rfl ?_
  exact X_join [(0, pt x), (1, nt a), (2, nt di), (3, nt n), (8, .slice none 0 0), (9, .bool (decide (n > 1073741824)))] rfl ⟨(decide (n > 1073741824)), by first | exact (decide_eq_true (by omega)).symm | exact (decide_eq_false (by omega)).symm | simp [*], rfl, rfl⟩
 ·
  rintro _ _ ⟨lb, hlb, rfl, rfl⟩
  refine V_seq <| Vn [0, 1, 2, 3, 8, 9, 10] <| V_block <| Vp [(0, pt x), (1, nt a), (2, nt di), (3, nt n), (8, .slice none 0 0), (9, .bool lb), (10, nt 0)] <| V_loop (fun k wI e => ∃ i : Nat, ∃ lb2 : Bool, ∃ A2 : Option Addr, ∃ cap2 : Nat, ∃ ys : List (Int × Int), (k + i = (rowL (j5 : Int) cs).length) ∧ (lkR di n lb2 ys ((rowL (j5 : Int) cs).drop i) = lkR di n lb [] (rowL (j5 : Int) cs)) ∧ (SlT wI 2 lkc A2 cap2 ys) ∧ (∀ q, inA A2 q → w.heap.size ≤ q) ∧ (ys.length ≤ 2 * i) ∧ Keep none_ w wI ∧ e = [(0, pt x), (1, nt a), (2, nt di), (3, nt n), (8, .slice A2 ys.length cap2), (9, .bool lb2), (10, nt (i : Int))]) ((rowL (j5 : Int) cs).length) ⟨0, lb, none, 0, [], by omega, rfl, SlT.nil _ _ _, fun q h => (inA_none h).elim, by simp, Keep.refl _ _, rfl⟩ ?_
  rintro k10 w9 _ ⟨i, lb2, A2, cap2, ys, hki, hlk, hA2, ow2, hyl, hk11, rfl⟩
  have hsz12 := Keep.size hk11
  replace hx := hx.k0 hk11
  replace hA := hA.keep0 hk11
  replace hK0 := hK0.tn hk11
  replace hall := DAll.keep hall hk11 (fun _ _ _ _ f => f)
  have hzhk11 := Keep.size hk11
  have lt2 := SlT.lt hA2
  have hrl : (rowL (j5 : Int) cs).length ≤ cs.length := by unfold rowL; rw [List.length_map]; exact List.length_filter_le ..
  refine V_seq <| Vr <| On 4 [0, 1, 2, 3, 8, 9, 10, 21, 24] <| Lr 0 (.slice A ds.length cap) hx <| On 6 [0, 1, 2, 3, 8, 9, 10, 21, 25, 26] ?_
  obtain ⟨b13, o13, L13, T13, rfl, hat13⟩ := SlT.open_ hA (by first | omega | (simp only [List.length_map]; omega) | (simp; done) | (simp; omega))
  have hb13lt := hat13.blk.lt
  have hob14 := hAx b13 ⟨_, rfl, rfl⟩
  have hob15 := hAlt b13 ⟨_, rfl, rfl⟩
  have hFb13 : b13 < w.heap.size := hFlt _ (hdx.own _ ⟨_, rfl, rfl⟩).1
  refine Op_ [(0, pt x), (1, nt a), (2, nt di), (3, nt n), (8, .slice A2 ys.length cap2), (9, .bool lb2), (10, nt (i : Int)), (21, nt (i : Int)), (25, sl_ b13 o13 ds.length cap), (26, nt a)] <| Oq (u := nt a) (v := nt (j5 : Int)) 26 (by rw [hj5]) <| Oi (b := b13) (o := o13) (len := ds.length) (cap := cap) (j := j5) (some 27) 57 (.tmp 25) (.tmp 26) 56 3 40 .i64 <| On 8 [0, 1, 2, 3, 8, 9, 10, 21, 28] ?_
  obtain ⟨x16, hx17⟩ : ∃ x, ds[j5]? = some x := ⟨_, List.getElem?_eq_getElem (by first | omega | (simp only [List.length_map]; omega))⟩
  obtain ⟨f18, g18, A18, c18, l18⟩ := x16
  obtain ⟨hls18, hsl18, hso18⟩ := hall j5 _ hx17
  replace hls18 : l18 = rowL (j5 : Int) cs := hls18
  replace hsl18 : SlT w9 2 lkc A18 c18 l18 := hsl18
  replace hso18 : ∀ q, inA A18 q → _ := hso18
  obtain ⟨hbf18, hbh18, hbt18, _⟩ := hinv.at_ (de_at hacc hx17)
  replace hbf18 : 0 ≤ f18 := hbf18
  replace hbh18 : 0 ≤ g18 := hbh18
  replace hbt18 : f18 + g18 ≤ 1073741824 := hbt18
  have hsw18 : ∀ q, inA A18 q → q ≠ x ∧ q ≠ b13 ∧ q < w.heap.size := fun q hq => ⟨(hso18 q hq).2.1, fun e => (hso18 q hq).2.2 ⟨_, rfl, e⟩, hFlt q (hso18 q hq).1⟩
  have hsx18 := SlT.lt hsl18
  have hac_a : acct xs a = ⟨f18, g18⟩ := by rw [hj5]; exact de_acct hacc hx17 hjl5
  have hll18 : l18.length = (rowL (j5 : Int) cs).length := by rw [hls18]
  refine Lc (o13 + j5 * 3 + 2) (.slice A18 l18.length c18) hat13.blk (At.cell hat13 (es_at hx17) rfl) <| Oen [0, 1, 2, 3, 8, 9, 10, 31] <| Vi ((i : Int) < (l18.length : Int)) (fun hc19 => ?_) (fun hc19 => ?_)
  ·
   refine Vsk <| V_seq <| V_block <| Vr <| On 3 [0, 1, 2, 3, 8, 9, 10, 36] <| Lr 0 (sl_ b13 o13 ds.length cap) hx <| On 5 [0, 1, 2, 3, 8, 9, 10, 37, 38] <| Op_ [(0, pt x), (1, nt a), (2, nt di), (3, nt n), (8, .slice A2 ys.length cap2), (9, .bool lb2), (10, nt (i : Int)), (37, sl_ b13 o13 ds.length cap), (38, nt a)] <| Oq (u := nt a) (v := nt (j5 : Int)) 38 (by rw [hj5]) <| Oi (b := b13) (o := o13) (len := ds.length) (cap := cap) (j := j5) (some 39) 57 (.tmp 37) (.tmp 38) 56 3 40 .i64 <| On 7 [0, 1, 2, 3, 8, 9, 10, 40] <| Lc (o13 + j5 * 3 + 2) (.slice A18 l18.length c18) hat13.blk (At.cell hat13 (es_at hx17) rfl) <| On 9 [0, 1, 2, 3, 8, 9, 10, 41, 42] ?_
   obtain ⟨b20, o20, L20, T20, rfl, hat20⟩ := SlT.open_ hsl18 (by first | omega | (simp only [List.length_map]; omega) | (simp; done) | (simp; omega))
   have hb20lt := hat20.blk.lt
   have hob21 := hsw18 b20 ⟨_, rfl, rfl⟩
   have hob22 := hsx18 b20 ⟨_, rfl, rfl⟩
   have hFb20 : b20 < w.heap.size := hFlt _ (hso18 _ ⟨_, rfl, rfl⟩).1
   refine Oi (b := b20) (o := o20) (len := l18.length) (cap := c18) (j := i) (some 43) 52 (.tmp 41) (.tmp 42) 61 2 16 .i64 ?_
   obtain ⟨x23, hx24⟩ : ∃ x, l18[i]? = some x := ⟨_, List.getElem?_eq_getElem (by first | omega | (simp only [List.length_map]; omega))⟩
   refine La (o20 + i * 2) (lkc x23) 2 hat20.blk (At.elem' hat20 (es_at hx24)) (At.len hat20 (es_at hx24)) <| Alc_ 61 (.agg #[nt 0, nt 0]) [nt 0, nt 0] ?_
   intro b25 w25 e25 hb25 k25 z25
   have hsz26 := Keep.size k25
   replace hA2 := hA2.keep0 k25
   replace hk11 := hk11.tn k25
   have hb25lt := hb25.lt
   refine Sg 0 (lkc x23) hb25 (lkc_len _) (lkc_one _) ?_
   intro w27 hb25_30 hk28 hz29
   replace hb25_30 : Blk w27 b25 (lkc x23) 61 := (by rwa [over_whole (by rw [lkc_len]; rfl)] at hb25_30)
   have hsz31 := Keep.size hk28
   replace hA2 := hA2.keep hk28 (fun q hq hs => by have hs : q = b25 := hs; have g0 := ow2 q hq; have g1 := lt2 q hq; omega)
   replace hk11 := Keep.fr hk11 hk28
   refine Oe <| V_seq <| Vr <| Os 3 [(0, pt x), (1, nt a), (2, nt di), (3, nt n), (8, .slice A2 ys.length cap2), (9, .bool lb2), (10, nt (i : Int)), (11, pt b25), (47, .bool (!lb2))] ?_
   cases hg32 : (!lb2)
   ·
    refine OI_eq [(0, pt x), (1, nt a), (2, nt di), (3, nt n), (8, .slice A2 ys.length cap2), (9, .bool lb2), (10, nt (i : Int)), (11, pt b25), (47, .bool false)] (by first | rfl | rw [hg32]) <| Oen [0, 1, 2, 3, 8, 9, 10, 11, 48, 49, 50, 51, 52] <| Vf <| Vsk <| Vr <| On 1 [0, 1, 2, 3, 8, 9, 10, 11, 48, 49, 50, 51, 59] <| Lr 0 (nt x23.1) hb25_30 <| Oen [0, 1, 2, 3, 8, 9, 10, 11, 48, 49, 50, 51, 62] <| V_not (x23.1 = di) (by kernel_rfl) (fun hc33 => ?_) (fun hc33 => ?_)
    ·
     refine V_region <| On 1 [0, 1, 2, 3, 9, 10, 11, 48, 49, 50, 51, 63] <| La 0 (lkc x23) 2 hb25_30 (take_all (lkc_len _)) (lkc_len _) <| OI_slit (E := 61) (zv := .agg #[nt 0, nt 0]) (sz := 2) (by_ := 16) 52 1 #[(0, (Operand.tmp 64))] [.agg (lkc x23).toArray] (lkc x23) (some 65) (by kernel_rfl) (by kernel_rfl) (by kernel_rfl) (by omega) rfl (by omega) (by intro v hv; obtain rfl := List.mem_singleton.1 hv; show (lkc x23).toArray.size = 2; simp [lkc_len]) (by kernel_rfl) (by show (lkc x23).toArray.toList ++ [] = _; simp) ?_
     intro b34 w34 e34 hb34 k34 z34
     have hsz35 := Keep.size k34
     replace hA2 := hA2.keep0 k34
     replace hk11 := hk11.tn k34
     have hb34lt := hb34.lt
     have ow36 : ∀ q, inA A2 q → w.heap.size ≤ q ∧ q ≠ b25 := fun q hq => by have h1 := ow2 q hq; have h2 := lt2 q hq; omega
     refine OI_append (t := 52) (at2 := 52) (E := 61) (E2 := 61) (sz := 2) (by_ := 16) (zv := .agg #[nt 0, nt 0]) (m := ys.length) (k := 1) (.tmp 63) (.tmp 65) (.slice A2 ys.length cap2) (sl_ b34 0 1 1) (some 66) (by kernel_rfl) (by kernel_rfl) (by kernel_rfl) (by kernel_rfl) (by kernel_rfl) (by kernel_rfl) (by kernel_rfl) (SlT.slr hA2) (slr_one hb34 (lkc_len (x23))) (lkc_one (x23)) (by first | omega | (simp only [List.length_nil]; omega)) (by omega) (by first | omega | (simp only [List.length_nil]; omega)) (by omega) ?_
     intro vv9 w37 hap
     obtain ⟨A37, cap37, rfl, hA37, hk37, own37x⟩ := app_one (f := lkc) (xs := ys) (x := (x23)) (A := A2) (cap := cap2) hap (fun x _ => lkc_len x) (lkc_len _)
     have own37 : ∀ q, inA A37 q → w.heap.size ≤ q ∧ q ≠ b25 := fun q hq => by rcases own37x q hq with h | h; exact ow36 q h; (show w.heap.size ≤ q ∧ q ≠ b25; omega)
     have hsz38 := Keep.size hk37
     replace hk11 := Keep.fresh hk11 hk37 (by intro i hi hs; first | exact hs | (exfalso; have h1 := ow36 i hs; have h2 := lt2 i hs; omega) | (have h1 := ow36 i hs; have h2 := lt2 i hs; show _ ∨ _; omega))
     have lt37 := SlT.lt hA37
     have hyl36 : (ys ++ [(x23)]).length = (ys).length + 1 := List.length_append
     refine On 5 [0, 1, 2, 3, 8, 9, 10, 48, 49, 50, 51] <| OI_end rfl <| X_block <| X_then <| V_region ?_
     have hw39 : IntKind.i64.wrap ((i : Int) + 1) = ((i + 1 : Nat) : Int) := (wrap64_id (by omega) (by omega)).trans (by omega)
     refine On 2 [0, 1, 2, 3, 8, 9, 33, 48, 49, 50, 51] <| Oq (u := nt (IntKind.i64.wrap ((i : Int) + 1))) (v := nt ((i + 1 : Nat) : Int)) 33 (by rw [hw39]) <| Os 3 [(0, pt x), (1, nt a), (2, nt di), (3, nt n), (8, .slice A37 ((ys ++ [(x23)]).length) cap37), (9, .bool lb2), (10, nt ((i + 1 : Nat) : Int)), (48, undef), (49, undef), (50, undef), (51, undef)] <| OI_end rfl ?_
     exact V_again (k10 - 1) (by omega) [(0, pt x), (1, nt a), (2, nt di), (3, nt n), (8, .slice A37 ((ys ++ [(x23)]).length) cap37), (9, .bool lb2), (10, nt ((i + 1 : Nat) : Int))] rfl ⟨i + 1, lb2, A37, cap37, ys ++ [(x23)], by have h9 := (List.getElem?_eq_some_iff.1 hx24).1; rw [hls18] at h9; omega, (lkR_nn (by rw [← hls18]; exact hx24) (fun h => by rw [hg32] at h; cases h.1) hc33).symm.trans hlk, hA37, fun q h => (own37 q h).1, by omega, hk11, rfl⟩
    refine V_skip <| X_block <| X_then <| V_region ?_
    have hw40 : IntKind.i64.wrap ((i : Int) + 1) = ((i + 1 : Nat) : Int) := (wrap64_id (by omega) (by omega)).trans (by omega)
    refine On 2 [0, 1, 2, 3, 8, 9, 33, 48, 49, 50, 51] <| Oq (u := nt (IntKind.i64.wrap ((i : Int) + 1))) (v := nt ((i + 1 : Nat) : Int)) 33 (by rw [hw40]) <| Os 3 [(0, pt x), (1, nt a), (2, nt di), (3, nt n), (8, .slice A2 ys.length cap2), (9, .bool lb2), (10, nt ((i + 1 : Nat) : Int)), (48, undef), (49, undef), (50, undef), (51, undef)] <| OI_end rfl ?_
    exact V_again (k10 - 1) (by omega) [(0, pt x), (1, nt a), (2, nt di), (3, nt n), (8, .slice A2 ys.length cap2), (9, .bool lb2), (10, nt ((i + 1 : Nat) : Int))] rfl ⟨i + 1, lb2, A2, cap2, ys, by have h9 := (List.getElem?_eq_some_iff.1 hx24).1; rw [hls18] at h9; omega, (lkR_ne (by rw [← hls18]; exact hx24) (fun h => by rw [hg32] at h; cases h.1) hc33).symm.trans hlk, hA2, ow2, by omega, hk11, rfl⟩
   refine OI_eq [(0, pt x), (1, nt a), (2, nt di), (3, nt n), (8, .slice A2 ys.length cap2), (9, .bool lb2), (10, nt (i : Int)), (11, pt b25), (47, .bool true)] (by first | rfl | rw [hg32]) <| On 4 [0, 1, 2, 3, 8, 9, 10, 11, 47, 48] <| Lr 0 (nt x23.1) hb25_30 <| Oen [0, 1, 2, 3, 8, 9, 10, 11, 48, 49, 50, 51, 52] <| Vi (x23.1 ≥ di) (fun hc41 => ?_) (fun hc41 => ?_)
   ·
    refine Vr <| On 4 [0, 1, 2, 3, 10, 11, 48, 49, 50, 51, 53, 56] <| OI_slit (E := 61) (zv := .agg #[nt 0, nt 0]) (sz := 2) (by_ := 16) 52 1 #[(0, (Operand.tmp 56))] [.agg #[nt di, nt n]] [nt di, nt n] (some 57) (by kernel_rfl) (by kernel_rfl) (by kernel_rfl) (by omega) rfl (by omega) (by intro v hv; simp only [List.mem_cons, List.not_mem_nil, or_false] at hv; rcases hv with rfl <;> rfl) (by kernel_rfl) rfl ?_
    intro b42 w42 e42 hb42 k42 z42
    have hsz43 := Keep.size k42
    replace hb25_30 := hb25_30.k0 k42
    replace hA2 := hA2.keep0 k42
    replace hk11 := hk11.tn k42
    have hb42lt := hb42.lt
    have ow44 : ∀ q, inA A2 q → w.heap.size ≤ q ∧ q ≠ b25 := fun q hq => by have h1 := ow2 q hq; have h2 := lt2 q hq; omega
    refine OI_append (t := 52) (at2 := 52) (E := 61) (E2 := 61) (sz := 2) (by_ := 16) (zv := .agg #[nt 0, nt 0]) (m := ys.length) (k := 1) (.tmp 53) (.tmp 57) (.slice A2 ys.length cap2) (sl_ b42 0 1 1) (some 58) (by kernel_rfl) (by kernel_rfl) (by kernel_rfl) (by kernel_rfl) (by kernel_rfl) (by kernel_rfl) (by kernel_rfl) (SlT.slr hA2) (slr_one hb42 (lkc_len (di, n))) (lkc_one (di, n)) (by first | omega | (simp only [List.length_nil]; omega)) (by omega) (by first | omega | (simp only [List.length_nil]; omega)) (by omega) ?_
    intro vv9 w45 hap
    obtain ⟨A45, cap45, rfl, hA45, hk45, own45x⟩ := app_one (f := lkc) (xs := ys) (x := (di, n)) (A := A2) (cap := cap2) hap (fun x _ => lkc_len x) (lkc_len _)
    have own45 : ∀ q, inA A45 q → w.heap.size ≤ q ∧ q ≠ b25 := fun q hq => by rcases own45x q hq with h | h; exact ow44 q h; (show w.heap.size ≤ q ∧ q ≠ b25; omega)
    have hsz46 := Keep.size hk45
    replace hb25_30 := hb25_30.keep hk45 (fun hs => by have h1 := ow44 _ hs; have h2 := lt2 _ hs; omega)
    replace hk11 := Keep.fresh hk11 hk45 (by intro i hi hs; first | exact hs | (exfalso; have h1 := ow44 i hs; have h2 := lt2 i hs; omega) | (have h1 := ow44 i hs; have h2 := lt2 i hs; show _ ∨ _; omega))
    have lt45 := SlT.lt hA45
    have hyl44 : (ys ++ [(di, n)]).length = (ys).length + 1 := List.length_append
    refine On 7 [0, 1, 2, 3, 8, 10, 11, 48, 49, 50, 51] <| Oe <| V_region <| On 1 [0, 1, 2, 3, 8, 9, 10, 11, 48, 49, 50, 51] <| Oer <| On 1 [0, 1, 2, 3, 8, 9, 10, 11, 48, 49, 50, 51, 59] <| Lr 0 (nt x23.1) hb25_30 <| Oen [0, 1, 2, 3, 8, 9, 10, 11, 48, 49, 50, 51, 62] <| V_not (x23.1 = di) (by kernel_rfl) (fun hc47 => ?_) (fun hc47 => ?_)
    ·
     refine V_region <| On 1 [0, 1, 2, 3, 9, 10, 11, 48, 49, 50, 51, 63] <| La 0 (lkc x23) 2 hb25_30 (take_all (lkc_len _)) (lkc_len _) <| OI_slit (E := 61) (zv := .agg #[nt 0, nt 0]) (sz := 2) (by_ := 16) 52 1 #[(0, (Operand.tmp 64))] [.agg (lkc x23).toArray] (lkc x23) (some 65) (by kernel_rfl) (by kernel_rfl) (by kernel_rfl) (by omega) rfl (by omega) (by intro v hv; obtain rfl := List.mem_singleton.1 hv; show (lkc x23).toArray.size = 2; simp [lkc_len]) (by kernel_rfl) (by show (lkc x23).toArray.toList ++ [] = _; simp) ?_
     intro b48 w48 e48 hb48 k48 z48
     have hsz49 := Keep.size k48
     replace hA45 := hA45.keep0 k48
     replace hk11 := hk11.tn k48
     have hb48lt := hb48.lt
     have ow50 : ∀ q, inA A45 q → w.heap.size ≤ q ∧ q ≠ b25 := fun q hq => by have h1 := own45 q hq; have h2 := lt45 q hq; omega
     refine OI_append (t := 52) (at2 := 52) (E := 61) (E2 := 61) (sz := 2) (by_ := 16) (zv := .agg #[nt 0, nt 0]) (m := (ys ++ [(di, n)]).length) (k := 1) (.tmp 63) (.tmp 65) (.slice A45 ((ys ++ [(di, n)]).length) cap45) (sl_ b48 0 1 1) (some 66) (by kernel_rfl) (by kernel_rfl) (by kernel_rfl) (by kernel_rfl) (by kernel_rfl) (by kernel_rfl) (by kernel_rfl) (SlT.slr hA45) (slr_one hb48 (lkc_len (x23))) (lkc_one (x23)) (by first | omega | (simp only [List.length_nil]; omega)) (by omega) (by first | omega | (simp only [List.length_nil]; omega)) (by omega) ?_
     intro vv9 w51 hap
     obtain ⟨A51, cap51, rfl, hA51, hk51, own51x⟩ := app_one (f := lkc) (xs := (ys ++ [(di, n)])) (x := (x23)) (A := A45) (cap := cap45) hap (fun x _ => lkc_len x) (lkc_len _)
     have own51 : ∀ q, inA A51 q → w.heap.size ≤ q ∧ q ≠ b25 := fun q hq => by rcases own51x q hq with h | h; exact ow50 q h; (show w.heap.size ≤ q ∧ q ≠ b25; omega)
     have hsz52 := Keep.size hk51
     replace hk11 := Keep.fresh hk11 hk51 (by intro i hi hs; first | exact hs | (exfalso; have h1 := ow50 i hs; have h2 := lt45 i hs; omega) | (have h1 := ow50 i hs; have h2 := lt45 i hs; show _ ∨ _; omega))
     have lt51 := SlT.lt hA51
     have hyl50 : (ys ++ [(di, n)] ++ [(x23)]).length = (ys ++ [(di, n)]).length + 1 := List.length_append
     refine On 5 [0, 1, 2, 3, 8, 9, 10, 48, 49, 50, 51] <| OI_end rfl <| X_block <| X_then <| V_region ?_
     have hw53 : IntKind.i64.wrap ((i : Int) + 1) = ((i + 1 : Nat) : Int) := (wrap64_id (by omega) (by omega)).trans (by omega)
     refine On 2 [0, 1, 2, 3, 8, 9, 33, 48, 49, 50, 51] <| Oq (u := nt (IntKind.i64.wrap ((i : Int) + 1))) (v := nt ((i + 1 : Nat) : Int)) 33 (by rw [hw53]) <| Os 3 [(0, pt x), (1, nt a), (2, nt di), (3, nt n), (8, .slice A51 ((ys ++ [(di, n)] ++ [(x23)]).length) cap51), (9, .bool true), (10, nt ((i + 1 : Nat) : Int)), (48, pt b25), (49, nt x23.1), (50, nt di), (51, .bool (decide (x23.1 ≥ di)))] <| OI_end rfl ?_
     exact V_again (k10 - 1) (by omega) [(0, pt x), (1, nt a), (2, nt di), (3, nt n), (8, .slice A51 ((ys ++ [(di, n)] ++ [(x23)]).length) cap51), (9, .bool true), (10, nt ((i + 1 : Nat) : Int))] rfl ⟨i + 1, true, A51, cap51, ys ++ [(di, n)] ++ [(x23)], by have h9 := (List.getElem?_eq_some_iff.1 hx24).1; rw [hls18] at h9; omega, (lkR_yn (by rw [← hls18]; exact hx24) hg32 hc41 hc47).symm.trans hlk, hA51, fun q h => (own51 q h).1, by omega, hk11, rfl⟩
    refine V_skip <| X_block <| X_then <| V_region ?_
    have hw54 : IntKind.i64.wrap ((i : Int) + 1) = ((i + 1 : Nat) : Int) := (wrap64_id (by omega) (by omega)).trans (by omega)
    refine On 2 [0, 1, 2, 3, 8, 9, 33, 48, 49, 50, 51] <| Oq (u := nt (IntKind.i64.wrap ((i : Int) + 1))) (v := nt ((i + 1 : Nat) : Int)) 33 (by rw [hw54]) <| Os 3 [(0, pt x), (1, nt a), (2, nt di), (3, nt n), (8, .slice A45 ((ys ++ [(di, n)]).length) cap45), (9, .bool true), (10, nt ((i + 1 : Nat) : Int)), (48, pt b25), (49, nt x23.1), (50, nt di), (51, .bool (decide (x23.1 ≥ di)))] <| OI_end rfl ?_
    exact V_again (k10 - 1) (by omega) [(0, pt x), (1, nt a), (2, nt di), (3, nt n), (8, .slice A45 ((ys ++ [(di, n)]).length) cap45), (9, .bool true), (10, nt ((i + 1 : Nat) : Int))] rfl ⟨i + 1, true, A45, cap45, ys ++ [(di, n)], by have h9 := (List.getElem?_eq_some_iff.1 hx24).1; rw [hls18] at h9; omega, (lkR_ye (by rw [← hls18]; exact hx24) hg32 hc41 hc47).symm.trans hlk, hA45, fun q h => (own45 q h).1, by omega, hk11, rfl⟩
   refine Vsk <| Vr <| On 1 [0, 1, 2, 3, 8, 9, 10, 11, 48, 49, 50, 51, 59] <| Lr 0 (nt x23.1) hb25_30 <| Oen [0, 1, 2, 3, 8, 9, 10, 11, 48, 49, 50, 51, 62] <| V_not (x23.1 = di) (by kernel_rfl) (fun hc55 => ?_) (fun hc55 => ?_)
   ·
    refine V_region <| On 1 [0, 1, 2, 3, 9, 10, 11, 48, 49, 50, 51, 63] <| La 0 (lkc x23) 2 hb25_30 (take_all (lkc_len _)) (lkc_len _) <| OI_slit (E := 61) (zv := .agg #[nt 0, nt 0]) (sz := 2) (by_ := 16) 52 1 #[(0, (Operand.tmp 64))] [.agg (lkc x23).toArray] (lkc x23) (some 65) (by kernel_rfl) (by kernel_rfl) (by kernel_rfl) (by omega) rfl (by omega) (by intro v hv; obtain rfl := List.mem_singleton.1 hv; show (lkc x23).toArray.size = 2; simp [lkc_len]) (by kernel_rfl) (by show (lkc x23).toArray.toList ++ [] = _; simp) ?_
    intro b56 w56 e56 hb56 k56 z56
    have hsz57 := Keep.size k56
    replace hA2 := hA2.keep0 k56
    replace hk11 := hk11.tn k56
    have hb56lt := hb56.lt
    have ow58 : ∀ q, inA A2 q → w.heap.size ≤ q ∧ q ≠ b25 := fun q hq => by have h1 := ow2 q hq; have h2 := lt2 q hq; omega
    refine OI_append (t := 52) (at2 := 52) (E := 61) (E2 := 61) (sz := 2) (by_ := 16) (zv := .agg #[nt 0, nt 0]) (m := ys.length) (k := 1) (.tmp 63) (.tmp 65) (.slice A2 ys.length cap2) (sl_ b56 0 1 1) (some 66) (by kernel_rfl) (by kernel_rfl) (by kernel_rfl) (by kernel_rfl) (by kernel_rfl) (by kernel_rfl) (by kernel_rfl) (SlT.slr hA2) (slr_one hb56 (lkc_len (x23))) (lkc_one (x23)) (by first | omega | (simp only [List.length_nil]; omega)) (by omega) (by first | omega | (simp only [List.length_nil]; omega)) (by omega) ?_
    intro vv9 w59 hap
    obtain ⟨A59, cap59, rfl, hA59, hk59, own59x⟩ := app_one (f := lkc) (xs := ys) (x := (x23)) (A := A2) (cap := cap2) hap (fun x _ => lkc_len x) (lkc_len _)
    have own59 : ∀ q, inA A59 q → w.heap.size ≤ q ∧ q ≠ b25 := fun q hq => by rcases own59x q hq with h | h; exact ow58 q h; (show w.heap.size ≤ q ∧ q ≠ b25; omega)
    have hsz60 := Keep.size hk59
    replace hk11 := Keep.fresh hk11 hk59 (by intro i hi hs; first | exact hs | (exfalso; have h1 := ow58 i hs; have h2 := lt2 i hs; omega) | (have h1 := ow58 i hs; have h2 := lt2 i hs; show _ ∨ _; omega))
    have lt59 := SlT.lt hA59
    have hyl58 : (ys ++ [(x23)]).length = (ys).length + 1 := List.length_append
    refine On 5 [0, 1, 2, 3, 8, 9, 10, 48, 49, 50, 51] <| OI_end rfl <| X_block <| X_then <| V_region ?_
    have hw61 : IntKind.i64.wrap ((i : Int) + 1) = ((i + 1 : Nat) : Int) := (wrap64_id (by omega) (by omega)).trans (by omega)
    refine On 2 [0, 1, 2, 3, 8, 9, 33, 48, 49, 50, 51] <| Oq (u := nt (IntKind.i64.wrap ((i : Int) + 1))) (v := nt ((i + 1 : Nat) : Int)) 33 (by rw [hw61]) <| Os 3 [(0, pt x), (1, nt a), (2, nt di), (3, nt n), (8, .slice A59 ((ys ++ [(x23)]).length) cap59), (9, .bool lb2), (10, nt ((i + 1 : Nat) : Int)), (48, pt b25), (49, nt x23.1), (50, nt di), (51, .bool (decide (x23.1 ≥ di)))] <| OI_end rfl ?_
    exact V_again (k10 - 1) (by omega) [(0, pt x), (1, nt a), (2, nt di), (3, nt n), (8, .slice A59 ((ys ++ [(x23)]).length) cap59), (9, .bool lb2), (10, nt ((i + 1 : Nat) : Int))] rfl ⟨i + 1, lb2, A59, cap59, ys ++ [(x23)], by have h9 := (List.getElem?_eq_some_iff.1 hx24).1; rw [hls18] at h9; omega, (lkR_nn (by rw [← hls18]; exact hx24) (fun h => hc41 h.2) hc55).symm.trans hlk, hA59, fun q h => (own59 q h).1, by omega, hk11, rfl⟩
   refine V_skip <| X_block <| X_then <| V_region ?_
   have hw62 : IntKind.i64.wrap ((i : Int) + 1) = ((i + 1 : Nat) : Int) := (wrap64_id (by omega) (by omega)).trans (by omega)
   refine On 2 [0, 1, 2, 3, 8, 9, 33, 48, 49, 50, 51] <| Oq (u := nt (IntKind.i64.wrap ((i : Int) + 1))) (v := nt ((i + 1 : Nat) : Int)) 33 (by rw [hw62]) <| Os 3 [(0, pt x), (1, nt a), (2, nt di), (3, nt n), (8, .slice A2 ys.length cap2), (9, .bool lb2), (10, nt ((i + 1 : Nat) : Int)), (48, pt b25), (49, nt x23.1), (50, nt di), (51, .bool (decide (x23.1 ≥ di)))] <| OI_end rfl ?_
   exact V_again (k10 - 1) (by omega) [(0, pt x), (1, nt a), (2, nt di), (3, nt n), (8, .slice A2 ys.length cap2), (9, .bool lb2), (10, nt ((i + 1 : Nat) : Int))] rfl ⟨i + 1, lb2, A2, cap2, ys, by have h9 := (List.getElem?_eq_some_iff.1 hx24).1; rw [hls18] at h9; omega, (lkR_ne (by rw [← hls18]; exact hx24) (fun h => hc41 h.2) hc55).symm.trans hlk, hA2, ow2, by omega, hk11, rfl⟩
  refine V_exit <| X_exit_then <| X_exit_then <| X_exit_here <| X_then <| V_seq <| Vn [0, 1, 2, 3, 8, 68] <| Vb (!lb2) (fun hc63 => ?_) (fun hc63 => ?_)
  ·
   refine V_region <| On 4 [0, 1, 69, 72] <| OI_slit (E := 61) (zv := .agg #[nt 0, nt 0]) (sz := 2) (by_ := 16) 52 1 #[(0, (Operand.tmp 72))] [.agg #[nt di, nt n]] [nt di, nt n] (some 73) (by kernel_rfl) (by kernel_rfl) (by kernel_rfl) (by omega) rfl (by omega) (by intro v hv; simp only [List.mem_cons, List.not_mem_nil, or_false] at hv; rcases hv with rfl <;> rfl) (by kernel_rfl) rfl ?_
   intro b64 w64 e64 hb64 k64 z64
   have hsz65 := Keep.size k64
   replace hx := hx.k0 k64
   replace hat13 := hat13.keep k64 id
   replace hA2 := hA2.keep0 k64
   replace hK0 := hK0.tn k64
   replace hall := DAll.keep hall k64 (fun _ _ _ _ f => f)
   have hb64lt := hb64.lt
   have ow66 : ∀ q, inA A2 q → w.heap.size ≤ q := fun q hq => by have h1 := ow2 q hq; have h2 := lt2 q hq; omega
   refine OI_append (t := 52) (at2 := 52) (E := 61) (E2 := 61) (sz := 2) (by_ := 16) (zv := .agg #[nt 0, nt 0]) (m := ys.length) (k := 1) (.tmp 69) (.tmp 73) (.slice A2 ys.length cap2) (sl_ b64 0 1 1) (some 74) (by kernel_rfl) (by kernel_rfl) (by kernel_rfl) (by kernel_rfl) (by kernel_rfl) (by kernel_rfl) (by kernel_rfl) (SlT.slr hA2) (slr_one hb64 (lkc_len (di, n))) (lkc_one (di, n)) (by first | omega | (simp only [List.length_nil]; omega)) (by omega) (by first | omega | (simp only [List.length_nil]; omega)) (by omega) ?_
   intro vv9 w67 hap
   obtain ⟨A67, cap67, rfl, hA67, hk67, own67x⟩ := app_one (f := lkc) (xs := ys) (x := (di, n)) (A := A2) (cap := cap2) hap (fun x _ => lkc_len x) (lkc_len _)
   have own67 : ∀ q, inA A67 q → w.heap.size ≤ q := fun q hq => by rcases own67x q hq with h | h; exact ow66 q h; (show w.heap.size ≤ q; omega)
   have hsz68 := Keep.size hk67
   replace hx := hx.keep hk67 (fun hs => by have h1 := ow66 _ hs; have h2 := lt2 _ hs; omega)
   replace hat13 := hat13.keep hk67 (fun hs => by have h1 := ow66 _ hs; have h2 := lt2 _ hs; omega)
   replace hK0 := Keep.fresh hK0 hk67 (by intro i hi hs; first | exact hs | (exfalso; have h1 := ow66 i hs; have h2 := lt2 i hs; omega) | (have h1 := ow66 i hs; have h2 := lt2 i hs; show _ ∨ _; omega))
   replace hall := DAll.keep hall hk67 (fun q h1 _ _ hs => by have h4 := hFlt q h1; have h1 := ow66 q hs; have h2 := lt2 q hs; omega)
   have lt67 := SlT.lt hA67
   have hyl66 : (ys ++ [(di, n)]).length = (ys).length + 1 := List.length_append
   refine On 7 [0, 1, 8] <| Oe <| V_region <| On 3 [1, 8, 77] <| Lr 0 (sl_ b13 o13 ds.length cap) hx <| On 6 [78, 79, 80] <| Op_ [(78, sl_ b13 o13 ds.length cap), (79, nt a), (80, .slice A67 ((ys ++ [(di, n)]).length) cap67)] <| Oq (u := nt a) (v := nt (j5 : Int)) 79 (by rw [hj5]) <| Oi (b := b13) (o := o13) (len := ds.length) (cap := cap) (j := j5) (some 81) 57 (.tmp 78) (.tmp 79) 56 3 40 .i64 <| Os 8 [(80, .slice A67 ((ys ++ [(di, n)]).length) cap67), (82, .pointer (some ⟨b13, o13 + j5 * 3 + 2, none⟩))] <| OI_set (m := 1) (kd := false) 52 (.tmp 82) (.tmp 80) (o13 + j5 * 3 + 2) (.slice A67 ((ys ++ [(di, n)]).length) cap67) [.slice A67 ((ys ++ [(di, n)]).length) cap67] none (by kernel_rfl) (by kernel_rfl) (by kernel_rfl) (At.blk hat13) (by kernel_rfl) (by kernel_rfl) rfl (by have h1 := At.room hat13; have h2 := At.le hat13; rw [List.length_map] at h2; omega) (by simp [Value.oneCell']) ?_
   intro w69 hn70 hk71 hz72
   have hat73 := At.set (y := (DE.mk f18 g18 A67 cap67 (ys ++ [(di, n)]) : DE)) (k := 2) hat13 hx17 (by omega) (by simp [DE.cells, over]) hn70
   have hsz74 := Keep.size hk71
   replace hx := hx.k1 hk71
   replace hA67 := hA67.keep hk71 (fun q hq hs => by have hs : q = b13 := hs; have g0 := own67 q hq; have g1 := lt67 q hq; omega)
   replace hK0 := Keep.fresh hK0 hk71 (by intro i hi hs; have hs2 : i = b13 := hs; first | (exfalso; omega) | (rw [hs2]; exact (hdx.own _ ⟨_, rfl, rfl⟩).1))
   replace hall := DAll.keep hall hk71 (fun q h1 h2 h3 hs => by have hs : q = b13 := hs; exact h3 (hs ▸ ⟨_, rfl, rfl⟩))
   have hlhx75 : (ds.set j5 (DE.mk f18 g18 A67 cap67 (ys ++ [(di, n)]))).length = ds.length := List.length_set
   have hx75 : (ds.set j5 (DE.mk f18 g18 A67 cap67 (ys ++ [(di, n)])))[j5]? = some (DE.mk f18 g18 A67 cap67 (ys ++ [(di, n)])) := by rw [List.getElem?_set_self (List.getElem?_eq_some_iff.1 hx17).1]
   replace hacc := (map_set (j := j5) hacc f18 g18 A67 cap67 (ys ++ [(di, n)])).trans (set_same (de_at hacc hx17))
   refine OI_end rfl ?_
   have hie : i = (rowL (j5 : Int) cs).length := by omega
   rw [hie, List.drop_length] at hlk
   have hys : (ys ++ [(di, n)]) = rowL (j5 : Int) (lockC cs a di n) := by rw [← hj5, lock_row hcl.2.1 hsa, ← hlb, hj5, ← hlk]; cases lb2 <;> simp_all [lkR]
   have hoth : ∀ i : Nat, i ≠ j5 → rowL (i : Int) (lockC cs a di n) = rowL (i : Int) cs := fun i hi => lock_other (by omega) di n
   have hall9 := DAll.lock (F' := more F w w69) hall hx17 hys hoth hA67 (fun q hq => by have h1 := own67 q hq; have h2 := SlT.lt hA67 q hq; exact ⟨.inr ⟨by omega, h2⟩, by omega, fun h3 => by have h5 := hFlt q (hdx.own q h3).1; omega⟩) (fun q h => .inl h)
   exact X_end _ rfl ⟨rfl, ⟨more F w w69, ⟨hinv, okC_lock hcl hmax a di n, .inl hFx, (fun q hq => by rcases hq with hq | hq; (have h9 := hFlt q hq; omega); exact hq.2), _, _, _, ⟨by simp only [List.length_set]; exact hx, At.slt hat73, fun q hq => ⟨.inl (hdx.own q hq).1, (hdx.own q hq).2⟩, hacc, hall9⟩⟩, fun q hq => hq.imp id (·.1)⟩, hK0⟩
  refine Vsk <| V_region <| On 3 [1, 8, 77] <| Lr 0 (sl_ b13 o13 ds.length cap) hx <| On 6 [78, 79, 80] <| Op_ [(78, sl_ b13 o13 ds.length cap), (79, nt a), (80, .slice A2 ys.length cap2)] <| Oq (u := nt a) (v := nt (j5 : Int)) 79 (by rw [hj5]) <| Oi (b := b13) (o := o13) (len := ds.length) (cap := cap) (j := j5) (some 81) 57 (.tmp 78) (.tmp 79) 56 3 40 .i64 <| Os 8 [(80, .slice A2 ys.length cap2), (82, .pointer (some ⟨b13, o13 + j5 * 3 + 2, none⟩))] <| OI_set (m := 1) (kd := false) 52 (.tmp 82) (.tmp 80) (o13 + j5 * 3 + 2) (.slice A2 ys.length cap2) [.slice A2 ys.length cap2] none (by kernel_rfl) (by kernel_rfl) (by kernel_rfl) (At.blk hat13) (by kernel_rfl) (by kernel_rfl) rfl (by have h1 := At.room hat13; have h2 := At.le hat13; rw [List.length_map] at h2; omega) (by simp [Value.oneCell']) ?_
  intro w76 hn77 hk78 hz79
  have hat80 := At.set (y := (DE.mk f18 g18 A2 cap2 ys : DE)) (k := 2) hat13 hx17 (by omega) (by simp [DE.cells, over]) hn77
  have hsz81 := Keep.size hk78
  replace hx := hx.k1 hk78
  replace hA2 := hA2.keep hk78 (fun q hq hs => by have hs : q = b13 := hs; have g0 := ow2 q hq; have g1 := lt2 q hq; omega)
  replace hK0 := Keep.fresh hK0 hk78 (by intro i hi hs; have hs2 : i = b13 := hs; first | (exfalso; omega) | (rw [hs2]; exact (hdx.own _ ⟨_, rfl, rfl⟩).1))
  replace hall := DAll.keep hall hk78 (fun q h1 h2 h3 hs => by have hs : q = b13 := hs; exact h3 (hs ▸ ⟨_, rfl, rfl⟩))
  have hlhx82 : (ds.set j5 (DE.mk f18 g18 A2 cap2 ys)).length = ds.length := List.length_set
  have hx82 : (ds.set j5 (DE.mk f18 g18 A2 cap2 ys))[j5]? = some (DE.mk f18 g18 A2 cap2 ys) := by rw [List.getElem?_set_self (List.getElem?_eq_some_iff.1 hx17).1]
  replace hacc := (map_set (j := j5) hacc f18 g18 A2 cap2 ys).trans (set_same (de_at hacc hx17))
  refine OI_end rfl ?_
  have hie : i = (rowL (j5 : Int) cs).length := by omega
  rw [hie, List.drop_length] at hlk
  have hys : ys = rowL (j5 : Int) (lockC cs a di n) := by rw [← hj5, lock_row hcl.2.1 hsa, ← hlb, hj5, ← hlk]; cases lb2 <;> simp_all [lkR]
  have hoth : ∀ i : Nat, i ≠ j5 → rowL (i : Int) (lockC cs a di n) = rowL (i : Int) cs := fun i hi => lock_other (by omega) di n
  have hall9 := DAll.lock (F' := more F w w76) hall hx17 hys hoth hA2 (fun q hq => by have h1 := ow2 q hq; have h2 := SlT.lt hA2 q hq; exact ⟨.inr ⟨by omega, h2⟩, by omega, fun h3 => by have h5 := hFlt q (hdx.own q h3).1; omega⟩) (fun q h => .inl h)
  exact X_end _ rfl ⟨rfl, ⟨more F w w76, ⟨hinv, okC_lock hcl hmax a di n, .inl hFx, (fun q hq => by rcases hq with hq | hq; (have h9 := hFlt q hq; omega); exact hq.2), _, _, _, ⟨by simp only [List.length_set]; exact hx, At.slt hat80, fun q hq => ⟨.inl (hdx.own q hq).1, (hdx.own q hq).2⟩, hacc, hall9⟩⟩, fun q hq => hq.imp id (·.1)⟩, hK0⟩
end Go.Al

namespace Go.Al
open Go Go.RowKit Go.Proofs
def sumI : List Int → Int
  | [] => 0
  | x :: l => x + sumI l
theorem sumI_app (l : List Int) (x : Int) : sumI (l ++ [x]) = sumI l + x := by
  induction l with
  | nil => simp [sumI]
  | cons y l ih => simp only [List.cons_append, sumI, ih]; omega
theorem tot_app (a b : List Acc) : tot (a ++ b) = tot a + tot b := by
  induction a with
  | nil => simp [tot]
  | cons y l ih => simp only [List.cons_append, tot, ih]; omega
theorem sum_bnd : ∀ (l : List Int), (∀ y ∈ l, 0 ≤ y ∧ y ≤ 1073741824) → 0 ≤ sumI l ∧ sumI l ≤ 1073741824 * l.length
  | [], _ => by simp [sumI]
  | x :: l, h => by
    have h1 := h x (List.mem_cons_self ..)
    have h2 := sum_bnd l (fun y hy => h y (List.mem_cons_of_mem _ hy))
    rw [sumI, List.length_cons]; omega
theorem tot_new : ∀ (n : Nat) (fs : List Int), fs.length ≤ n → tot (newX fs n) = sumI fs
  | 0, fs, h => by
    obtain rfl := List.length_eq_zero_iff.1 (Nat.le_zero.1 h)
    rfl
  | n + 1, fs, h => by
    rw [newX_succ, tot_app]
    by_cases hn : fs.length ≤ n
    · rw [tot_new n fs hn, List.getElem?_eq_none hn]; simp [tot]
    · have hn : fs.length = n + 1 := by omega
      have hx : fs[n]? = some fs[n] := List.getElem?_eq_getElem (by omega)
      have ht : fs.take n ++ [fs[n]] = fs := by
        have := List.take_succ_eq_append_getElem (l := fs) (i := n) (by omega)
        rw [← this, List.take_of_length_le (by omega)]
      have he : newX fs n = newX (fs.take n) n := by
        unfold newX
        refine List.map_congr_left fun k hk => ?_
        rw [List.getElem?_take, if_pos (List.mem_range.1 hk)]
      have hs : sumI fs = sumI (fs.take n) + fs[n] := by rw [← sumI_app, ht]
      rw [he, tot_new n (fs.take n) (by rw [List.length_take]; omega), hx, hs]
      simp [tot]
def dsN (fs : List Int) (i : Nat) : List DE := (List.range 10).map fun k => ⟨if k < i then (fs[k]?).getD 0 else 0, 0, none, 0, []⟩
theorem dsN_len (fs : List Int) (i : Nat) : (dsN fs i).length = 10 := by simp [dsN]
theorem dsN_at {fs : List Int} {i k : Nat} {d : DE} (h : (dsN fs i)[k]? = some d) : k < 10 ∧ d = ⟨if k < i then (fs[k]?).getD 0 else 0, 0, none, 0, []⟩ := by
  obtain ⟨h1, h2⟩ := List.getElem?_eq_some_iff.1 h
  rw [dsN_len] at h1
  exact ⟨h1, by rw [← h2]; simp [dsN]⟩
theorem dsN_step {fs : List Int} {i : Nat} {x : Int} (h : fs[i]? = some x) : (dsN fs i).set i ⟨x, 0, none, 0, []⟩ = dsN fs (i + 1) := by
  refine List.ext_getElem? fun k => ?_
  by_cases hk : k = i
  · subst hk
    by_cases hl : k < 10
    · rw [List.getElem?_set_self (by rw [dsN_len]; exact hl)]; simp [dsN, hl, h]
    · rw [List.getElem?_eq_none (by rw [List.length_set, dsN_len]; omega), List.getElem?_eq_none (by rw [dsN_len]; omega)]
  · rw [List.getElem?_set_ne (Ne.symm hk)]
    by_cases hl : k < 10
    · simp [dsN, hl]
      have : k < i ↔ k < i + 1 := by omega
      by_cases h3 : k < i
      · rw [if_pos h3, if_pos (by omega)]
      · rw [if_neg h3, if_neg (by omega)]
    · rw [List.getElem?_eq_none (by rw [dsN_len]; omega), List.getElem?_eq_none (by rw [dsN_len]; omega)]
theorem dsN_acc {fs : List Int} (h : fs.length ≤ 10) : (dsN fs fs.length).map DE.acc = newX fs 10 := by
  unfold dsN newX
  rw [List.map_map]
  refine List.map_congr_left fun k hk => ?_
  show Acc.mk (if k < fs.length then (fs[k]?).getD 0 else 0) 0 = _
  by_cases h3 : k < fs.length
  · rw [if_pos h3]
  · rw [if_neg h3, List.getElem?_eq_none (by omega)]; rfl
theorem okC_nil : OkC [] := ⟨by decide, List.Pairwise.nil, fun c h => by cases h⟩
theorem newX_inv {fs : List Int} (h : okP fs) : Inv (newX fs 10) := by
  refine ⟨by simp [newX], fun x hx => ?_, h.2.2⟩
  obtain ⟨k, _, rfl⟩ := List.mem_map.1 hx
  show 0 ≤ (fs[k]?).getD 0 ∧ 0 ≤ (0 : Int)
  refine ⟨?_, by decide⟩
  cases hk : fs[k]? with
  | none => exact Int.le_refl _
  | some x => exact (h.2.1 x (List.mem_of_getElem? hk)).1
set_option maxHeartbeats 1000000 in
theorem new6_spec (A : Option Addr) (cap : Nat) (fs : List Int) (w : World) (hA0 : ArgT w 1 intc A cap fs) (hn : fs.length ≤ 9223372036854775807) : Calls Try.prog 28 #[.slice A fs.length cap] w fun e w' => (okP fs ∧ ∃ x F, e = .returned (.tuple #[pt x, nt 0]) ∧ DLd F w' x (newX fs 10) [] ∧ Keep none_ w w' ∧ (∀ q, F q → w.heap.size ≤ q)) ∨ (¬ okP fs ∧ e = .returned (.tuple #[.pointer none, nt 1]) ∧ Keep none_ w w') := by
 have hA := hA0
 have hK0 : Keep none_ w w := Keep.refl _ _
 have hzhK0 := Keep.size hK0
 refine eV ?_
 refine Vr <| On 2 [0] <| Oe <| V_seq <| Vn [0, 9] <| Vi ((fs.length : Int) > 10) (fun hc1 => ?_) (fun hc1 => ?_)
 ·
  refine Vs [(2, .pointer none), (3, nt 1)] <| Rt ?_
  exact X_return _ rfl (.inr ⟨fun h => by have := h.1; omega, rfl, hK0⟩)
 refine Vsk <| Vr <| OI_make (E := 56) (sz := 3) (by_ := 40) (m := 10) (kd := .i64) (zv := .agg #[nt 0, nt 0, .slice none 0 0]) 57 (.const (Value.int IntKind.i64 10)) (.const (Value.int IntKind.i64 10)) ((List.replicate 10 [nt 0, nt 0, .slice none 0 0]).flatten) (some 10) (by kernel_rfl) (by kernel_rfl) (by kernel_rfl) (by kernel_rfl) (by kernel_rfl) (by decide) (by decide) (by kernel_rfl) ?_
 intro b2 w2 e2 hb2 k2 z2
 have hsz3 := Keep.size k2
 replace hA := ArgT.keep0 hA k2
 replace hK0 := hK0.tn k2
 have hb2lt := hb2.lt
 refine On 2 [0, 11] <| Bx 59 [sl_ b2 0 10 10] ?_
 intro b4 w4 e4 hb4 k4 z4
 have hsz5 := Keep.size k4
 replace hb2 := hb2.k0 k4
 replace hA := ArgT.keep0 hA k4
 replace hK0 := hK0.tn k4
 have hb4lt := hb4.lt
 refine On 4 [0, 4] <| Oer <| On 1 [0, 4, 5] <| Oe <| V_seq <| Vn [0, 4, 5, 6] <| V_block <| Vp [(0, .slice A fs.length cap), (4, pt b4), (5, nt 0), (6, nt 0)] <| V_loop (fun k wI e => ∃ i : Nat, ∃ A2 : Option Addr, ∃ ds : List DE, ∃ s : Int, (k + i = fs.length) ∧ (ds = dsN fs i) ∧ (Blk wI b4 [.slice A2 ds.length 10] 59) ∧ (SlT wI 3 DE.cells A2 10 ds) ∧ (∀ q, inA A2 q → w.heap.size ≤ q ∧ q ≠ b4) ∧ (∀ q, inA A2 q → q = b2) ∧ (s = sumI (fs.take i)) ∧ (∀ y ∈ fs.take i, 0 ≤ y ∧ y ≤ 1073741824) ∧ Keep (fun q => (only b2) q ∨ (only b4) q) w4 wI ∧ e = [(0, .slice A fs.length cap), (4, pt b4), (5, nt s), (6, nt (i : Int))]) fs.length ⟨0, (some ⟨b2, 0, none⟩), dsN fs 0, 0, by omega, rfl, hb4, slt_blk (xs := dsN fs 0) hb2 DE.len rfl, (fun q h => by have h3 := inA_some h; omega), (fun q h => inA_some h), rfl, fun y hy => by simp at hy, Keep.refl _ _, rfl⟩ ?_
 rintro k7 w6 _ ⟨i, A2, ds, s, hki, hds, hxb, hA2, ow2, hrA, hs, hok, hk8, rfl⟩
 have hsz9 := Keep.size hk8
 replace hA := ArgT.keep hA hk8 hA0 (fun k hk hs => by rcases hs with hs | hs; (have u0 : k = b2 := hs; omega); (have u0 : k = b4 := hs; omega))
 replace hK0 := Keep.fresh hK0 hk8 (by intro i hi hs; first | exact hs | (rcases hs with hs | hs; (have u0 : i = b2 := hs; omega); (have u0 : i = b4 := hs; omega)))
 have hzhk8 := Keep.size hk8
 have hb4lt := hxb.lt
 have lt2 := SlT.lt hA2
 have hdl : ds.length = 10 := by rw [hds, dsN_len]
 have hsb := sum_bnd _ hok; rw [List.length_take, ← hs] at hsb
 refine V_seq <| Vn [0, 4, 5, 6, 16] <| Vi ((i : Int) < (fs.length : Int)) (fun hc10 => ?_) (fun hc10 => ?_)
 ·
  refine Vsk <| V_seq <| V_block <| V_seq <| Vr <| On 2 [0, 4, 5, 6, 19, 20] ?_
  obtain ⟨b11, o11, L11, rfl, hat11⟩ := ArgT.open_ hA (by first | omega | (simp only [List.length_map]; omega) | (simp; done) | (simp; omega))
  have hb11lt0 := ArgT.lt hA0 (by first | omega | (simp only [List.length_map]; omega) | (simp; done) | (simp; omega))
  have hb11lt := hat11.blk.lt
  refine Oi (b := b11) (o := o11) (len := fs.length) (cap := cap) (j := i) (some 21) 26 (.tmp 19) (.tmp 20) 3 1 8 .i64 ?_
  obtain ⟨x12, hx13⟩ : ∃ x, fs[i]? = some x := ⟨_, List.getElem?_eq_getElem (by first | omega | (simp only [List.length_map]; omega))⟩
  obtain ⟨hts, htl⟩ : fs.take (i + 1) = fs.take i ++ [x12] ∧ True := ⟨by obtain ⟨h1, h2⟩ := List.getElem?_eq_some_iff.1 hx13; rw [List.take_succ_eq_append_getElem h1, h2], trivial⟩
  refine OI_cellR 3 (.tmp 21) (o11 + i * 1) (nt x12) (some 22) (by kernel_rfl) (by kernel_rfl) hat11.blk (m := 1) (by kernel_rfl) (AtR.cell0 hat11 (es_at hx13) rfl) <| On 6 [0, 4, 5, 6, 24] ?_
  by_cases hg14 : x12 < 0
  ·
   refine Dt 24 hg14 <| Oen [0, 4, 5, 6, 25, 26, 27, 28, 29, 30] <| Vo <| Vs [(2, .pointer none), (3, nt 1)] <| Rt <| X_ret_block <| X_ret_then <| X_ret_then <| X_ret_block <| X_ret_then ?_
   exact X_return _ rfl (.inr ⟨fun h => by have h9 := h.2.1 _ (List.mem_of_getElem? hx13); omega, rfl, hK0⟩)
  refine Df 24 hg14 <| On 8 [0, 4, 5, 6, 24, 25, 26] <| Oi (b := b11) (o := o11) (len := fs.length) (cap := cap) (j := i) (some 27) 26 (.tmp 25) (.tmp 26) 3 1 8 .i64 <| OI_cellR 3 (.tmp 27) (o11 + i * 1) (nt x12) (some 28) (by kernel_rfl) (by kernel_rfl) hat11.blk (m := 1) (by kernel_rfl) (AtR.cell0 hat11 (es_at hx13) rfl) <| Oen [0, 4, 5, 6, 25, 26, 27, 28, 29, 30] <| Vi (x12 > 1073741824) (fun hc15 => ?_) (fun hc15 => ?_)
  ·
   refine Vs [(2, .pointer none), (3, nt 1)] <| Rt <| X_ret_block <| X_ret_then <| X_ret_then <| X_ret_block <| X_ret_then ?_
   exact X_return _ rfl (.inr ⟨fun h => by have h9 := h.2.1 _ (List.mem_of_getElem? hx13); omega, rfl, hK0⟩)
  refine Vsk <| V_seq ?_
  have h10 : 0 < ds.length := by omega
  obtain ⟨b16, o16, L16, T16, rfl, hat16⟩ := SlT.open_ hA2 (by first | omega | (simp only [List.length_map]; omega) | (simp; done) | (simp; omega))
  have hb16lt := hat16.blk.lt
  have hob17 := ow2 b16 ⟨_, rfl, rfl⟩
  have hob18 := lt2 b16 ⟨_, rfl, rfl⟩
  have hbA : b16 = b2 := hrA _ ⟨_, rfl, rfl⟩
  refine V_draws (acts [11]) (only b16) [[0, 1, 2, 3, 4, 5, 6, 7, 8, 9, 10, 11]] (by kernel_rfl) (by repeat first | exact sure_body (by first | (rintro _ _ (⟨_, _, _, h, _⟩ | ⟨_, h, _⟩) <;> exact ⟨_, h⟩)) | refine sure_then ?_ | refine sure_block ?_ | refine sure_join ?_) (by kernel_rfl) ?_
  intro w20 hk19 he21 L hL22
  have hsz23 := Keep.size hk19
  replace hxb := hxb.k0 hk19
  replace hat11 := hat11.keep hk19 id
  replace hat16 := hat16.keep hk19 id
  replace hk8 := hk8.tn hk19
  have qhxb := hxb
  have qhat11 := hat11
  have K24 : Keep (only b16) w20 w20 := Keep.refl _ _
  obtain rfl := List.mem_singleton.1 hL22
  refine Gn [3, 4, 5, 6, 7, 8, 9, 10, 11] [0, 4, 5, 6, 25, 26, 27, 28, 29, 33] <| Mc 0 (sl_ b16 o16 ds.length 10) qhxb (by show ¬ (_ = _); omega) rfl <| Gs [7, 8, 9, 10, 11] [(0, sl_ b11 o11 fs.length cap), (4, pt b4), (5, nt s), (6, nt (i : Int)), (25, sl_ b11 o11 fs.length cap), (26, nt (i : Int)), (27, .pointer (some ⟨b11, o11 + i * 1, none⟩)), (28, nt x12), (29, .bool (decide (x12 > 1073741824))), (34, sl_ b16 o16 ds.length 10), (35, nt (i : Int)), (36, sl_ b11 o11 fs.length cap), (37, nt (i : Int))] <| GI_pure (some 38) (.indexAddr 26 (.tmp 36) (.tmp 37)) (by kernel_rfl) (by kernel_rfl) (pure_idxN (b := b11) (o := o11) (len := fs.length) (cap := cap) (kd := .i64) (j := i) (E := 3) (sz := 1) (by_ := 8) (by kernel_rfl) (by kernel_rfl) (by kernel_rfl) (by omega)) <| GI_cellR 3 (.tmp 38) (o11 + i * 1) (nt x12) (some 39) (by kernel_rfl) (by kernel_rfl) (by kernel_rfl) qhat11.blk (by show ¬ (_ = _); omega) (m := 1) (by kernel_rfl) (AtR.cell0 qhat11 (es_at hx13) rfl) <| GI_pure (some 40) (.indexAddr 57 (.tmp 34) (.tmp 35)) (by kernel_rfl) (by kernel_rfl) (pure_idxN (b := b16) (o := o16) (len := ds.length) (cap := 10) (kd := .i64) (j := i) (E := 56) (sz := 3) (by_ := 40) (by kernel_rfl) (by kernel_rfl) (by kernel_rfl) (by omega)) <| Gn [11] [0, 4, 5, 6, 25, 26, 27, 28, 29, 39, 41] <| GI_final 11 (by kernel_rfl) (by kernel_rfl) ?_
  obtain ⟨x25, hx26⟩ : ∃ x, ds[i]? = some x := ⟨_, List.getElem?_eq_getElem (by first | omega | (simp only [List.length_map]; omega))⟩
  obtain ⟨_, hde⟩ := dsN_at (by rw [← hds]; exact hx26)
  rw [if_neg (by omega)] at hde
  subst hde
  refine OI_set (m := 1) (kd := false) 3 (.tmp 41) (.tmp 39) (o16 + i * 3) (nt x12) [nt x12] none (by kernel_rfl) (by kernel_rfl) (by kernel_rfl) (At.blk hat16) (by kernel_rfl) (by kernel_rfl) rfl (by have h1 := At.room hat16; have h2 := At.le hat16; rw [List.length_map] at h2; omega) (by simp [Value.oneCell']) ?_
  intro w27 hn28 hk29 hz30
  have hat31 := At.set (y := (DE.mk x12 0 none 0 [] : DE)) (k := 0) hat16 hx26 (by omega) (by simp [DE.cells, over]) hn28
  have hsz32 := Keep.size hk29
  replace hxb := hxb.k1 hk29
  replace hat11 := hat11.keep hk29 (by show ¬ (_ = _); omega)
  replace hk8 := Keep.fresh hk8 hk29 (by intro i hi hs; exact .inl (by show i = _; rw [show i = b16 from hs]; exact hbA))
  have hlhx33 : (ds.set i (DE.mk x12 0 none 0 [])).length = ds.length := List.length_set
  have hx33 : (ds.set i (DE.mk x12 0 none 0 []))[i]? = some (DE.mk x12 0 none 0 []) := by rw [List.getElem?_set_self (List.getElem?_eq_some_iff.1 hx26).1]
  refine Oe <| V_region <| On 3 [0, 4, 6, 25, 26, 27, 28, 29, 42, 43, 44] <| Oi (b := b11) (o := o11) (len := fs.length) (cap := cap) (j := i) (some 45) 26 (.tmp 43) (.tmp 44) 3 1 8 .i64 <| OI_cellR 3 (.tmp 45) (o11 + i * 1) (nt x12) (some 46) (by kernel_rfl) (by kernel_rfl) hat11.blk (m := 1) (by kernel_rfl) (AtR.cell0 hat11 (es_at hx13) rfl) ?_
  have hw34 : IntKind.i64.wrap (s + x12) = s + x12 := (wrap64_id (by omega) (by omega)).trans (by omega)
  refine On 6 [0, 4, 6, 25, 26, 27, 28, 29, 47] <| Oq (u := nt (IntKind.i64.wrap (s + x12))) (v := nt (s + x12)) 47 (by rw [hw34]) <| On 7 [0, 4, 5, 6, 25, 26, 27, 28, 29] <| OI_end rfl <| X_block <| X_then <| V_region ?_
  have hw35 : IntKind.i64.wrap ((i : Int) + 1) = ((i + 1 : Nat) : Int) := (wrap64_id (by omega) (by omega)).trans (by omega)
  refine On 2 [0, 4, 5, 18, 25, 26, 27, 28, 29] <| Oq (u := nt (IntKind.i64.wrap ((i : Int) + 1))) (v := nt ((i + 1 : Nat) : Int)) 18 (by rw [hw35]) <| Os 3 [(0, sl_ b11 o11 fs.length cap), (4, pt b4), (5, nt (s + x12)), (6, nt ((i + 1 : Nat) : Int)), (25, sl_ b11 o11 fs.length cap), (26, nt (i : Int)), (27, .pointer (some ⟨b11, o11 + i * 1, none⟩)), (28, nt x12), (29, .bool (decide (x12 > 1073741824)))] <| OI_end rfl ?_
  exact V_again (k7 - 1) (by omega) [(0, sl_ b11 o11 fs.length cap), (4, pt b4), (5, nt (s + x12)), (6, nt ((i + 1 : Nat) : Int))] rfl ⟨i + 1, (some ⟨b16, o16, none⟩), ds.set i (DE.mk x12 0 none 0 []), s + x12, by omega, by rw [hds, dsN_step hx13], by simp only [List.length_set]; exact hxb, At.slt hat31, (fun q h => by have h3 := inA_some h; omega), (fun q h => by have h3 := inA_some h; omega), by rw [hts, sumI_app, ← hs], fun y hy => by rw [hts] at hy; rcases List.mem_append.1 hy with h | h; exact hok y h; (rw [List.mem_singleton.1 h]; omega), hk8, rfl⟩
 refine V_exit <| X_exit_then <| X_exit_then <| X_exit_here <| X_then <| V_seq <| Vn [4, 49] <| Vi (s > 1073741824) (fun hc36 => ?_) (fun hc36 => ?_)
 ·
  refine Vs [(2, .pointer none), (3, nt 1)] <| Rt ?_
  have hie : i = fs.length := by omega
  rw [hie, List.take_length] at hs
  exact X_return _ rfl (.inr ⟨fun h => by have h9 := h.2.2; rw [tot_new 10 fs (by omega)] at h9; omega, rfl, hK0⟩)
 refine Vsk <| Vs [(2, pt b4), (3, nt 0)] <| V_ret ?_
 have hie : i = fs.length := by omega
 rw [hie, List.take_length] at hs hok
 rw [hie] at hds
 have hokp : okP fs := ⟨by omega, hok, by rw [tot_new 10 fs (by omega)]; omega⟩
 exact X_return _ rfl (.inl ⟨hokp, b4, (fun q => inA A2 q ∨ q = b4), rfl, ⟨newX_inv hokp, okC_nil, .inr rfl, fun q hq => by rcases hq with h | h; (have h1 := lt2 q h; omega); omega, A2, 10, ds, ⟨hxb, hA2, fun q hq => ⟨.inl hq, (ow2 q hq).2⟩, by rw [hds]; exact dsN_acc (by omega), fun j d hd => by rw [hds] at hd; obtain ⟨_, rfl⟩ := dsN_at hd; exact ⟨rfl, SlT.nil _ _ _, fun q hq => (inA_none hq).elim⟩⟩⟩, hK0, fun q hq => by rcases hq with h | h; (have h1 := ow2 q h; omega); omega⟩)
end Go.Al

namespace Go.Al
open Go Go.RowKit Go.Proofs
theorem new_ok (A : Option Addr) (cap : Nat) (fs : List Int) (w : World) (hA : ArgT w 1 intc A cap fs) (hn : fs.length ≤ 100000) (hok : okP fs) : Calls Try.prog 14 #[.slice A fs.length cap] w fun e w' => ∃ l F, e = .returned (.tuple #[pt l, nt 0]) ∧ Led F w' l (newX fs 10) [] ∧ Keep none_ w w' ∧ (∀ q, F q → w.heap.size ≤ q) :=
  (new_spec6 A cap fs w hA hn).mono (by
    rintro e w' (⟨_, h⟩ | ⟨h, _⟩)
    · exact h
    · exact absurd hok h)
theorem new_no (A : Option Addr) (cap : Nat) (fs : List Int) (w : World) (hA : ArgT w 1 intc A cap fs) (hn : fs.length ≤ 100000) (hok : ¬ okP fs) : Calls Try.prog 14 #[.slice A fs.length cap] w (rk_ w (.tuple #[.pointer none, nt 1])) :=
  (new_spec6 A cap fs w hA hn).mono (by
    rintro e w' (⟨h, _⟩ | ⟨_, h⟩)
    · exact absurd h hok
    · exact h)
theorem kn_ok : okP [5] := ⟨by decide, by decide, by decide⟩
def kX : List Acc := newX [5] 10
def kC : List Ci := lockC [] 0 1 3
theorem kn1 : transE kX kC 0 1 3 = 7 := by kernel_rfl
theorem kn2 : transX kX kC 0 1 3 = kX := by kernel_rfl
theorem kn3 : transE kX kC 0 1 2 = 0 := by kernel_rfl
theorem kn4 : (acct (transX kX kC 0 1 2) 0).free = 3 := by kernel_rfl
theorem kn5 : tot (transX kX kC 0 1 2) = 5 := by kernel_rfl
theorem known_spec (w : World) : Calls Try.prog 18 #[] w (rk_ w (.bool true)) := by
 have hK0 : Keep none_ w w := Keep.refl _ _
 have hzhK0 := Keep.size hK0
 refine eV ?_
 refine Vr <| Os 1 [] <| Oer <| OI_slit (E := 3) (zv := nt 0) (sz := 1) (by_ := 8) 26 1 #[(0, (Operand.const (Value.int IntKind.i64 5)))] [nt 5] [nt 5] (some 6) (by kernel_rfl) (by kernel_rfl) (by kernel_rfl) (by omega) rfl (by omega) (by intro v hv; simp only [List.mem_cons, List.not_mem_nil, or_false] at hv; rcases hv with rfl <;> rfl) (by kernel_rfl) rfl ?_
 intro b1 w1 e1 hb1 k1 z1
 have hsz2 := Keep.size k1
 replace hK0 := hK0.tn k1
 have hb1lt := hb1.lt
 refine Kg (new_ok (some ⟨b1, 0, none⟩) 1 [5] _ (slt_blk (xs := [5]) (f := intc) hb1 (fun _ => rfl) rfl).arg (by simp) kn_ok) ?_
 rintro _ w3 ⟨l5, F6, rfl, ho7, hk4, hge8⟩
 refine ⟨_, rfl, ?_⟩
 have hsz9 := Keep.size hk4
 replace hK0 := hK0.tn hk4
 have own10 : ∀ q, F6 q → w1.heap.size ≤ q ∧ q ≠ b1 := fun q hq => by have h1 := hge8 q hq; omega
 have lt11 := Led.lt ho7
 have hl5lt : l5 < w3.heap.size := Led.lt ho7 _ (Led.at_ ho7)
 have hl5ge := hge8 _ (Led.at_ ho7)
 rw [show newX [5] 10 = kX from rfl] at ho7
 refine On 7 [1, 2] <| Oe <| V_seq <| Vn [1, 15] <| Vf <| Vsk <| Vr <| On 1 [1, 16] <| Kg (lock_spec F6 l5 kX ([] : List Ci) 0 1 3 _ ho7 (by simp)) ?_
 rintro _ w14 ⟨rfl, ⟨F16, ho17, hfr18⟩, hk15⟩
 refine ⟨_, rfl, ?_⟩
 have hsz19 := Keep.size hk15
 replace hK0 := Keep.fresh hK0 hk15 (by intro i hi hs; first | exact hs | (exfalso; have h1 := own10 i hs; have h2 := lt11 i hs; omega) | (have h1 := own10 i hs; have h2 := lt11 i hs; show _ ∨ _; omega))
 have own21 : ∀ q, F16 q → w1.heap.size ≤ q ∧ q ≠ b1 := fun q hq => by rcases hfr18 q hq with h | h; (have h1 := own10 q h; have h2 := lt11 q h; omega); omega
 have lt20 := Led.lt ho17
 rw [show lockC ([] : List Ci) 0 1 3 = kC from rfl] at ho17
 refine Oer <| Os 1 [(1, pt l5), (18, pt l5)] <| Ok (kl 17 #[(.tmp 18), (.const (nt 0)), (.const (nt 1)), (.const (nt 3))] #[22, 3, 3, 3]) 17 #[pt l5, nt 0, nt 1, nt 3] (some 19) (transfer_spec F16 l5 kX kC 0 1 3 _ ho17) ?_
 rintro _ w24 ⟨rfl, ⟨F26, ho27, hfr28⟩, hk25⟩
 refine ⟨_, rfl, ?_⟩
 have hsz29 := Keep.size hk25
 replace hK0 := Keep.fresh hK0 hk25 (by intro i hi hs; first | exact hs | (exfalso; have h1 := own21 i hs; have h2 := lt20 i hs; omega) | (have h1 := own21 i hs; have h2 := lt20 i hs; show _ ∨ _; omega))
 have own31 : ∀ q, F26 q → w1.heap.size ≤ q ∧ q ≠ b1 := fun q hq => by rcases hfr28 q hq with h | h; (have h1 := own21 q h; have h2 := lt20 q h; omega); omega
 have lt30 := Led.lt ho27
 rw [kn2] at ho27
 refine Op_ [(1, pt l5), (19, nt (transE kX kC 0 1 3))] <| Oq (u := nt (transE kX kC 0 1 3)) (v := nt 7) 19 (by rw [kn1]) <| On 3 [1, 3] <| Oer <| On 1 [1, 3, 20] <| Ok (kl 17 #[(.tmp 20), (.const (nt 0)), (.const (nt 1)), (.const (nt 2))] #[22, 3, 3, 3]) 17 #[pt l5, nt 0, nt 1, nt 2] (some 21) (transfer_spec F26 l5 kX kC 0 1 2 _ ho27) ?_
 rintro _ w34 ⟨rfl, ⟨F36, ho37, hfr38⟩, hk35⟩
 refine ⟨_, rfl, ?_⟩
 have hsz39 := Keep.size hk35
 replace hK0 := Keep.fresh hK0 hk35 (by intro i hi hs; first | exact hs | (exfalso; have h1 := own31 i hs; have h2 := lt30 i hs; omega) | (have h1 := own31 i hs; have h2 := lt30 i hs; show _ ∨ _; omega))
 have own41 : ∀ q, F36 q → w1.heap.size ≤ q ∧ q ≠ b1 := fun q hq => by rcases hfr38 q hq with h | h; (have h1 := own31 q h; have h2 := lt30 q h; omega); omega
 have lt40 := Led.lt ho37
 refine Op_ [(1, pt l5), (3, nt 7), (21, nt (transE kX kC 0 1 2))] <| Oq (u := nt (transE kX kC 0 1 2)) (v := nt 0) 21 (by rw [kn3]) <| On 3 [1, 3, 4] <| Oer <| On 8 [1, 28, 29] <| Ok (kl 20 #[(.tmp 29), (.const (nt 0))] #[22, 3]) 20 #[pt l5, nt 0] (some 30) (free_spec F36 l5 (transX kX kC 0 1 2) kC 0 _ ho37) ?_
 rintro _ w42 ⟨rfl, hk43⟩
 refine ⟨_, rfl, ?_⟩
 have hsz44 := Keep.size hk43
 replace hK0 := hK0.tn hk43
 replace ho37 := ho37.keep hk43 nk
 refine Op_ [(1, pt l5), (28, .bool true), (30, nt ((acct (transX kX kC 0 1 2) 0).free))] <| Oq (u := nt ((acct (transX kX kC 0 1 2) 0).free)) (v := nt 3) 30 (by rw [kn4]) <| On 13 [33, 34] <| Ok (kl 19 #[(.tmp 34)] #[22]) 19 #[pt l5] (some 35) (issued_spec F36 l5 (transX kX kC 0 1 2) kC _ ho37) ?_
 rintro _ w45 ⟨rfl, hk46⟩
 refine ⟨_, rfl, ?_⟩
 have hsz47 := Keep.size hk46
 replace hK0 := hK0.tn hk46
 exact Op_ [(33, .bool true), (35, nt (tot (transX kX kC 0 1 2)))] <| Oq (u := nt (tot (transX kX kC 0 1 2))) (v := nt 5) 35 (by rw [kn5]) <| Oen [0] <| Rr (.bool true) ⟨rfl, hK0⟩
end Go.Al
