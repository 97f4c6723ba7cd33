/-
  Walks of package ledger: what is told of accounts.
-/
import Derived.Test.YtmflbilhdoiihaaLe1
namespace Go.Al
open Go Go.RowKit Go.Proofs
/-! ### What is told of accounts -/
theorem acct_bnd {xs : List Acc} (h : Inv xs) (a : Int) : 0 ≤ (acct xs a).free ∧ 0 ≤ (acct xs a).held ∧ (acct xs a).free + (acct xs a).held ≤ 1073741824 := by
  by_cases ha : isA a = true
  · obtain ⟨j, x, rfl, hj, hx, he⟩ := isA_some h ha
    obtain ⟨h1, h2, h3, _⟩ := h.at_ hx
    rw [he]; exact ⟨h1, h2, h3⟩
  · rw [acct_out (by simpa [isA] using ha)]; exact ⟨Int.le_refl _, Int.le_refl _, by decide⟩
theorem tot_step {xs : List Acc} {i : Nat} {x : Acc} (h : Inv xs) (hx : xs[i]? = some x) : tot (xs.take (i + 1)) = tot (xs.take i) + (x.free + x.held) ∧ 0 ≤ tot (xs.take i) ∧ tot (xs.take i) + (x.free + x.held) ≤ 1073741824 := by
  obtain ⟨h1, rfl⟩ := List.getElem?_eq_some_iff.1 hx
  have happ : ∀ (a b : List Acc), tot (a ++ b) = tot a + tot b := by
    intro a b
    induction a with
    | nil => simp [tot]
    | cons y l ih => simp only [List.cons_append, tot, ih]; omega
  have e1 : tot (xs.take (i + 1)) = tot (xs.take i) + (xs[i].free + xs[i].held) := by
    rw [List.take_succ_eq_append_getElem h1, happ]; simp only [tot]; omega
  have e2 : tot xs = tot (xs.take (i + 1)) + tot (xs.drop (i + 1)) := by rw [← happ, List.take_append_drop]
  have h2 := (tot_mem (xs := xs.take i) (fun y hy => h.2.1 y (List.mem_of_mem_take hy))).1
  have h3 := (tot_mem (xs := xs.drop (i + 1)) (fun y hy => h.2.1 y (List.mem_of_mem_drop hy))).1
  have h4 := h.2.2
  exact ⟨e1, h2, by omega⟩
def lockM : List (Int × Int) → Int → Int
  | [], m => m
  | p :: l, m => lockM l (if p.2 > m then p.2 else m)
theorem lockM_app : ∀ (l : List (Int × Int)) (p : Int × Int) (m : Int), lockM (l ++ [p]) m = if p.2 > lockM l m then p.2 else lockM l m
  | [], p, m => rfl
  | q :: l, p, m => by simp only [List.cons_append, lockM]; exact lockM_app l p _
def lockedL (cs : List Ci) (a : Int) : Int := lockM (rowL a cs) 0
def spendsE (xs : List Acc) (cs : List Ci) (a n : Int) : Int :=
  if isA a = false ∨ ¬ (0 ≤ n ∧ n ≤ 1073741824) then 1 else if n > (acct xs a).free then 6 else if n > 0 ∧ (acct xs a).free - n < lockedL cs a then 7 else 0

theorem free_spec (F : Nat → Prop) (l : Nat) (xs : List Acc) (cs : List Ci) (a : Int) (w : World) (h : Led F w l xs cs) : Calls Try.prog 20 #[.pointer (some ⟨l, 0, none⟩), .int .i64 a] w fun e w' => e = .returned (.int .i64 (acct xs a).free) ∧ Keep none_ w w' := by
  have hFlt := Led.lt h
  have hllt := hFlt _ (Led.at_ h)
  have hinv := Led.inv h
  have hK0 : Keep none_ w w := Keep.refl _ _
  have hzhK0 := Keep.size hK0
  refine enterV Try.func20 rfl [.pointer (some ⟨l, 0, none⟩), .int .i64 a] 15 rfl rfl rfl ?_
  refine V_pick [(0, .pointer (some ⟨l, 0, none⟩)), (1, .int .i64 a)] rfl ?_
  refine V_seq ?_
  refine V_region ?_
  refine OI_static 1 [(0, .pointer (some ⟨l, 0, none⟩)), (1, .int .i64 a)] (by kernel_rfl) ?_
  refine OI_end rfl ?_
  refine X_then ?_
  refine V_seq ?_
  refine V_region ?_
  refine OI_static 2 [(8, .pointer (some ⟨l, 0, none⟩)), (9, .int .i64 a)] (by kernel_rfl) ?_
  refine OI_call { callee := (Callee.value (Operand.func 34)), args := #[(Operand.tmp 8), (Operand.tmp 9)], argTypes := #[22, 3] } 34 #[.pointer (some ⟨l, 0, none⟩), .int .i64 a] (some 10) (by kernel_rfl) (by kernel_rfl) (by kernel_rfl) (account_spec F l xs cs a _ h) ?_
  rintro _ w3 ⟨rfl, hk4⟩
  refine ⟨_, rfl, ?_⟩
  have hsz5 := Keep.size hk4
  replace h := Led.keep h hk4 (fun _ _ f => f)
  replace hK0 := Keep.tr hK0 (Keep.ofNone hk4); have hzhK0 := Keep.size hK0
  refine OI_static 6 [(11, .agg (Acc.cells (acct xs a)).toArray), (12, .bool (isA a))] (by kernel_rfl) ?_
  refine OI_alloc 68 (.agg #[.int .i64 0, .int .i64 0]) [.int .i64 0, .int .i64 0] (some 5) (by kernel_rfl) (by kernel_rfl) (by kernel_rfl) ?_
  intro b6 w6 e6 hb6 k6 z6
  have hsz7 := Keep.size k6
  replace h := Led.keep h k6 (fun _ _ f => f)
  replace hK0 := Keep.tr hK0 (Keep.ofNone k6); have hzhK0 := Keep.size hK0
  have hb6lt := hb6.lt
  refine OI_set (m := 2) (kd := true) 68 (.tmp 5) (.tmp 11) 0 (.agg (Acc.cells (acct xs a)).toArray) (Acc.cells (acct xs a)) none (by kernel_rfl) (by kernel_rfl) (by kernel_rfl) hb6 (by kernel_rfl) rfl (Acc.len _) (Nat.le_of_ble_eq_true (by kernel_rfl)) (Acc.one _) ?_
  intro w8 hb6_11 hk9 hz10
  replace hb6_11 : Blk w8 b6 (Acc.cells (acct xs a)) 68 := (by rwa [over_whole (by rw [Acc.len]; rfl)] at hb6_11)
  have hsz12 := Keep.size hk9
  replace h := Led.keep h hk9 (fun q hq hs => by have hs : q = b6 := hs; have g1 := hFlt q hq; omega)
  replace hK0 := Keep.fresh hK0 hk9 (by intro i hi hs; first | exact hs | exact Or.inl hs | exact Or.inr hs | (exfalso; have hs2 : i = b6 := hs; omega)); have hzhK0 := Keep.size hK0
  refine OI_static 9 [(5, .pointer (some ⟨b6, 0, none⟩))] (by kernel_rfl) ?_
  refine OI_end rfl ?_
  refine X_then ?_
  refine V_seq ?_
  refine V_region ?_
  refine OI_static 1 [(13, .pointer (some ⟨b6, 0, none⟩))] (by kernel_rfl) ?_
  refine OI_cell 3 (.tmp 13) 0 (.int .i64 ((acct xs a).free)) (some 14) (by kernel_rfl) (by kernel_rfl) hb6_11 (m := 1) (by kernel_rfl) rfl ?_
  refine OI_static 3 [(4, .int .i64 ((acct xs a).free))] (by kernel_rfl) ?_
  refine OI_end rfl ?_
  refine X_then ?_
  refine V_ret ?_
  exact X_return (.int .i64 ((acct xs a).free)) rfl ⟨rfl, hK0⟩

theorem free_nil (a : Int) (w : World) : Calls Try.prog 20 #[.pointer none, .int .i64 a] w fun e w' => e = .returned (.int .i64 0) ∧ Keep none_ w w' := by
  have hK0 : Keep none_ w w := Keep.refl _ _
  have hzhK0 := Keep.size hK0
  refine enterV Try.func20 rfl [.pointer none, .int .i64 a] 15 rfl rfl rfl ?_
  refine V_pick [(0, .pointer none), (1, .int .i64 a)] rfl ?_
  refine V_seq ?_
  refine V_region ?_
  refine OI_static 1 [(0, .pointer none), (1, .int .i64 a)] (by kernel_rfl) ?_
  refine OI_end rfl ?_
  refine X_then ?_
  refine V_seq ?_
  refine V_region ?_
  refine OI_static 2 [(8, .pointer none), (9, .int .i64 a)] (by kernel_rfl) ?_
  refine OI_call { callee := (Callee.value (Operand.func 34)), args := #[(Operand.tmp 8), (Operand.tmp 9)], argTypes := #[22, 3] } 34 #[.pointer none, .int .i64 a] (some 10) (by kernel_rfl) (by kernel_rfl) (by kernel_rfl) (account_nil a _) ?_
  rintro _ w3 ⟨rfl, hk4⟩
  refine ⟨_, rfl, ?_⟩
  have hsz5 := Keep.size hk4
  replace hK0 := Keep.tr hK0 (Keep.ofNone hk4); have hzhK0 := Keep.size hK0
  refine OI_static 6 [(11, .agg #[.int .i64 0, .int .i64 0]), (12, .bool false)] (by kernel_rfl) ?_
  refine OI_alloc 68 (.agg #[.int .i64 0, .int .i64 0]) [.int .i64 0, .int .i64 0] (some 5) (by kernel_rfl) (by kernel_rfl) (by kernel_rfl) ?_
  intro b6 w6 e6 hb6 k6 z6
  have hsz7 := Keep.size k6
  replace hK0 := Keep.tr hK0 (Keep.ofNone k6); have hzhK0 := Keep.size hK0
  have hb6lt := hb6.lt
  refine OI_set (m := 2) (kd := true) 68 (.tmp 5) (.tmp 11) 0 (.agg #[.int .i64 0, .int .i64 0]) [.int .i64 0, .int .i64 0] none (by kernel_rfl) (by kernel_rfl) (by kernel_rfl) hb6 (by kernel_rfl) (by kernel_rfl) (by kernel_rfl) (Nat.le_of_ble_eq_true (by kernel_rfl)) (by simp [Value.oneCell']) ?_
  intro w8 hb6_11 hk9 hz10
  replace hb6_11 : Blk w8 b6 [.int .i64 0, .int .i64 0] 68 := hb6_11
  have hsz12 := Keep.size hk9
  replace hK0 := Keep.fresh hK0 hk9 (by intro i hi hs; first | exact hs | exact Or.inl hs | exact Or.inr hs | (exfalso; have hs2 : i = b6 := hs; omega)); have hzhK0 := Keep.size hK0
  refine OI_static 9 [(5, .pointer (some ⟨b6, 0, none⟩))] (by kernel_rfl) ?_
  refine OI_end rfl ?_
  refine X_then ?_
  refine V_seq ?_
  refine V_region ?_
  refine OI_static 1 [(13, .pointer (some ⟨b6, 0, none⟩))] (by kernel_rfl) ?_
  refine OI_cell 3 (.tmp 13) 0 (.int .i64 0) (some 14) (by kernel_rfl) (by kernel_rfl) hb6_11 (m := 1) (by kernel_rfl) rfl ?_
  refine OI_static 3 [(4, .int .i64 0)] (by kernel_rfl) ?_
  refine OI_end rfl ?_
  refine X_then ?_
  refine V_ret ?_
  exact X_return (.int .i64 0) rfl ⟨rfl, hK0⟩

theorem held_spec (F : Nat → Prop) (l : Nat) (xs : List Acc) (cs : List Ci) (a : Int) (w : World) (h : Led F w l xs cs) : Calls Try.prog 22 #[.pointer (some ⟨l, 0, none⟩), .int .i64 a] w fun e w' => e = .returned (.int .i64 (acct xs a).held) ∧ Keep none_ w w' := by
  have hFlt := Led.lt h
  have hllt := hFlt _ (Led.at_ h)
  have hinv := Led.inv h
  have hK0 : Keep none_ w w := Keep.refl _ _
  have hzhK0 := Keep.size hK0
  refine enterV Try.func22 rfl [.pointer (some ⟨l, 0, none⟩), .int .i64 a] 15 rfl rfl rfl ?_
  refine V_pick [(0, .pointer (some ⟨l, 0, none⟩)), (1, .int .i64 a)] rfl ?_
  refine V_seq ?_
  refine V_region ?_
  refine OI_static 1 [(0, .pointer (some ⟨l, 0, none⟩)), (1, .int .i64 a)] (by kernel_rfl) ?_
  refine OI_end rfl ?_
  refine X_then ?_
  refine V_seq ?_
  refine V_region ?_
  refine OI_static 2 [(8, .pointer (some ⟨l, 0, none⟩)), (9, .int .i64 a)] (by kernel_rfl) ?_
  refine OI_call { callee := (Callee.value (Operand.func 34)), args := #[(Operand.tmp 8), (Operand.tmp 9)], argTypes := #[22, 3] } 34 #[.pointer (some ⟨l, 0, none⟩), .int .i64 a] (some 10) (by kernel_rfl) (by kernel_rfl) (by kernel_rfl) (account_spec F l xs cs a _ h) ?_
  rintro _ w3 ⟨rfl, hk4⟩
  refine ⟨_, rfl, ?_⟩
  have hsz5 := Keep.size hk4
  replace h := Led.keep h hk4 (fun _ _ f => f)
  replace hK0 := Keep.tr hK0 (Keep.ofNone hk4); have hzhK0 := Keep.size hK0
  refine OI_static 6 [(11, .agg (Acc.cells (acct xs a)).toArray), (12, .bool (isA a))] (by kernel_rfl) ?_
  refine OI_alloc 68 (.agg #[.int .i64 0, .int .i64 0]) [.int .i64 0, .int .i64 0] (some 5) (by kernel_rfl) (by kernel_rfl) (by kernel_rfl) ?_
  intro b6 w6 e6 hb6 k6 z6
  have hsz7 := Keep.size k6
  replace h := Led.keep h k6 (fun _ _ f => f)
  replace hK0 := Keep.tr hK0 (Keep.ofNone k6); have hzhK0 := Keep.size hK0
  have hb6lt := hb6.lt
  refine OI_set (m := 2) (kd := true) 68 (.tmp 5) (.tmp 11) 0 (.agg (Acc.cells (acct xs a)).toArray) (Acc.cells (acct xs a)) none (by kernel_rfl) (by kernel_rfl) (by kernel_rfl) hb6 (by kernel_rfl) rfl (Acc.len _) (Nat.le_of_ble_eq_true (by kernel_rfl)) (Acc.one _) ?_
  intro w8 hb6_11 hk9 hz10
  replace hb6_11 : Blk w8 b6 (Acc.cells (acct xs a)) 68 := (by rwa [over_whole (by rw [Acc.len]; rfl)] at hb6_11)
  have hsz12 := Keep.size hk9
  replace h := Led.keep h hk9 (fun q hq hs => by have hs : q = b6 := hs; have g1 := hFlt q hq; omega)
  replace hK0 := Keep.fresh hK0 hk9 (by intro i hi hs; first | exact hs | exact Or.inl hs | exact Or.inr hs | (exfalso; have hs2 : i = b6 := hs; omega)); have hzhK0 := Keep.size hK0
  refine OI_static 9 [(5, .pointer (some ⟨b6, 0, none⟩))] (by kernel_rfl) ?_
  refine OI_end rfl ?_
  refine X_then ?_
  refine V_seq ?_
  refine V_region ?_
  refine OI_static 1 [(13, .pointer (some ⟨b6, 1, none⟩))] (by kernel_rfl) ?_
  refine OI_cell 3 (.tmp 13) 1 (.int .i64 ((acct xs a).held)) (some 14) (by kernel_rfl) (by kernel_rfl) hb6_11 (m := 1) (by kernel_rfl) rfl ?_
  refine OI_static 3 [(4, .int .i64 ((acct xs a).held))] (by kernel_rfl) ?_
  refine OI_end rfl ?_
  refine X_then ?_
  refine V_ret ?_
  exact X_return (.int .i64 ((acct xs a).held)) rfl ⟨rfl, hK0⟩

theorem held_nil (a : Int) (w : World) : Calls Try.prog 22 #[.pointer none, .int .i64 a] w fun e w' => e = .returned (.int .i64 0) ∧ Keep none_ w w' := by
  have hK0 : Keep none_ w w := Keep.refl _ _
  have hzhK0 := Keep.size hK0
  refine enterV Try.func22 rfl [.pointer none, .int .i64 a] 15 rfl rfl rfl ?_
  refine V_pick [(0, .pointer none), (1, .int .i64 a)] rfl ?_
  refine V_seq ?_
  refine V_region ?_
  refine OI_static 1 [(0, .pointer none), (1, .int .i64 a)] (by kernel_rfl) ?_
  refine OI_end rfl ?_
  refine X_then ?_
  refine V_seq ?_
  refine V_region ?_
  refine OI_static 2 [(8, .pointer none), (9, .int .i64 a)] (by kernel_rfl) ?_
  refine OI_call { callee := (Callee.value (Operand.func 34)), args := #[(Operand.tmp 8), (Operand.tmp 9)], argTypes := #[22, 3] } 34 #[.pointer none, .int .i64 a] (some 10) (by kernel_rfl) (by kernel_rfl) (by kernel_rfl) (account_nil a _) ?_
  rintro _ w3 ⟨rfl, hk4⟩
  refine ⟨_, rfl, ?_⟩
  have hsz5 := Keep.size hk4
  replace hK0 := Keep.tr hK0 (Keep.ofNone hk4); have hzhK0 := Keep.size hK0
  refine OI_static 6 [(11, .agg #[.int .i64 0, .int .i64 0]), (12, .bool false)] (by kernel_rfl) ?_
  refine OI_alloc 68 (.agg #[.int .i64 0, .int .i64 0]) [.int .i64 0, .int .i64 0] (some 5) (by kernel_rfl) (by kernel_rfl) (by kernel_rfl) ?_
  intro b6 w6 e6 hb6 k6 z6
  have hsz7 := Keep.size k6
  replace hK0 := Keep.tr hK0 (Keep.ofNone k6); have hzhK0 := Keep.size hK0
  have hb6lt := hb6.lt
  refine OI_set (m := 2) (kd := true) 68 (.tmp 5) (.tmp 11) 0 (.agg #[.int .i64 0, .int .i64 0]) [.int .i64 0, .int .i64 0] none (by kernel_rfl) (by kernel_rfl) (by kernel_rfl) hb6 (by kernel_rfl) (by kernel_rfl) (by kernel_rfl) (Nat.le_of_ble_eq_true (by kernel_rfl)) (by simp [Value.oneCell']) ?_
  intro w8 hb6_11 hk9 hz10
  replace hb6_11 : Blk w8 b6 [.int .i64 0, .int .i64 0] 68 := hb6_11
  have hsz12 := Keep.size hk9
  replace hK0 := Keep.fresh hK0 hk9 (by intro i hi hs; first | exact hs | exact Or.inl hs | exact Or.inr hs | (exfalso; have hs2 : i = b6 := hs; omega)); have hzhK0 := Keep.size hK0
  refine OI_static 9 [(5, .pointer (some ⟨b6, 0, none⟩))] (by kernel_rfl) ?_
  refine OI_end rfl ?_
  refine X_then ?_
  refine V_seq ?_
  refine V_region ?_
  refine OI_static 1 [(13, .pointer (some ⟨b6, 1, none⟩))] (by kernel_rfl) ?_
  refine OI_cell 3 (.tmp 13) 1 (.int .i64 0) (some 14) (by kernel_rfl) (by kernel_rfl) hb6_11 (m := 1) (by kernel_rfl) rfl ?_
  refine OI_static 3 [(4, .int .i64 0)] (by kernel_rfl) ?_
  refine OI_end rfl ?_
  refine X_then ?_
  refine V_ret ?_
  exact X_return (.int .i64 0) rfl ⟨rfl, hK0⟩

theorem tot_step2 {xs : List Acc} {i : Nat} {x : Acc} (h : ∀ x ∈ xs, 0 ≤ x.free ∧ 0 ≤ x.held) (ht : tot xs ≤ 1125899906842624) (hx : xs[i]? = some x) : tot (xs.take (i + 1)) = tot (xs.take i) + (x.free + x.held) ∧ 0 ≤ tot (xs.take i) ∧ tot (xs.take i) + (x.free + x.held) ≤ 1125899906842624 ∧ 0 ≤ x.free ∧ 0 ≤ x.held := by
  obtain ⟨h1, rfl⟩ := List.getElem?_eq_some_iff.1 hx
  have happ : ∀ (a b : List Acc), tot (a ++ b) = tot a + tot b := by
    intro a b
    induction a with
    | nil => simp [tot]
    | cons y l ih => simp only [List.cons_append, tot, ih]; omega
  have e1 : tot (xs.take (i + 1)) = tot (xs.take i) + (xs[i].free + xs[i].held) := by
    rw [List.take_succ_eq_append_getElem h1, happ]; simp only [tot]; omega
  have e2 : tot xs = tot (xs.take (i + 1)) + tot (xs.drop (i + 1)) := by rw [← happ, List.take_append_drop]
  have h2 := (tot_mem (xs := xs.take i) (fun y hy => h y (List.mem_of_mem_take hy))).1
  have h3 := (tot_mem (xs := xs.drop (i + 1)) (fun y hy => h y (List.mem_of_mem_drop hy))).1
  have h4 := h xs[i] (List.getElem_mem h1)
  exact ⟨e1, h2, by omega, h4.1, h4.2⟩

theorem issued_at (l cap : Nat) (A : Option Addr) (gv : Value) (xs : List Acc) (w : World) (hl : Blk w l [.slice A xs.length cap, gv] 66) (hA : SlT w 2 Acc.cells A cap xs) (hnn : ∀ x ∈ xs, 0 ≤ x.free ∧ 0 ≤ x.held) (htt : tot xs ≤ 1125899906842624) (hx10 : xs.length ≤ 1000) : Calls Try.prog 19 #[.pointer (some ⟨l, 0, none⟩)] w fun e w' => e = .returned (.int .i64 (tot xs)) ∧ Keep none_ w w' := by
  have hllt := hl.lt
  have hAlt := SlT.lt hA
  have hK0 : Keep none_ w w := Keep.refl _ _
  have hzhK0 := Keep.size hK0
  refine enterV Try.func19 rfl [.pointer (some ⟨l, 0, none⟩)] 26 rfl rfl rfl ?_
  refine V_pick [(0, .pointer (some ⟨l, 0, none⟩))] rfl ?_
  refine V_seq ?_
  refine V_region ?_
  refine OI_static 1 [(0, .pointer (some ⟨l, 0, none⟩))] (by kernel_rfl) ?_
  refine OI_end rfl ?_
  refine X_then ?_
  refine V_seq ?_
  refine V_region ?_
  refine OI_static 1 [(0, .pointer (some ⟨l, 0, none⟩)), (3, .int .i64 0)] (by kernel_rfl) ?_
  refine OI_end rfl ?_
  refine X_then ?_
  refine V_seq ?_
  refine V_seq ?_
  refine V_region ?_
  refine OI_static 2 [(0, .pointer (some ⟨l, 0, none⟩)), (3, .int .i64 0), (7, .bool true)] (by kernel_rfl) ?_
  refine OI_end rfl ?_
  refine X_then ?_
  refine V_true rfl ?_
  refine V_seq ?_
  refine V_region ?_
  refine OI_static 3 [(3, .int .i64 0), (10, .pointer (some ⟨l, 0, none⟩))] (by kernel_rfl) ?_
  refine OI_cell 64 (.tmp 10) 0 (.slice A xs.length cap) (some 11) (by kernel_rfl) (by kernel_rfl) hl (m := 1) (by kernel_rfl) rfl ?_
  refine OI_static 6 [(3, .int .i64 0), (11, .slice A xs.length cap), (12, .int .i64 ((xs.length : Nat) : Int)), (13, .int .i64 0)] (by kernel_rfl) ?_
  refine OI_end rfl ?_
  refine X_then ?_
  refine V_block ?_
  refine V_pick [(3, .int .i64 0), (11, .slice A xs.length cap), (12, .int .i64 ((xs.length : Nat) : Int)), (13, .int .i64 0)] rfl ?_
  refine V_loop (fun k wI e => ∃ i : Nat, ∃ s : Int, (k + i = xs.length) ∧ (s = tot (xs.take i)) ∧ Keep none_ w wI ∧ e = [(3, .int .i64 s), (11, .slice A xs.length cap), (12, .int .i64 ((xs.length : Nat) : Int)), (13, .int .i64 ((i : Nat) : Int))]) xs.length ⟨0, 0, rfl, rfl, Keep.refl _ _, rfl⟩ ?_
  rintro k2 w1 _ ⟨i, s, hki, hs, hk3, rfl⟩
  have hsz4 := Keep.size hk3
  replace hl := hl.keep hk3 (fun f => f)
  have hllt := hl.lt
  replace hA := SlT.keep0 hA hk3
  replace hK0 := Keep.tr hK0 (Keep.ofNone hk3); have hzhK0 := Keep.size hK0
  have hzhk3 := Keep.size hk3
  refine V_seq ?_
  refine V_region ?_
  refine OI_static 1 [(3, .int .i64 s), (11, .slice A xs.length cap), (12, .int .i64 ((xs.length : Nat) : Int)), (13, .int .i64 ((i : Nat) : Int)), (14, .bool (decide (((i : Nat) : Int) < ((xs.length : Nat) : Int))))] (by kernel_rfl) ?_
  refine OI_end rfl ?_
  refine X_then ?_
  refine V_seq ?_
  refine V_if (((i : Nat) : Int) < ((xs.length : Nat) : Int)) (by kernel_rfl) (fun hc5 => ?_) (fun hc5 => ?_)
  · skip
    refine V_skip ?_
    refine X_then ?_
    refine V_seq ?_
    refine V_block ?_
    refine V_seq ?_
    refine V_region ?_
    obtain ⟨b6, o6, L6, T6, rfl, hat6⟩ := SlT.open_ hA (by first | omega | (simp only [List.length_map]; omega) | (simp; done) | (simp; omega))
    have hb6lt := hat6.blk.lt
    have hob7 := hAlt b6 ⟨_, rfl, rfl⟩
    refine OI_pure (some 15) (.indexAddr 64 (.tmp 11) (.tmp 13)) (by kernel_rfl) (pure_idxN (b := b6) (o := o6) (len := xs.length) (cap := cap) (kd := .i64) (j := i) (E := 68) (sz := 2) (by_ := 16) (by kernel_rfl) (by kernel_rfl) (by kernel_rfl) (by omega)) ?_
    obtain ⟨x8, hx9⟩ : ∃ x, xs[i]? = some x := ⟨_, List.getElem?_eq_getElem (by first | omega | (simp only [List.length_map]; omega))⟩
    obtain ⟨hst1, hst2, hst3, hbx1, hbx2⟩ := tot_step2 hnn htt hx9
    refine OI_agg 68 (.tmp 15) (o6 + i * 2) (Acc.cells x8) (some 16) (by kernel_rfl) (by kernel_rfl) hat6.blk (m := 2) (by kernel_rfl) (At.elem' hat6 (es_at hx9)) (At.len hat6 (es_at hx9)) ?_
    refine OI_alloc 68 (.agg #[.int .i64 0, .int .i64 0]) [.int .i64 0, .int .i64 0] (some 5) (by kernel_rfl) (by kernel_rfl) (by kernel_rfl) ?_
    intro b10 w10 e10 hb10 k10 z10
    have hsz11 := Keep.size k10
    replace hl := hl.keep k10 (fun f => f)
    have hllt := hl.lt
    replace hat6 := hat6.keep k10 (fun f => f)
    have hb6lt := hat6.blk.lt
    replace hK0 := Keep.tr hK0 (Keep.ofNone k10); have hzhK0 := Keep.size hK0
    replace hk3 := Keep.tr hk3 (Keep.ofNone k10); have hzhk3 := Keep.size hk3
    have hb10lt := hb10.lt
    refine OI_set (m := 2) (kd := true) 68 (.tmp 5) (.tmp 16) 0 (.agg (Acc.cells x8).toArray) (Acc.cells x8) none (by kernel_rfl) (by kernel_rfl) (by kernel_rfl) hb10 (by kernel_rfl) rfl (Acc.len _) (Nat.le_of_ble_eq_true (by kernel_rfl)) (Acc.one _) ?_
    intro w12 hb10_15 hk13 hz14
    replace hb10_15 : Blk w12 b10 (Acc.cells x8) 68 := (by rwa [over_whole (by rw [Acc.len]; rfl)] at hb10_15)
    have hsz16 := Keep.size hk13
    replace hl := hl.keep hk13 (by show ¬ (_ = _); omega)
    have hllt := hl.lt
    replace hat6 := hat6.keep hk13 (by show ¬ (_ = _); omega)
    have hb6lt := hat6.blk.lt
    replace hK0 := Keep.fresh hK0 hk13 (by intro i hi hs; first | exact hs | exact Or.inl hs | exact Or.inr hs | (exfalso; have hs2 : i = b10 := hs; omega)); have hzhK0 := Keep.size hK0
    replace hk3 := Keep.fresh hk3 hk13 (by intro i hi hs; first | exact hs | exact Or.inl hs | exact Or.inr hs | (exfalso; have hs2 : i = b10 := hs; omega)); have hzhk3 := Keep.size hk3
    refine OI_end rfl ?_
    refine X_then ?_
    refine V_region ?_
    refine OI_static 2 [(5, .pointer (some ⟨b10, 0, none⟩)), (11, .slice (some ⟨b6, o6, none⟩) xs.length cap), (12, .int .i64 ((xs.length : Nat) : Int)), (13, .int .i64 ((i : Nat) : Int)), (17, .int .i64 s), (18, .pointer (some ⟨b10, 0, none⟩))] (by kernel_rfl) ?_
    refine OI_cell 3 (.tmp 18) 0 (.int .i64 x8.free) (some 19) (by kernel_rfl) (by kernel_rfl) hb10_15 (m := 1) (by kernel_rfl) rfl ?_
    refine OI_static 4 [(11, .slice (some ⟨b6, o6, none⟩) xs.length cap), (12, .int .i64 ((xs.length : Nat) : Int)), (13, .int .i64 ((i : Nat) : Int)), (17, .int .i64 s), (19, .int .i64 x8.free), (20, .pointer (some ⟨b10, 1, none⟩))] (by kernel_rfl) ?_
    refine OI_cell 3 (.tmp 20) 1 (.int .i64 x8.held) (some 21) (by kernel_rfl) (by kernel_rfl) hb10_15 (m := 1) (by kernel_rfl) rfl ?_
    have hw17 : IntKind.i64.wrap (x8.free + x8.held) = x8.free + x8.held := (wrap64_id (by omega) (by omega)).trans (by omega)
    refine OI_static 6 [(11, .slice (some ⟨b6, o6, none⟩) xs.length cap), (12, .int .i64 ((xs.length : Nat) : Int)), (13, .int .i64 ((i : Nat) : Int)), (17, .int .i64 s), (22, .int .i64 (IntKind.i64.wrap (x8.free + x8.held)))] (by kernel_rfl) ?_
    refine OI_eq [(11, .slice (some ⟨b6, o6, none⟩) xs.length cap), (12, .int .i64 ((xs.length : Nat) : Int)), (13, .int .i64 ((i : Nat) : Int)), (17, .int .i64 s), (22, .int .i64 (x8.free + x8.held))] (by rw [hw17]) ?_
    have hw18 : IntKind.i64.wrap (s + (x8.free + x8.held)) = s + (x8.free + x8.held) := (wrap64_id (by omega) (by omega)).trans (by omega)
    refine OI_static 7 [(11, .slice (some ⟨b6, o6, none⟩) xs.length cap), (12, .int .i64 ((xs.length : Nat) : Int)), (13, .int .i64 ((i : Nat) : Int)), (23, .int .i64 (IntKind.i64.wrap (s + (x8.free + x8.held))))] (by kernel_rfl) ?_
    refine OI_eq [(11, .slice (some ⟨b6, o6, none⟩) xs.length cap), (12, .int .i64 ((xs.length : Nat) : Int)), (13, .int .i64 ((i : Nat) : Int)), (23, .int .i64 (s + (x8.free + x8.held)))] (by rw [hw18]) ?_
    refine OI_static 8 [(3, .int .i64 (s + (x8.free + x8.held))), (11, .slice (some ⟨b6, o6, none⟩) xs.length cap), (12, .int .i64 ((xs.length : Nat) : Int)), (13, .int .i64 ((i : Nat) : Int))] (by kernel_rfl) ?_
    refine OI_end rfl ?_
    refine X_block ?_
    refine X_then ?_
    refine V_region ?_
    have hw19 : IntKind.i64.wrap (((i : Nat) : Int) + 1) = ((i + 1 : Nat) : Int) := (wrap64_id (by omega) (by omega)).trans (by omega)
    refine OI_static 1 [(3, .int .i64 (s + (x8.free + x8.held))), (11, .slice (some ⟨b6, o6, none⟩) xs.length cap), (12, .int .i64 ((xs.length : Nat) : Int)), (24, .int .i64 (IntKind.i64.wrap (((i : Nat) : Int) + 1)))] (by kernel_rfl) ?_
    refine OI_eq [(3, .int .i64 (s + (x8.free + x8.held))), (11, .slice (some ⟨b6, o6, none⟩) xs.length cap), (12, .int .i64 ((xs.length : Nat) : Int)), (24, .int .i64 ((i + 1 : Nat) : Int))] (by rw [hw19]) ?_
    refine OI_static 2 [(3, .int .i64 (s + (x8.free + x8.held))), (11, .slice (some ⟨b6, o6, none⟩) xs.length cap), (12, .int .i64 ((xs.length : Nat) : Int)), (13, .int .i64 ((i + 1 : Nat) : Int))] (by kernel_rfl) ?_
    refine OI_end rfl ?_
    exact V_again (k2 - 1) (by omega) [(3, .int .i64 (s + (x8.free + x8.held))), (11, .slice (some ⟨b6, o6, none⟩) xs.length cap), (12, .int .i64 ((xs.length : Nat) : Int)), (13, .int .i64 ((i + 1 : Nat) : Int))] rfl ⟨i + 1, s + (x8.free + x8.held), by omega, by rw [hst1, hs], hk3, rfl⟩
  · skip
    refine V_exit ?_
    refine X_exit_then ?_
    refine X_exit_then ?_
    refine X_exit_here ?_
    refine X_then ?_
    refine V_seq ?_
    refine V_region ?_
    refine OI_static 2 [(2, .int .i64 s)] (by kernel_rfl) ?_
    refine OI_end rfl ?_
    refine X_then ?_
    refine V_ret ?_
    have he : i = xs.length := by omega
    rw [he, List.take_length] at hs
    exact X_return _ rfl ⟨by rw [hs], hK0⟩

theorem issued_spec (F : Nat → Prop) (l : Nat) (xs : List Acc) (cs : List Ci) (w : World) (h : Led F w l xs cs) : Calls Try.prog 19 #[.pointer (some ⟨l, 0, none⟩)] w fun e w' => e = .returned (.int .i64 (tot xs)) ∧ Keep none_ w w' := by
  obtain ⟨hinv, hFl, hFlt, g, A, cap, D, hat, _⟩ := h
  have h10 := hinv.1
  have ht := hinv.2.2
  exact issued_at l cap A _ xs w hat.blk hat.sl hinv.2.1 (by omega) (by omega)

theorem issued_nil (w : World) : Calls Try.prog 19 #[.pointer none] w fun e w' => e = .returned (.int .i64 0) ∧ Keep none_ w w' := by
  have hK0 : Keep none_ w w := Keep.refl _ _
  have hzhK0 := Keep.size hK0
  refine enterV Try.func19 rfl [.pointer none] 26 rfl rfl rfl ?_
  refine V_pick [(0, .pointer none)] rfl ?_
  refine V_seq ?_
  refine V_region ?_
  refine OI_static 1 [(0, .pointer none)] (by kernel_rfl) ?_
  refine OI_end rfl ?_
  refine X_then ?_
  refine V_seq ?_
  refine V_region ?_
  refine OI_static 1 [(0, .pointer none), (3, .int .i64 0)] (by kernel_rfl) ?_
  refine OI_end rfl ?_
  refine X_then ?_
  refine V_seq ?_
  refine V_seq ?_
  refine V_region ?_
  refine OI_static 2 [(0, .pointer none), (3, .int .i64 0), (7, .bool false)] (by kernel_rfl) ?_
  refine OI_end rfl ?_
  refine X_then ?_
  refine V_false rfl ?_
  refine V_skip ?_
  refine X_then ?_
  refine V_seq ?_
  refine V_region ?_
  refine OI_static 2 [(2, .int .i64 0)] (by kernel_rfl) ?_
  refine OI_end rfl ?_
  refine X_then ?_
  refine V_ret ?_
  exact X_return (.int .i64 0) rfl ⟨rfl, hK0⟩
end Go.Al
