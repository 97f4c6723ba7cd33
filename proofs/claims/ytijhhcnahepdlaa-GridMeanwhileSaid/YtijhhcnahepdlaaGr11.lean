/-
  Walks of the laws of grid: ways that are left.
-/
import Derived.Test.YtijhhcnahepdlaaGr10
namespace Go.Al
open Go Go.RowKit Go.Proofs
/-! ### Ways that are left -/
def stp : Nat → List Ci
  | 0 => []
  | i + 1 => setC (i : Int) 3 (i : Int) (setC 3 (i : Int) (i : Int) (stp i))
def diag (n : Nat) : List (Int × Int) := (List.range n).map fun k : Nat => ((k : Int), (k : Int))
theorem diag_len (n : Nat) : (diag n).length = n := by simp [diag]
theorem diag_at {n k : Nat} (h : k < n) : (diag n)[k]? = some ((k : Int), (k : Int)) := by simp [diag, h]
def stpOk : Bool := (List.range 61).all fun n => decide (rowL 3 (stp n) = diag n) && decide (colL 3 (stp n) = diag n) && decide ((stp n).length ≤ 200) && decide ((setC 3 (n : Int) (n : Int) (stp n)).length ≤ 200)
theorem stp_all : stpOk = true := by kernel_rfl
theorem stp_ok {n : Nat} (h : n ≤ 60) : rowL 3 (stp n) = diag n ∧ colL 3 (stp n) = diag n ∧ (stp n).length ≤ 200 ∧ (setC 3 (n : Int) (n : Int) (stp n)).length ≤ 200 := by
  have h1 := List.all_eq_true.1 stp_all n (List.mem_range.2 (by omega))
  simp only [Bool.and_eq_true, decide_eq_true_eq] at h1
  exact ⟨h1.1.1.1, h1.1.1.2, h1.1.2, h1.2⟩

set_option maxHeartbeats 2000000 in
theorem walk_GridStops (n stop : Nat) (w : World) : Calls Try.prog 3 #[.int .i64 (n : Int), .int .i64 (stop : Int)] w fun e w' => e = .returned (.bool true) ∧ Keep none_ w w' := by
  have hK0 : Keep none_ w w := Keep.refl _ _
  have hzhK0 := Keep.size hK0
  refine enterM Try.func3 rfl [.int .i64 ((n : Nat) : Int), .int .i64 ((stop : Nat) : Int)] 98 rfl rfl rfl ?_
  refine V_pick [(0, .int .i64 ((n : Nat) : Int)), (1, .int .i64 ((stop : Nat) : Int))] rfl ?_
  refine V_seq ?_
  refine V_region ?_
  refine OI_box 3 (.tmp 1) (.int .i64 ((stop : Nat) : Int)) [.int .i64 ((stop : Nat) : Int)] (some 3) (by kernel_rfl) (by kernel_rfl) (by kernel_rfl) ?_
  intro b1 w1 e1 hb1 k1 z1
  have hsz2 := Keep.size k1
  replace hK0 := Keep.tr hK0 (Keep.ofNone k1); have hzhK0 := Keep.size hK0
  have hb1lt := hb1.lt
  refine OI_alloc 4 (.bool false) [.bool false] (some 4) (by kernel_rfl) (by kernel_rfl) (by kernel_rfl) ?_
  intro b3 w3 e3 hb3 k3 z3
  have hsz4 := Keep.size k3
  replace hb1 := hb1.keep k3 (fun f => f)
  have hb1lt := hb1.lt
  replace hK0 := Keep.tr hK0 (Keep.ofNone k3); have hzhK0 := Keep.size hK0
  have hb3lt := hb3.lt
  refine OI_end rfl ?_
  refine X_then ?_
  refine V_seq ?_
  refine V_seq ?_
  refine V_region ?_
  refine OI_static 3 [(0, .int .i64 ((n : Nat) : Int)), (3, .pointer (some ⟨b1, 0, none⟩)), (4, .pointer (some ⟨b3, 0, none⟩)), (17, .bool (decide (((n : Nat) : Int) < 0)))] (by kernel_rfl) ?_
  refine OI_eq [(0, .int .i64 ((n : Nat) : Int)), (3, .pointer (some ⟨b1, 0, none⟩)), (4, .pointer (some ⟨b3, 0, none⟩)), (17, .bool false)] (by rw [decide_eq_false (by omega : ¬ ((n : Nat) : Int) < 0)]) ?_
  refine OI_static 7 [(0, .int .i64 ((n : Nat) : Int)), (3, .pointer (some ⟨b1, 0, none⟩)), (4, .pointer (some ⟨b3, 0, none⟩)), (21, .bool (decide (((n : Nat) : Int) > 60)))] (by kernel_rfl) ?_
  by_cases hg6 : ((n : Nat) : Int) > 60
  · skip
    refine OI_eq [(0, .int .i64 ((n : Nat) : Int)), (3, .pointer (some ⟨b1, 0, none⟩)), (4, .pointer (some ⟨b3, 0, none⟩)), (21, .bool true)] (by first | simp [hg6] | rfl) ?_
    refine OI_static 14 [(0, .int .i64 ((n : Nat) : Int)), (3, .pointer (some ⟨b1, 0, none⟩)), (4, .pointer (some ⟨b3, 0, none⟩)), (28, .bool true)] (by kernel_rfl) ?_
    refine OI_end rfl ?_
    refine X_then ?_
    refine V_true rfl ?_
    refine V_seq ?_
    refine V_region ?_
    refine OI_set (m := 1) (kd := false) 4 (.tmp 4) (.const (Value.bool true)) 0 (.bool true) [.bool true] none (by kernel_rfl) (by kernel_rfl) (by kernel_rfl) hb3 (by kernel_rfl) (by kernel_rfl) (by kernel_rfl) (Nat.le_of_ble_eq_true (by kernel_rfl)) (by simp [Value.oneCell']) ?_
    intro w7 hb3_10 hk8 hz9
    replace hb3_10 : Blk w7 b3 [.bool true] 4 := hb3_10
    have hsz11 := Keep.size hk8
    replace hb1 := hb1.keep hk8 (by show ¬ (_ = _); omega)
    have hb1lt := hb1.lt
    replace hK0 := Keep.fresh hK0 hk8 (by intro i hi hs; first | exact hs | exact Or.inl hs | exact Or.inr hs | (exfalso; have hs2 : i = b3 := hs; omega)); have hzhK0 := Keep.size hK0
    refine OI_end rfl ?_
    refine X_then ?_
    refine V_ret ?_
    refine X_ret_then ?_
    exact leave0 (.bool true) (.inl rfl) (res_cell1 (n1 := 1) rfl rfl (by kernel_rfl) hb3_10 ) (⟨rfl, hK0⟩)
  · skip
    refine OI_eq [(0, .int .i64 ((n : Nat) : Int)), (3, .pointer (some ⟨b1, 0, none⟩)), (4, .pointer (some ⟨b3, 0, none⟩)), (21, .bool false)] (by first | simp [hg6] | rfl) ?_
    refine OI_cell 3 (.tmp 3) 0 (.int .i64 ((stop : Nat) : Int)) (some 22) (by kernel_rfl) (by kernel_rfl) hb1 (m := 1) (by kernel_rfl) rfl ?_
    refine OI_static 11 [(0, .int .i64 ((n : Nat) : Int)), (3, .pointer (some ⟨b1, 0, none⟩)), (4, .pointer (some ⟨b3, 0, none⟩)), (25, .bool (decide (((stop : Nat) : Int) < 1)))] (by kernel_rfl) ?_
    by_cases hg12 : ((stop : Nat) : Int) < 1
    · skip
      refine OI_eq [(0, .int .i64 ((n : Nat) : Int)), (3, .pointer (some ⟨b1, 0, none⟩)), (4, .pointer (some ⟨b3, 0, none⟩)), (25, .bool true)] (by first | simp [hg12] | rfl) ?_
      refine OI_static 14 [(0, .int .i64 ((n : Nat) : Int)), (3, .pointer (some ⟨b1, 0, none⟩)), (4, .pointer (some ⟨b3, 0, none⟩)), (28, .bool true)] (by kernel_rfl) ?_
      refine OI_end rfl ?_
      refine X_then ?_
      refine V_true rfl ?_
      refine V_seq ?_
      refine V_region ?_
      refine OI_set (m := 1) (kd := false) 4 (.tmp 4) (.const (Value.bool true)) 0 (.bool true) [.bool true] none (by kernel_rfl) (by kernel_rfl) (by kernel_rfl) hb3 (by kernel_rfl) (by kernel_rfl) (by kernel_rfl) (Nat.le_of_ble_eq_true (by kernel_rfl)) (by simp [Value.oneCell']) ?_
      intro w13 hb3_16 hk14 hz15
      replace hb3_16 : Blk w13 b3 [.bool true] 4 := hb3_16
      have hsz17 := Keep.size hk14
      replace hb1 := hb1.keep hk14 (by show ¬ (_ = _); omega)
      have hb1lt := hb1.lt
      replace hK0 := Keep.fresh hK0 hk14 (by intro i hi hs; first | exact hs | exact Or.inl hs | exact Or.inr hs | (exfalso; have hs2 : i = b3 := hs; omega)); have hzhK0 := Keep.size hK0
      refine OI_end rfl ?_
      refine X_then ?_
      refine V_ret ?_
      refine X_ret_then ?_
      exact leave0 (.bool true) (.inl rfl) (res_cell1 (n1 := 1) rfl rfl (by kernel_rfl) hb3_16 ) (⟨rfl, hK0⟩)
    · skip
      refine OI_eq [(0, .int .i64 ((n : Nat) : Int)), (3, .pointer (some ⟨b1, 0, none⟩)), (4, .pointer (some ⟨b3, 0, none⟩)), (25, .bool false)] (by first | simp [hg12] | rfl) ?_
      refine OI_cell 3 (.tmp 3) 0 (.int .i64 ((stop : Nat) : Int)) (some 26) (by kernel_rfl) (by kernel_rfl) hb1 (m := 1) (by kernel_rfl) rfl ?_
      refine OI_static 14 [(0, .int .i64 ((n : Nat) : Int)), (3, .pointer (some ⟨b1, 0, none⟩)), (4, .pointer (some ⟨b3, 0, none⟩)), (28, .bool (decide (((stop : Nat) : Int) > 70)))] (by kernel_rfl) ?_
      refine OI_end rfl ?_
      refine X_then ?_
      refine V_if (((stop : Nat) : Int) > 70) (by kernel_rfl) (fun hc18 => ?_) (fun hc18 => ?_)
      · skip
        refine V_seq ?_
        refine V_region ?_
        refine OI_set (m := 1) (kd := false) 4 (.tmp 4) (.const (Value.bool true)) 0 (.bool true) [.bool true] none (by kernel_rfl) (by kernel_rfl) (by kernel_rfl) hb3 (by kernel_rfl) (by kernel_rfl) (by kernel_rfl) (Nat.le_of_ble_eq_true (by kernel_rfl)) (by simp [Value.oneCell']) ?_
        intro w19 hb3_22 hk20 hz21
        replace hb3_22 : Blk w19 b3 [.bool true] 4 := hb3_22
        have hsz23 := Keep.size hk20
        replace hb1 := hb1.keep hk20 (by show ¬ (_ = _); omega)
        have hb1lt := hb1.lt
        replace hK0 := Keep.fresh hK0 hk20 (by intro i hi hs; first | exact hs | exact Or.inl hs | exact Or.inr hs | (exfalso; have hs2 : i = b3 := hs; omega)); have hzhK0 := Keep.size hK0
        refine OI_end rfl ?_
        refine X_then ?_
        refine V_ret ?_
        refine X_ret_then ?_
        exact leave0 (.bool true) (.inl rfl) (res_cell1 (n1 := 1) rfl rfl (by kernel_rfl) hb3_22 ) (⟨rfl, hK0⟩)
      · skip
        refine V_skip ?_
        refine X_then ?_
        refine V_seq ?_
        refine V_region ?_
        refine OI_call { callee := (Callee.value (Operand.func 10)), args := #[], argTypes := #[] } 10 #[] (some 29) (by kernel_rfl) (by kernel_rfl) (by kernel_rfl) (new_grd _) ?_
        rintro _ w26 ⟨g28, F29, rfl, ho30, hk27, hge31⟩
        refine ⟨_, rfl, ?_⟩
        have hsz32 := Keep.size hk27
        replace hb1 := hb1.keep hk27 (fun f => f)
        have hb1lt := hb1.lt
        replace hb3 := hb3.keep hk27 (fun f => f)
        have hb3lt := hb3.lt
        replace hK0 := Keep.tr hK0 (Keep.ofNone hk27); have hzhK0 := Keep.size hK0
        have own33 : ∀ q, F29 q → w3.heap.size ≤ q ∧ q ≠ b1 ∧ q ≠ b3 := fun q hq => by have h1 := hge31 q hq; omega
        have lt34 := Grd.lt ho30
        have hg28lt : g28 < w26.heap.size := Grd.lt ho30 _ (Grd.at_ ho30)
        have hg28ge := hge31 _ (Grd.at_ ho30)
        refine OI_static 2 [(0, .int .i64 ((n : Nat) : Int)), (3, .pointer (some ⟨b1, 0, none⟩)), (4, .pointer (some ⟨b3, 0, none⟩)), (5, .pointer (some ⟨g28, 0, none⟩))] (by kernel_rfl) ?_
        refine OI_end rfl ?_
        refine X_then ?_
        refine V_seq ?_
        refine V_seq ?_
        refine V_region ?_
        refine OI_static 2 [(0, .int .i64 ((n : Nat) : Int)), (3, .pointer (some ⟨b1, 0, none⟩)), (4, .pointer (some ⟨b3, 0, none⟩)), (5, .pointer (some ⟨g28, 0, none⟩)), (31, .bool false)] (by kernel_rfl) ?_
        refine OI_end rfl ?_
        refine X_then ?_
        refine V_false rfl ?_
        refine V_skip ?_
        refine X_then ?_
        refine V_seq ?_
        refine V_seq ?_
        refine V_region ?_
        refine OI_static 1 [(0, .int .i64 ((n : Nat) : Int)), (3, .pointer (some ⟨b1, 0, none⟩)), (4, .pointer (some ⟨b3, 0, none⟩)), (5, .pointer (some ⟨g28, 0, none⟩)), (6, .int .i64 0)] (by kernel_rfl) ?_
        refine OI_end rfl ?_
        refine X_then ?_
        refine V_block ?_
        refine V_pick [(0, .int .i64 ((n : Nat) : Int)), (3, .pointer (some ⟨b1, 0, none⟩)), (4, .pointer (some ⟨b3, 0, none⟩)), (5, .pointer (some ⟨g28, 0, none⟩)), (6, .int .i64 0)] rfl ?_
        refine V_loop (fun k wI e => ∃ i : Nat, ∃ F35 : Nat → Prop, (k + i = n) ∧ (Grd F35 wI g28 (stp i)) ∧ (∀ q, F35 q → w3.heap.size ≤ q ∧ q ≠ b1 ∧ q ≠ b3) ∧ (∀ q, F35 q → F29 q ∨ w26.heap.size ≤ q) ∧ Keep F29 w26 wI ∧ e = [(0, .int .i64 ((n : Nat) : Int)), (3, .pointer (some ⟨b1, 0, none⟩)), (4, .pointer (some ⟨b3, 0, none⟩)), (5, .pointer (some ⟨g28, 0, none⟩)), (6, .int .i64 ((i : Nat) : Int))]) n ⟨0, F29, by omega, ho30, (fun q hq => by have h1 := own33 q hq; have h2 := lt34 q hq; omega), fun q h => .inl h, Keep.refl _ _, rfl⟩ ?_
        rintro k40 w39 _ ⟨i, F35, hki, ho36, own37, rel38, hk41, rfl⟩
        have hsz42 := Keep.size hk41
        replace hb1 := hb1.keep hk41 (fun hs => by have h1 := own33 _ hs; have h2 := lt34 _ hs; omega)
        have hb1lt := hb1.lt
        replace hb3 := hb3.keep hk41 (fun hs => by have h1 := own33 _ hs; have h2 := lt34 _ hs; omega)
        have hb3lt := hb3.lt
        replace hK0 := Keep.fresh hK0 hk41 (by intro i hi hs; have h1 := own33 i hs; have h2 := lt34 i hs; omega); have hzhK0 := Keep.size hK0
        have hzhk41 := Keep.size hk41
        have lt43 := Grd.lt ho36
        have hg28lt : g28 < w39.heap.size := Grd.lt ho36 _ (Grd.at_ ho36)
        have hst := stp_ok (n := i) (by omega)
        refine V_seq ?_
        refine V_seq ?_
        refine V_region ?_
        refine OI_static 3 [(0, .int .i64 ((n : Nat) : Int)), (3, .pointer (some ⟨b1, 0, none⟩)), (4, .pointer (some ⟨b3, 0, none⟩)), (5, .pointer (some ⟨g28, 0, none⟩)), (6, .int .i64 ((i : Nat) : Int)), (34, .bool (decide (((i : Nat) : Int) < ((n : Nat) : Int))))] (by kernel_rfl) ?_
        refine OI_end rfl ?_
        refine X_then ?_
        refine V_if (((i : Nat) : Int) < ((n : Nat) : Int)) (by kernel_rfl) (fun hc44 => ?_) (fun hc44 => ?_)
        · skip
          refine V_skip ?_
          refine X_then ?_
          refine V_seq ?_
          refine V_block ?_
          refine V_seq ?_
          refine V_region ?_
          refine OI_static 3 [(0, .int .i64 ((n : Nat) : Int)), (3, .pointer (some ⟨b1, 0, none⟩)), (4, .pointer (some ⟨b3, 0, none⟩)), (5, .pointer (some ⟨g28, 0, none⟩)), (6, .int .i64 ((i : Nat) : Int)), (37, .pointer (some ⟨g28, 0, none⟩)), (38, .int .i64 ((i : Nat) : Int)), (39, .int .i64 ((i : Nat) : Int))] (by kernel_rfl) ?_
          refine OI_call { callee := (Callee.value (Operand.func 11)), args := #[(Operand.tmp 37), (Operand.const (Value.int IntKind.i64 3)), (Operand.tmp 38), (Operand.tmp 39)], argTypes := #[22, 3, 3, 3] } 11 #[.pointer (some ⟨g28, 0, none⟩), .int .i64 3, .int .i64 ((i : Nat) : Int), .int .i64 ((i : Nat) : Int)] (some 40) (by kernel_rfl) (by kernel_rfl) (by kernel_rfl) (set_grd F35 g28 (stp i) 3 ((i : Nat) : Int) ((i : Nat) : Int) _ ho36 (by omega)) ?_
          rintro _ w47 ⟨rfl, ⟨F49, ho50, hfr51⟩, hk48⟩
          refine ⟨_, rfl, ?_⟩
          have hsz52 := Keep.size hk48
          replace hb1 := hb1.keep hk48 (fun hs => by have h1 := own37 _ hs; have h2 := lt43 _ hs; omega)
          have hb1lt := hb1.lt
          replace hb3 := hb3.keep hk48 (fun hs => by have h1 := own37 _ hs; have h2 := lt43 _ hs; omega)
          have hb3lt := hb3.lt
          replace hK0 := Keep.fresh hK0 hk48 (by intro i hi hs; first | exact hs | (exfalso; have h1 := own37 i hs; have h2 := lt43 i hs; omega) | (have h1 := own37 i hs; have h2 := lt43 i hs; show _ ∨ _; omega)); have hzhK0 := Keep.size hK0
          replace hk41 := Keep.fresh hk41 hk48 (fun i hi hs => by rcases rel38 i hs with h | h; exact h; (exfalso; omega)); have hzhk41 := Keep.size hk41
          have own54 : ∀ q, F49 q → w3.heap.size ≤ q ∧ q ≠ b1 ∧ q ≠ b3 := fun q hq => by rcases hfr51 q hq with h | h; (have h1 := own37 q h; have h2 := lt43 q h; omega); omega
          have lt53 := Grd.lt ho50
          have rel55 : ∀ q, F49 q → F29 q ∨ w26.heap.size ≤ q := fun q hq => by rcases hfr51 q hq with h | h; exact rel38 q h; exact .inr (by omega)
          refine OI_end rfl ?_
          refine X_then ?_
          refine V_region ?_
          refine OI_static 3 [(0, .int .i64 ((n : Nat) : Int)), (3, .pointer (some ⟨b1, 0, none⟩)), (4, .pointer (some ⟨b3, 0, none⟩)), (5, .pointer (some ⟨g28, 0, none⟩)), (6, .int .i64 ((i : Nat) : Int)), (41, .pointer (some ⟨g28, 0, none⟩)), (42, .int .i64 ((i : Nat) : Int)), (43, .int .i64 ((i : Nat) : Int))] (by kernel_rfl) ?_
          refine OI_call { callee := (Callee.value (Operand.func 11)), args := #[(Operand.tmp 41), (Operand.tmp 42), (Operand.const (Value.int IntKind.i64 3)), (Operand.tmp 43)], argTypes := #[22, 3, 3, 3] } 11 #[.pointer (some ⟨g28, 0, none⟩), .int .i64 ((i : Nat) : Int), .int .i64 3, .int .i64 ((i : Nat) : Int)] (some 44) (by kernel_rfl) (by kernel_rfl) (by kernel_rfl) (set_grd F49 g28 (setC 3 ((i : Nat) : Int) ((i : Nat) : Int) (stp i)) ((i : Nat) : Int) 3 ((i : Nat) : Int) _ ho50 (by omega)) ?_
          rintro _ w58 ⟨rfl, ⟨F60, ho61, hfr62⟩, hk59⟩
          refine ⟨_, rfl, ?_⟩
          have hsz63 := Keep.size hk59
          replace hb1 := hb1.keep hk59 (fun hs => by have h1 := own54 _ hs; have h2 := lt53 _ hs; omega)
          have hb1lt := hb1.lt
          replace hb3 := hb3.keep hk59 (fun hs => by have h1 := own54 _ hs; have h2 := lt53 _ hs; omega)
          have hb3lt := hb3.lt
          replace hK0 := Keep.fresh hK0 hk59 (by intro i hi hs; first | exact hs | (exfalso; have h1 := own54 i hs; have h2 := lt53 i hs; omega) | (have h1 := own54 i hs; have h2 := lt53 i hs; show _ ∨ _; omega)); have hzhK0 := Keep.size hK0
          replace hk41 := Keep.fresh hk41 hk59 (fun i hi hs => by rcases rel55 i hs with h | h; exact h; (exfalso; omega)); have hzhk41 := Keep.size hk41
          have own65 : ∀ q, F60 q → w3.heap.size ≤ q ∧ q ≠ b1 ∧ q ≠ b3 := fun q hq => by rcases hfr62 q hq with h | h; (have h1 := own54 q h; have h2 := lt53 q h; omega); omega
          have lt64 := Grd.lt ho61
          have rel66 : ∀ q, F60 q → F29 q ∨ w26.heap.size ≤ q := fun q hq => by rcases hfr62 q hq with h | h; exact rel55 q h; exact .inr (by omega)
          refine OI_end rfl ?_
          refine X_block ?_
          refine X_then ?_
          refine V_region ?_
          have hw67 : IntKind.i64.wrap (((i : Nat) : Int) + 1) = ((i + 1 : Nat) : Int) := (wrap64_id (by omega) (by omega)).trans (by omega)
          refine OI_static 2 [(0, .int .i64 ((n : Nat) : Int)), (3, .pointer (some ⟨b1, 0, none⟩)), (4, .pointer (some ⟨b3, 0, none⟩)), (5, .pointer (some ⟨g28, 0, none⟩)), (36, .int .i64 (IntKind.i64.wrap (((i : Nat) : Int) + 1)))] (by kernel_rfl) ?_
          refine OI_eq [(0, .int .i64 ((n : Nat) : Int)), (3, .pointer (some ⟨b1, 0, none⟩)), (4, .pointer (some ⟨b3, 0, none⟩)), (5, .pointer (some ⟨g28, 0, none⟩)), (36, .int .i64 ((i + 1 : Nat) : Int))] (by rw [hw67]) ?_
          refine OI_static 3 [(0, .int .i64 ((n : Nat) : Int)), (3, .pointer (some ⟨b1, 0, none⟩)), (4, .pointer (some ⟨b3, 0, none⟩)), (5, .pointer (some ⟨g28, 0, none⟩)), (6, .int .i64 ((i + 1 : Nat) : Int))] (by kernel_rfl) ?_
          refine OI_end rfl ?_
          exact V_again (k40 - 1) (by omega) [(0, .int .i64 ((n : Nat) : Int)), (3, .pointer (some ⟨b1, 0, none⟩)), (4, .pointer (some ⟨b3, 0, none⟩)), (5, .pointer (some ⟨g28, 0, none⟩)), (6, .int .i64 ((i + 1 : Nat) : Int))] rfl ⟨i + 1, F60, by omega, ho61, (fun q hq => by have h1 := own65 q hq; have h2 := lt64 q hq; omega), rel66, hk41, rfl⟩
        · skip
          refine V_exit ?_
          refine X_exit_then ?_
          refine X_exit_then ?_
          refine X_exit_here ?_
          refine X_then ?_
          refine V_seq ?_
          refine V_region ?_
          refine OI_static 1 [(0, .int .i64 ((n : Nat) : Int)), (3, .pointer (some ⟨b1, 0, none⟩)), (4, .pointer (some ⟨b3, 0, none⟩)), (5, .pointer (some ⟨g28, 0, none⟩)), (45, .pointer (some ⟨g28, 0, none⟩))] (by kernel_rfl) ?_
          refine OI_call { callee := (Callee.value (Operand.func 12)), args := #[(Operand.tmp 45), (Operand.const (Value.int IntKind.i64 3))], argTypes := #[22, 3] } 12 #[.pointer (some ⟨g28, 0, none⟩), .int .i64 3] (some 46) (by kernel_rfl) (by kernel_rfl) (by kernel_rfl) (row_spec _ rfl 3 _) ?_
          rintro _ w68 ⟨bg70, bs71, bn72, rfl, hbg70, hbs71, hbn72, hk69, hgebg70, hgebs71, hgebn72⟩
          refine ⟨_, rfl, ?_⟩
          have hsz73 := Keep.size hk69
          replace hb1 := hb1.keep hk69 (fun f => f)
          have hb1lt := hb1.lt
          replace hb3 := hb3.keep hk69 (fun f => f)
          have hb3lt := hb3.lt
          replace hK0 := Keep.tr hK0 (Keep.ofNone hk69); have hzhK0 := Keep.size hK0
          replace ho36 := Grd.keep ho36 hk69 (fun _ _ f => f)
          have hbg70lt := hbg70.lt
          have hbs71lt := hbs71.lt
          have hbn72lt := hbn72.lt
          refine OI_static 3 [(0, .int .i64 ((n : Nat) : Int)), (3, .pointer (some ⟨b1, 0, none⟩)), (4, .pointer (some ⟨b3, 0, none⟩)), (46, .func (.func 47) #[] #[.pointer (some ⟨bg70, 0, none⟩), .pointer (some ⟨bs71, 0, none⟩), .pointer (some ⟨bn72, 0, none⟩)]), (47, .pointer (some ⟨g28, 0, none⟩))] (by kernel_rfl) ?_
          refine OI_call { callee := (Callee.value (Operand.func 13)), args := #[(Operand.tmp 47), (Operand.const (Value.int IntKind.i64 3))], argTypes := #[22, 3] } 13 #[.pointer (some ⟨g28, 0, none⟩), .int .i64 3] (some 48) (by kernel_rfl) (by kernel_rfl) (by kernel_rfl) (column_spec _ rfl 3 _) ?_
          rintro _ w74 ⟨bg76, bs77, bn78, rfl, hbg76, hbs77, hbn78, hk75, hgebg76, hgebs77, hgebn78⟩
          refine ⟨_, rfl, ?_⟩
          have hsz79 := Keep.size hk75
          replace hb1 := hb1.keep hk75 (fun f => f)
          have hb1lt := hb1.lt
          replace hb3 := hb3.keep hk75 (fun f => f)
          have hb3lt := hb3.lt
          replace hbg70 := hbg70.keep hk75 (fun f => f)
          have hbg70lt := hbg70.lt
          replace hbs71 := hbs71.keep hk75 (fun f => f)
          have hbs71lt := hbs71.lt
          replace hbn72 := hbn72.keep hk75 (fun f => f)
          have hbn72lt := hbn72.lt
          replace hK0 := Keep.tr hK0 (Keep.ofNone hk75); have hzhK0 := Keep.size hK0
          replace ho36 := Grd.keep ho36 hk75 (fun _ _ f => f)
          have hbg76lt := hbg76.lt
          have hbs77lt := hbs77.lt
          have hbn78lt := hbn78.lt
          refine OI_static 6 [(0, .int .i64 ((n : Nat) : Int)), (3, .pointer (some ⟨b1, 0, none⟩)), (4, .pointer (some ⟨b3, 0, none⟩)), (7, .func (.func 47) #[] #[.pointer (some ⟨bg70, 0, none⟩), .pointer (some ⟨bs71, 0, none⟩), .pointer (some ⟨bn72, 0, none⟩)]), (8, .func (.func 47) #[] #[.pointer (some ⟨bg76, 0, none⟩), .pointer (some ⟨bs77, 0, none⟩), .pointer (some ⟨bn78, 0, none⟩)])] (by kernel_rfl) ?_
          refine OI_end rfl ?_
          refine X_then ?_
          refine V_seq ?_
          refine V_seq ?_
          refine V_region ?_
          refine OI_static 6 [(0, .int .i64 ((n : Nat) : Int)), (3, .pointer (some ⟨b1, 0, none⟩)), (4, .pointer (some ⟨b3, 0, none⟩)), (7, .func (.func 47) #[] #[.pointer (some ⟨bg70, 0, none⟩), .pointer (some ⟨bs71, 0, none⟩), .pointer (some ⟨bn72, 0, none⟩)]), (8, .func (.func 47) #[] #[.pointer (some ⟨bg76, 0, none⟩), .pointer (some ⟨bs77, 0, none⟩), .pointer (some ⟨bn78, 0, none⟩)]), (54, .bool false)] (by kernel_rfl) ?_
          refine OI_end rfl ?_
          refine X_then ?_
          refine V_false rfl ?_
          refine V_skip ?_
          refine X_then ?_
          refine V_seq ?_
          refine V_region ?_
          refine OI_alloc 3 (.int .i64 0) [.int .i64 0] (some 9) (by kernel_rfl) (by kernel_rfl) (by kernel_rfl) ?_
          intro b80 w80 e80 hb80 k80 z80
          have hsz81 := Keep.size k80
          replace hb1 := hb1.keep k80 (fun f => f)
          have hb1lt := hb1.lt
          replace hb3 := hb3.keep k80 (fun f => f)
          have hb3lt := hb3.lt
          replace hbg70 := hbg70.keep k80 (fun f => f)
          have hbg70lt := hbg70.lt
          replace hbs71 := hbs71.keep k80 (fun f => f)
          have hbs71lt := hbs71.lt
          replace hbn72 := hbn72.keep k80 (fun f => f)
          have hbn72lt := hbn72.lt
          replace hbg76 := hbg76.keep k80 (fun f => f)
          have hbg76lt := hbg76.lt
          replace hbs77 := hbs77.keep k80 (fun f => f)
          have hbs77lt := hbs77.lt
          replace hbn78 := hbn78.keep k80 (fun f => f)
          have hbn78lt := hbn78.lt
          replace hK0 := Keep.tr hK0 (Keep.ofNone k80); have hzhK0 := Keep.size hK0
          replace ho36 := Grd.keep ho36 k80 (fun _ _ f => f)
          have hb80lt := hb80.lt
          refine OI_alloc 3 (.int .i64 0) [.int .i64 0] (some 10) (by kernel_rfl) (by kernel_rfl) (by kernel_rfl) ?_
          intro b82 w82 e82 hb82 k82 z82
          have hsz83 := Keep.size k82
          replace hb1 := hb1.keep k82 (fun f => f)
          have hb1lt := hb1.lt
          replace hb3 := hb3.keep k82 (fun f => f)
          have hb3lt := hb3.lt
          replace hbg70 := hbg70.keep k82 (fun f => f)
          have hbg70lt := hbg70.lt
          replace hbs71 := hbs71.keep k82 (fun f => f)
          have hbs71lt := hbs71.lt
          replace hbn72 := hbn72.keep k82 (fun f => f)
          have hbn72lt := hbn72.lt
          replace hbg76 := hbg76.keep k82 (fun f => f)
          have hbg76lt := hbg76.lt
          replace hbs77 := hbs77.keep k82 (fun f => f)
          have hbs77lt := hbs77.lt
          replace hbn78 := hbn78.keep k82 (fun f => f)
          have hbn78lt := hbn78.lt
          replace hb80 := hb80.keep k82 (fun f => f)
          have hb80lt := hb80.lt
          replace hK0 := Keep.tr hK0 (Keep.ofNone k82); have hzhK0 := Keep.size hK0
          replace ho36 := Grd.keep ho36 k82 (fun _ _ f => f)
          have hb82lt := hb82.lt
          refine OI_set (m := 1) (kd := false) 3 (.tmp 9) (.const (Value.int IntKind.i64 0)) 0 (.int .i64 0) [.int .i64 0] none (by kernel_rfl) (by kernel_rfl) (by kernel_rfl) hb80 (by kernel_rfl) (by kernel_rfl) (by kernel_rfl) (Nat.le_of_ble_eq_true (by kernel_rfl)) (by simp [Value.oneCell']) ?_
          intro w84 hb80_87 hk85 hz86
          replace hb80_87 : Blk w84 b80 [.int .i64 0] 3 := hb80_87
          have hsz88 := Keep.size hk85
          replace hb1 := hb1.keep hk85 (by show ¬ (_ = _); omega)
          have hb1lt := hb1.lt
          replace hb3 := hb3.keep hk85 (by show ¬ (_ = _); omega)
          have hb3lt := hb3.lt
          replace hbg70 := hbg70.keep hk85 (by show ¬ (_ = _); omega)
          have hbg70lt := hbg70.lt
          replace hbs71 := hbs71.keep hk85 (by show ¬ (_ = _); omega)
          have hbs71lt := hbs71.lt
          replace hbn72 := hbn72.keep hk85 (by show ¬ (_ = _); omega)
          have hbn72lt := hbn72.lt
          replace hbg76 := hbg76.keep hk85 (by show ¬ (_ = _); omega)
          have hbg76lt := hbg76.lt
          replace hbs77 := hbs77.keep hk85 (by show ¬ (_ = _); omega)
          have hbs77lt := hbs77.lt
          replace hbn78 := hbn78.keep hk85 (by show ¬ (_ = _); omega)
          have hbn78lt := hbn78.lt
          replace hb82 := hb82.keep hk85 (by show ¬ (_ = _); omega)
          have hb82lt := hb82.lt
          replace hK0 := Keep.fresh hK0 hk85 (by intro i hi hs; first | exact hs | exact Or.inl hs | exact Or.inr hs | (exfalso; have hs2 : i = b80 := hs; omega)); have hzhK0 := Keep.size hK0
          replace ho36 := Grd.keep ho36 hk85 (fun q hq hs => by have hs : q = b80 := hs; have g0 := own37 q hq; have g1 := lt43 q hq; omega)
          refine OI_set (m := 1) (kd := false) 3 (.tmp 10) (.const (Value.int IntKind.i64 0)) 0 (.int .i64 0) [.int .i64 0] none (by kernel_rfl) (by kernel_rfl) (by kernel_rfl) hb82 (by kernel_rfl) (by kernel_rfl) (by kernel_rfl) (Nat.le_of_ble_eq_true (by kernel_rfl)) (by simp [Value.oneCell']) ?_
          intro w89 hb82_92 hk90 hz91
          replace hb82_92 : Blk w89 b82 [.int .i64 0] 3 := hb82_92
          have hsz93 := Keep.size hk90
          replace hb1 := hb1.keep hk90 (by show ¬ (_ = _); omega)
          have hb1lt := hb1.lt
          replace hb3 := hb3.keep hk90 (by show ¬ (_ = _); omega)
          have hb3lt := hb3.lt
          replace hbg70 := hbg70.keep hk90 (by show ¬ (_ = _); omega)
          have hbg70lt := hbg70.lt
          replace hbs71 := hbs71.keep hk90 (by show ¬ (_ = _); omega)
          have hbs71lt := hbs71.lt
          replace hbn72 := hbn72.keep hk90 (by show ¬ (_ = _); omega)
          have hbn72lt := hbn72.lt
          replace hbg76 := hbg76.keep hk90 (by show ¬ (_ = _); omega)
          have hbg76lt := hbg76.lt
          replace hbs77 := hbs77.keep hk90 (by show ¬ (_ = _); omega)
          have hbs77lt := hbs77.lt
          replace hbn78 := hbn78.keep hk90 (by show ¬ (_ = _); omega)
          have hbn78lt := hbn78.lt
          replace hb80_87 := hb80_87.keep hk90 (by show ¬ (_ = _); omega)
          have hb80lt := hb80_87.lt
          replace hK0 := Keep.fresh hK0 hk90 (by intro i hi hs; first | exact hs | exact Or.inl hs | exact Or.inr hs | (exfalso; have hs2 : i = b82 := hs; omega)); have hzhK0 := Keep.size hK0
          replace ho36 := Grd.keep ho36 hk90 (fun q hq hs => by have hs : q = b82 := hs; have g0 := own37 q hq; have g1 := lt43 q hq; omega)
          refine OI_end rfl ?_
          refine X_then ?_
          refine V_seq ?_
          refine V_seq ?_
          refine V_region ?_
          refine OI_static 1 [(0, .int .i64 ((n : Nat) : Int)), (3, .pointer (some ⟨b1, 0, none⟩)), (4, .pointer (some ⟨b3, 0, none⟩)), (8, .func (.func 47) #[] #[.pointer (some ⟨bg76, 0, none⟩), .pointer (some ⟨bs77, 0, none⟩), .pointer (some ⟨bn78, 0, none⟩)]), (9, .pointer (some ⟨b80, 0, none⟩)), (10, .pointer (some ⟨b82, 0, none⟩)), (55, .func (.func 47) #[] #[.pointer (some ⟨bg70, 0, none⟩), .pointer (some ⟨bs71, 0, none⟩), .pointer (some ⟨bn72, 0, none⟩)])] (by kernel_rfl) ?_
          refine OI_end rfl ?_
          refine X_then ?_
          refine V_block ?_
          have hin : i = n := by omega
          rw [hin] at ho36
          obtain ⟨hrow, hcol, hl200, _⟩ := stp_ok (n := n) (by omega)
          obtain ⟨hs94, hlen94, hFg94, hFlt94, A94, cap94, hat94, hAF94⟩ := ho36
          have hg94 := hat94.blk
          have hA94 := hat94.sl
          have hoff94 := hat94.off
          have ltA94 := SlT.lt hA94
          have owA94 : ∀ q, inA A94 q → w3.heap.size ≤ q ∧ q ≠ b1 ∧ q ≠ b3 ∧ q ≠ bg70 ∧ q ≠ bs71 ∧ q ≠ bn72 ∧ q ≠ bg76 ∧ q ≠ bs77 ∧ q ≠ bn78 ∧ q ≠ b80 ∧ q ≠ b82 := fun q hq => by have h1 := own37 q (hAF94 q hq); have h2 := lt43 q (hAF94 q hq); omega
          have hg28lt := hg94.lt
          have hdl := diag_len n
          have hXl0 : (rowL 3 (stp n)).length = n := by rw [hrow]; exact hdl
          refine V_pick [(0, .int .i64 ((n : Nat) : Int)), (3, .pointer (some ⟨b1, 0, none⟩)), (4, .pointer (some ⟨b3, 0, none⟩)), (8, .func (.func 47) #[] #[.pointer (some ⟨bg76, 0, none⟩), .pointer (some ⟨bs77, 0, none⟩), .pointer (some ⟨bn78, 0, none⟩)]), (9, .pointer (some ⟨b80, 0, none⟩)), (10, .pointer (some ⟨b82, 0, none⟩)), (55, .func (.func 47) #[] #[.pointer (some ⟨bg70, 0, none⟩), .pointer (some ⟨bs71, 0, none⟩), .pointer (some ⟨bn72, 0, none⟩)])] rfl ?_
          have hN0 : w.heap.size ≤ w89.heap.size := hzhK0
          refine V_range2 (gf := 47) (caps := #[.pointer (some ⟨bg70, 0, none⟩), .pointer (some ⟨bs71, 0, none⟩), .pointer (some ⟨bn72, 0, none⟩)]) (m := (rowL 3 (stp n)).length) (by kernel_rfl) (by kernel_rfl) (by kernel_rfl) (along1_iter0 bg70 bs71 bn72 g28 cap94 A94 (stp n) 3 (by omega)) (⟨hbg70, ⟨hg94, hA94, hoff94⟩, ⟨hbs71, hbn72, hA94⟩⟩) (fun W W' h k => ⟨h.1.quiet k, h.2.1.quiet k, h.2.2.quiet k⟩) (enc2_size _) (fun M1 k W => (Blk W b1 [.int .i64 ((stop : Nat) : Int)] 3) ∧ (Blk W b3 [.bool false] 4) ∧ (Blk W bg70 [.pointer (some ⟨g28, 0, none⟩)] 22) ∧ (Blk W bs71 [.int .i64 0] 3) ∧ (Blk W bn72 [.int .i64 3] 3) ∧ (Blk W bg76 [.pointer (some ⟨g28, 0, none⟩)] 22) ∧ (Blk W bs77 [.int .i64 1] 3) ∧ (Blk W bn78 [.int .i64 3] 3) ∧ (Blk W b82 [.int .i64 0] 3) ∧ (Blk W g28 [.slice A94 ((stp n).length) cap94] 66) ∧ (SlT W 3 Ci.cells A94 cap94 (stp n)) ∧ (Keep none_ w W) ∧ (Blk W b80 [.int .i64 ((k : Nat) : Int)] 3) ∧ (k < stop)) (fun M1 c k W => (c = .exit 2 ∧ (Blk W b1 [.int .i64 ((stop : Nat) : Int)] 3) ∧ (Blk W b3 [.bool false] 4) ∧ (Blk W bg70 [.pointer (some ⟨g28, 0, none⟩)] 22) ∧ (Blk W bs71 [.int .i64 0] 3) ∧ (Blk W bn72 [.int .i64 3] 3) ∧ (Blk W bg76 [.pointer (some ⟨g28, 0, none⟩)] 22) ∧ (Blk W bs77 [.int .i64 1] 3) ∧ (Blk W bn78 [.int .i64 3] 3) ∧ (Blk W b82 [.int .i64 0] 3) ∧ (Blk W g28 [.slice A94 ((stp n).length) cap94] 66) ∧ (SlT W 3 Ci.cells A94 cap94 (stp n)) ∧ (Keep none_ w W) ∧ (Blk W b80 [.int .i64 ((k : Nat) : Int)] 3) ∧ (k = stop))) (fun M1 k W W' h hk => by obtain ⟨jb1, jb3, jbg70, jbs71, jbn72, jbg76, jbs77, jbn78, jb82, jg28, jA94, jhK0, jb80, hks⟩ := h; exact ⟨jb1.quiet hk, jb3.quiet hk, jbg70.quiet hk, jbs71.quiet hk, jbn72.quiet hk, jbg76.quiet hk, jbs77.quiet hk, jbn78.quiet hk, jb82.quiet hk, jg28.quiet hk, jA94.quiet hk, jhK0.quiet hk (by omega), jb80.quiet hk, hks⟩) (fun M1 c k W W' h hk => by obtain ⟨hc, jb1, jb3, jbg70, jbs71, jbn72, jbg76, jbs77, jbn78, jb82, jg28, jA94, jhK0, jb80, hke⟩ := h; exact ⟨hc, jb1.quiet hk, jb3.quiet hk, jbg70.quiet hk, jbs71.quiet hk, jbn72.quiet hk, jbg76.quiet hk, jbs77.quiet hk, jbn78.quiet hk, jb82.quiet hk, jg28.quiet hk, jA94.quiet hk, jhK0.quiet hk (by omega), jb80.quiet hk, hke⟩) (fun M1 hM1 => ⟨hb1, hb3, hbg70, hbs71, hbn72, hbg76, hbs77, hbn78, hb82_92, hg94, hA94, hK0, hb80_87, by omega⟩) (fun M1 k W h => by obtain ⟨jb1, jb3, jbg70, jbs71, jbn72, jbg76, jbs77, jbn78, jb82, jg28, jA94, jhK0, jb80, hks⟩ := h; exact ⟨jbs71, jbn72, jA94⟩) ?_ ?_ ?_
          · skip
            intro lp D M1 k W hD hl hM hMW hkm ⟨jb1, jb3, jbg70, jbs71, jbn72, jbg76, jbs77, jbn78, jb82, jg28, jA94, jhK0, jb80, hks⟩ ⟨rr, hrr⟩ hDD
            have hzjhK0 := Keep.size jhK0
            have hb1lt := jb1.lt
            have hb3lt := jb3.lt
            have hbg70lt := jbg70.lt
            have hbs71lt := jbs71.lt
            have hbn72lt := jbn72.lt
            have hbg76lt := jbg76.lt
            have hbs77lt := jbs77.lt
            have hbn78lt := jbn78.lt
            have hb80lt := jb80.lt
            have hb82lt := jb82.lt
            have hg28lt := jg28.lt
            have ltjA94 := SlT.lt jA94
            replace hkm : k < n := by omega
            rw [hrow, enc2_at (diag_at hkm)]
            refine V_pick [(3, .pointer (some ⟨b1, 0, none⟩)), (4, .pointer (some ⟨b3, 0, none⟩)), (9, .pointer (some ⟨b80, 0, none⟩)), (56, .int .i64 ((k : Nat) : Int)), (57, .int .i64 ((k : Nat) : Int))] rfl ?_
            have hfen : Keep (fen w89.heap.size M1) W W := Keep.refl _ _
            have hzhfen := Keep.size hfen
            refine V_seq ?_
            refine V_region ?_
            refine OI_static 1 [(3, .pointer (some ⟨b1, 0, none⟩)), (4, .pointer (some ⟨b3, 0, none⟩)), (9, .pointer (some ⟨b80, 0, none⟩)), (11, .int .i64 ((k : Nat) : Int)), (57, .int .i64 ((k : Nat) : Int))] (by kernel_rfl) ?_
            refine OI_end rfl ?_
            refine X_then ?_
            refine V_region ?_
            refine OI_static 1 [(3, .pointer (some ⟨b1, 0, none⟩)), (4, .pointer (some ⟨b3, 0, none⟩)), (9, .pointer (some ⟨b80, 0, none⟩)), (11, .int .i64 ((k : Nat) : Int)), (12, .int .i64 ((k : Nat) : Int))] (by kernel_rfl) ?_
            refine OI_end rfl ?_
            refine X_begin2 hfen ?_
            intro W2 hk2 ⟨r2, hr2⟩ hD2
            have hsz95 := Keep.size hk2
            replace jb1 := Blk.quiet jb1 hk2
            have hb1lt := jb1.lt
            replace jb3 := Blk.quiet jb3 hk2
            have hb3lt := jb3.lt
            replace jbg70 := Blk.quiet jbg70 hk2
            have hbg70lt := jbg70.lt
            replace jbs71 := Blk.quiet jbs71 hk2
            have hbs71lt := jbs71.lt
            replace jbn72 := Blk.quiet jbn72 hk2
            have hbn72lt := jbn72.lt
            replace jbg76 := Blk.quiet jbg76 hk2
            have hbg76lt := jbg76.lt
            replace jbs77 := Blk.quiet jbs77 hk2
            have hbs77lt := jbs77.lt
            replace jbn78 := Blk.quiet jbn78 hk2
            have hbn78lt := jbn78.lt
            replace jb80 := Blk.quiet jb80 hk2
            have hb80lt := jb80.lt
            replace jb82 := Blk.quiet jb82 hk2
            have hb82lt := jb82.lt
            replace jg28 := Blk.quiet jg28 hk2
            have hg28lt := jg28.lt
            replace jA94 := SlT.quiet jA94 hk2
            replace jhK0 := Keep.quiet jhK0 hk2 (by omega); have hzjhK0 := Keep.size jhK0
            have hzhk2 := Keep.size hk2
            have hfenb : Keep (fen w89.heap.size M1) W2 W2 := Keep.refl _ _
            have hzhfenb := Keep.size hfenb
            refine V_block ?_
            refine V_seq ?_
            refine V_seq ?_
            refine V_region ?_
            refine OI_static 1 [(3, .pointer (some ⟨b1, 0, none⟩)), (4, .pointer (some ⟨b3, 0, none⟩)), (9, .pointer (some ⟨b80, 0, none⟩)), (12, .int .i64 ((k : Nat) : Int)), (58, .int .i64 ((k : Nat) : Int))] (by kernel_rfl) ?_
            refine OI_cell 3 (.tmp 9) 0 (.int .i64 ((k : Nat) : Int)) (some 59) (by kernel_rfl) (by kernel_rfl) jb80 (m := 1) (by kernel_rfl) rfl ?_
            refine OI_static 4 [(3, .pointer (some ⟨b1, 0, none⟩)), (4, .pointer (some ⟨b3, 0, none⟩)), (9, .pointer (some ⟨b80, 0, none⟩)), (12, .int .i64 ((k : Nat) : Int)), (61, .bool (!(decide (((k : Nat) : Int) = ((k : Nat) : Int)))))] (by kernel_rfl) ?_
            refine OI_eq [(3, .pointer (some ⟨b1, 0, none⟩)), (4, .pointer (some ⟨b3, 0, none⟩)), (9, .pointer (some ⟨b80, 0, none⟩)), (12, .int .i64 ((k : Nat) : Int)), (61, .bool false)] (by rw [decide_eq_true (rfl : ((k : Nat) : Int) = ((k : Nat) : Int))]; rfl) ?_
            refine OI_static 7 [(3, .pointer (some ⟨b1, 0, none⟩)), (4, .pointer (some ⟨b3, 0, none⟩)), (9, .pointer (some ⟨b80, 0, none⟩)), (64, .bool (decide (((k : Nat) : Int) < 0)))] (by kernel_rfl) ?_
            refine OI_end rfl ?_
            refine X_then ?_
            refine V_eq [(3, .pointer (some ⟨b1, 0, none⟩)), (4, .pointer (some ⟨b3, 0, none⟩)), (9, .pointer (some ⟨b80, 0, none⟩)), (64, .bool false)] (by rw [decide_eq_false (by omega : ¬ ((k : Nat) : Int) < 0)]) ?_
            refine V_false rfl ?_
            refine V_skip ?_
            refine X_then ?_
            refine V_seq ?_
            refine V_region ?_
            refine OI_cell 3 (.tmp 9) 0 (.int .i64 ((k : Nat) : Int)) (some 65) (by kernel_rfl) (by kernel_rfl) jb80 (m := 1) (by kernel_rfl) rfl ?_
            have hw98 : IntKind.i64.wrap (((k : Nat) : Int) + 1) = ((k + 1 : Nat) : Int) := (wrap64_id (by omega) (by omega)).trans (by omega)
            refine OI_static 2 [(3, .pointer (some ⟨b1, 0, none⟩)), (9, .pointer (some ⟨b80, 0, none⟩)), (66, .int .i64 (IntKind.i64.wrap (((k : Nat) : Int) + 1)))] (by kernel_rfl) ?_
            refine OI_eq [(3, .pointer (some ⟨b1, 0, none⟩)), (9, .pointer (some ⟨b80, 0, none⟩)), (66, .int .i64 ((k + 1 : Nat) : Int))] (by rw [hw98]) ?_
            refine OI_set (m := 1) (kd := false) 3 (.tmp 9) (.tmp 66) 0 (.int .i64 ((k + 1 : Nat) : Int)) [.int .i64 ((k + 1 : Nat) : Int)] none (by kernel_rfl) (by kernel_rfl) (by kernel_rfl) jb80 (by kernel_rfl) (by kernel_rfl) (by kernel_rfl) (Nat.le_of_ble_eq_true (by kernel_rfl)) (by simp [Value.oneCell']) ?_
            intro w99 hb80_102 hk100 hz101
            replace hb80_102 : Blk w99 b80 [.int .i64 ((k + 1 : Nat) : Int)] 3 := hb80_102
            have hsz103 := Keep.size hk100
            replace jb1 := jb1.keep hk100 (by show ¬ (_ = _); omega)
            have hb1lt := jb1.lt
            replace jb3 := jb3.keep hk100 (by show ¬ (_ = _); omega)
            have hb3lt := jb3.lt
            replace jbg70 := jbg70.keep hk100 (by show ¬ (_ = _); omega)
            have hbg70lt := jbg70.lt
            replace jbs71 := jbs71.keep hk100 (by show ¬ (_ = _); omega)
            have hbs71lt := jbs71.lt
            replace jbn72 := jbn72.keep hk100 (by show ¬ (_ = _); omega)
            have hbn72lt := jbn72.lt
            replace jbg76 := jbg76.keep hk100 (by show ¬ (_ = _); omega)
            have hbg76lt := jbg76.lt
            replace jbs77 := jbs77.keep hk100 (by show ¬ (_ = _); omega)
            have hbs77lt := jbs77.lt
            replace jbn78 := jbn78.keep hk100 (by show ¬ (_ = _); omega)
            have hbn78lt := jbn78.lt
            replace jb82 := jb82.keep hk100 (by show ¬ (_ = _); omega)
            have hb82lt := jb82.lt
            replace jg28 := jg28.keep hk100 (by show ¬ (_ = _); omega)
            have hg28lt := jg28.lt
            replace jA94 := SlT.keep jA94 hk100 (fun q hq hs => by have hs : q = b80 := hs; have g0 := owA94 q hq; have g1 := ltjA94 q hq; omega)
            replace jhK0 := Keep.fresh jhK0 hk100 (by intro i hi hs; first | exact hs | exact Or.inl hs | exact Or.inr hs | (exfalso; have hs2 : i = b80 := hs; omega)); have hzjhK0 := Keep.size jhK0
            replace hfenb := Keep.fresh hfenb hk100 (by intro i hi hs; have hs2 : i = b80 := hs; show _ ∨ _; omega); have hzhfenb := Keep.size hfenb
            refine OI_end rfl ?_
            refine X_then ?_
            refine V_seq ?_
            refine V_region ?_
            refine OI_cell 3 (.tmp 9) 0 (.int .i64 ((k + 1 : Nat) : Int)) (some 67) (by kernel_rfl) (by kernel_rfl) hb80_102 (m := 1) (by kernel_rfl) rfl ?_
            refine OI_cell 3 (.tmp 3) 0 (.int .i64 ((stop : Nat) : Int)) (some 68) (by kernel_rfl) (by kernel_rfl) jb1 (m := 1) (by kernel_rfl) rfl ?_
            refine OI_static 3 [(69, .bool (decide (((k + 1 : Nat) : Int) ≥ ((stop : Nat) : Int))))] (by kernel_rfl) ?_
            refine OI_end rfl ?_
            refine X_then ?_
            refine V_if (((k + 1 : Nat) : Int) ≥ ((stop : Nat) : Int)) (by kernel_rfl) (fun hc104 => ?_) (fun hc104 => ?_)
            · skip
              refine V_exit ?_
              refine X_exit_out (by decide) ?_
              exact fun a _ => ⟨hfenb, ⟨rfl, jb1, jb3, jbg70, jbs71, jbn72, jbg76, jbs77, jbn78, jb82, jg28, jA94, jhK0, hb80_102, by omega⟩⟩
            · skip
              refine V_skip ?_
              refine X_block ?_
              exact fun a _ => ⟨hfenb, jb1, jb3, jbg70, jbs71, jbn72, jbg76, jbs77, jbn78, jb82, jg28, jA94, jhK0, hb80_102, by omega⟩
          · skip
            intro D M1 W hD hM ⟨jb1, jb3, jbg70, jbs71, jbn72, jbg76, jbs77, jbn78, jb82, jg28, jA94, jhK0, jb80, hks⟩ hDD
            have hzjhK0 := Keep.size jhK0
            have hb1lt := jb1.lt
            have hb3lt := jb3.lt
            have hbg70lt := jbg70.lt
            have hbs71lt := jbs71.lt
            have hbn72lt := jbn72.lt
            have hbg76lt := jbg76.lt
            have hbs77lt := jbs77.lt
            have hbn78lt := jbn78.lt
            have hb80lt := jb80.lt
            have hb82lt := jb82.lt
            have hg28lt := jg28.lt
            have ltjA94 := SlT.lt jA94
            refine X_block ?_
            refine X_then ?_
            refine V_seq ?_
            refine V_seq ?_
            refine V_region ?_
            refine OI_static 1 [(0, .int .i64 ((n : Nat) : Int)), (3, .pointer (some ⟨b1, 0, none⟩)), (4, .pointer (some ⟨b3, 0, none⟩)), (9, .pointer (some ⟨b80, 0, none⟩)), (10, .pointer (some ⟨b82, 0, none⟩)), (70, .func (.func 47) #[] #[.pointer (some ⟨bg76, 0, none⟩), .pointer (some ⟨bs77, 0, none⟩), .pointer (some ⟨bn78, 0, none⟩)])] (by kernel_rfl) ?_
            refine OI_end rfl ?_
            refine X_then ?_
            refine V_block ?_
            have hXl1 : (colL 3 (stp n)).length = n := by rw [hcol]; exact hdl
            refine V_pick [(0, .int .i64 ((n : Nat) : Int)), (3, .pointer (some ⟨b1, 0, none⟩)), (4, .pointer (some ⟨b3, 0, none⟩)), (9, .pointer (some ⟨b80, 0, none⟩)), (10, .pointer (some ⟨b82, 0, none⟩)), (70, .func (.func 47) #[] #[.pointer (some ⟨bg76, 0, none⟩), .pointer (some ⟨bs77, 0, none⟩), .pointer (some ⟨bn78, 0, none⟩)])] rfl ?_
            have hlthDD := (Array.getElem?_eq_some_iff.1 hDD).1
            have hN01 : w.heap.size ≤ W.heap.size := hzjhK0
            refine V_range2 (gf := 47) (caps := #[.pointer (some ⟨bg76, 0, none⟩), .pointer (some ⟨bs77, 0, none⟩), .pointer (some ⟨bn78, 0, none⟩)]) (m := (colL 3 (stp n)).length) (by kernel_rfl) (by kernel_rfl) (by kernel_rfl) (along1_iter1 bg76 bs77 bn78 g28 cap94 A94 (stp n) 3 (by omega)) (⟨jbg76, ⟨jg28, jA94, hoff94⟩, ⟨jbs77, jbn78, jA94⟩⟩) (fun W W' h k => ⟨h.1.quiet k, h.2.1.quiet k, h.2.2.quiet k⟩) (enc2_size _) (fun M11 k1 W1 => (Blk W1 b1 [.int .i64 ((stop : Nat) : Int)] 3) ∧ (Blk W1 b3 [.bool false] 4) ∧ (Blk W1 bg70 [.pointer (some ⟨g28, 0, none⟩)] 22) ∧ (Blk W1 bs71 [.int .i64 0] 3) ∧ (Blk W1 bn72 [.int .i64 3] 3) ∧ (Blk W1 bg76 [.pointer (some ⟨g28, 0, none⟩)] 22) ∧ (Blk W1 bs77 [.int .i64 1] 3) ∧ (Blk W1 bn78 [.int .i64 3] 3) ∧ (Blk W1 b80 [.int .i64 (((rowL 3 (stp n)).length : Nat) : Int)] 3) ∧ (Blk W1 g28 [.slice A94 ((stp n).length) cap94] 66) ∧ (SlT W1 3 Ci.cells A94 cap94 (stp n)) ∧ (Keep none_ w W1) ∧ (W1.heap[D]? = some (.deferred (some []))) ∧ (Blk W1 b82 [.int .i64 ((k1 : Nat) : Int)] 3) ∧ (k1 < stop)) (fun M11 c k1 W1 => (c = .exit 4 ∧ (Blk W1 b1 [.int .i64 ((stop : Nat) : Int)] 3) ∧ (Blk W1 b3 [.bool false] 4) ∧ (Blk W1 bg70 [.pointer (some ⟨g28, 0, none⟩)] 22) ∧ (Blk W1 bs71 [.int .i64 0] 3) ∧ (Blk W1 bn72 [.int .i64 3] 3) ∧ (Blk W1 bg76 [.pointer (some ⟨g28, 0, none⟩)] 22) ∧ (Blk W1 bs77 [.int .i64 1] 3) ∧ (Blk W1 bn78 [.int .i64 3] 3) ∧ (Blk W1 b80 [.int .i64 (((rowL 3 (stp n)).length : Nat) : Int)] 3) ∧ (Blk W1 g28 [.slice A94 ((stp n).length) cap94] 66) ∧ (SlT W1 3 Ci.cells A94 cap94 (stp n)) ∧ (Keep none_ w W1) ∧ (W1.heap[D]? = some (.deferred (some []))) ∧ (Blk W1 b82 [.int .i64 ((k1 : Nat) : Int)] 3) ∧ (k1 = stop))) (fun M11 k1 W W' h hk => by obtain ⟨jb1, jb3, jbg70, jbs71, jbn72, jbg76, jbs77, jbn78, jb80, jg28, jA94, jjhK0, jhDD, jb82, hks⟩ := h; exact ⟨jb1.quiet hk, jb3.quiet hk, jbg70.quiet hk, jbs71.quiet hk, jbn72.quiet hk, jbg76.quiet hk, jbs77.quiet hk, jbn78.quiet hk, jb80.quiet hk, jg28.quiet hk, jA94.quiet hk, jjhK0.quiet hk (by omega), ((Keep.block hk _ (Array.getElem?_eq_some_iff.1 jhDD).1 (fun hs => absurd hs.1 (by omega))).trans jhDD), jb82.quiet hk, hks⟩) (fun M11 c k1 W W' h hk => by obtain ⟨hc, jb1, jb3, jbg70, jbs71, jbn72, jbg76, jbs77, jbn78, jb80, jg28, jA94, jjhK0, jhDD, jb82, hke⟩ := h; exact ⟨hc, jb1.quiet hk, jb3.quiet hk, jbg70.quiet hk, jbs71.quiet hk, jbn72.quiet hk, jbg76.quiet hk, jbs77.quiet hk, jbn78.quiet hk, jb80.quiet hk, jg28.quiet hk, jA94.quiet hk, jjhK0.quiet hk (by omega), ((Keep.block hk _ (Array.getElem?_eq_some_iff.1 jhDD).1 (fun hs => absurd hs.1 (by omega))).trans jhDD), jb82.quiet hk, hke⟩) (fun M11 hM1 => ⟨jb1, jb3, jbg70, jbs71, jbn72, jbg76, jbs77, jbn78, jb80, jg28, jA94, jhK0, hDD, jb82, by omega⟩) (fun M11 k1 W1 h => by obtain ⟨jb1, jb3, jbg70, jbs71, jbn72, jbg76, jbs77, jbn78, jb80, jg28, jA94, jjhK0, jhDD, jb82, hks⟩ := h; exact ⟨jbs77, jbn78, jA94⟩) ?_ ?_ ?_
            · skip
              intro lp1 D1 M11 k1 W1 hD1 hl1 hM1 hMW1 hkm ⟨jb1, jb3, jbg70, jbs71, jbn72, jbg76, jbs77, jbn78, jb80, jg28, jA94, jjhK0, jhDD, jb82, hks⟩ ⟨rr1, hrr1⟩ hDD1
              have hzjjhK0 := Keep.size jjhK0
              have hb1lt := jb1.lt
              have hb3lt := jb3.lt
              have hbg70lt := jbg70.lt
              have hbs71lt := jbs71.lt
              have hbn72lt := jbn72.lt
              have hbg76lt := jbg76.lt
              have hbs77lt := jbs77.lt
              have hbn78lt := jbn78.lt
              have hb80lt := jb80.lt
              have hb82lt := jb82.lt
              have hg28lt := jg28.lt
              have ltjA94 := SlT.lt jA94
              replace hkm : k1 < n := by omega
              rw [hcol, enc2_at (diag_at hkm)]
              refine V_pick [(3, .pointer (some ⟨b1, 0, none⟩)), (4, .pointer (some ⟨b3, 0, none⟩)), (10, .pointer (some ⟨b82, 0, none⟩)), (71, .int .i64 ((k1 : Nat) : Int)), (72, .int .i64 ((k1 : Nat) : Int))] rfl ?_
              have hfen1 : Keep (fen W.heap.size M11) W1 W1 := Keep.refl _ _
              have hzhfen1 := Keep.size hfen1
              refine V_seq ?_
              refine V_region ?_
              refine OI_static 1 [(3, .pointer (some ⟨b1, 0, none⟩)), (4, .pointer (some ⟨b3, 0, none⟩)), (10, .pointer (some ⟨b82, 0, none⟩)), (13, .int .i64 ((k1 : Nat) : Int)), (72, .int .i64 ((k1 : Nat) : Int))] (by kernel_rfl) ?_
              refine OI_end rfl ?_
              refine X_then ?_
              refine V_region ?_
              refine OI_static 1 [(3, .pointer (some ⟨b1, 0, none⟩)), (4, .pointer (some ⟨b3, 0, none⟩)), (10, .pointer (some ⟨b82, 0, none⟩)), (13, .int .i64 ((k1 : Nat) : Int)), (14, .int .i64 ((k1 : Nat) : Int))] (by kernel_rfl) ?_
              refine OI_end rfl ?_
              refine X_begin2 hfen1 ?_
              intro W21 hk21 ⟨r21, hr21⟩ hD21
              have hsz105 := Keep.size hk21
              replace jb1 := Blk.quiet jb1 hk21
              have hb1lt := jb1.lt
              replace jb3 := Blk.quiet jb3 hk21
              have hb3lt := jb3.lt
              replace jbg70 := Blk.quiet jbg70 hk21
              have hbg70lt := jbg70.lt
              replace jbs71 := Blk.quiet jbs71 hk21
              have hbs71lt := jbs71.lt
              replace jbn72 := Blk.quiet jbn72 hk21
              have hbn72lt := jbn72.lt
              replace jbg76 := Blk.quiet jbg76 hk21
              have hbg76lt := jbg76.lt
              replace jbs77 := Blk.quiet jbs77 hk21
              have hbs77lt := jbs77.lt
              replace jbn78 := Blk.quiet jbn78 hk21
              have hbn78lt := jbn78.lt
              replace jb80 := Blk.quiet jb80 hk21
              have hb80lt := jb80.lt
              replace jb82 := Blk.quiet jb82 hk21
              have hb82lt := jb82.lt
              replace jg28 := Blk.quiet jg28 hk21
              have hg28lt := jg28.lt
              replace jA94 := SlT.quiet jA94 hk21
              replace jjhK0 := Keep.quiet jjhK0 hk21 (by omega); have hzjjhK0 := Keep.size jjhK0
              replace jhDD := (Keep.block hk21 _ (Array.getElem?_eq_some_iff.1 jhDD).1 (fun hs => absurd hs.1 (by omega))).trans jhDD
              have hzhk21 := Keep.size hk21
              have hfen1b : Keep (fen W.heap.size M11) W21 W21 := Keep.refl _ _
              have hzhfen1b := Keep.size hfen1b
              refine V_block ?_
              refine V_seq ?_
              refine V_seq ?_
              refine V_region ?_
              refine OI_static 1 [(3, .pointer (some ⟨b1, 0, none⟩)), (4, .pointer (some ⟨b3, 0, none⟩)), (10, .pointer (some ⟨b82, 0, none⟩)), (14, .int .i64 ((k1 : Nat) : Int)), (73, .int .i64 ((k1 : Nat) : Int))] (by kernel_rfl) ?_
              refine OI_cell 3 (.tmp 10) 0 (.int .i64 ((k1 : Nat) : Int)) (some 74) (by kernel_rfl) (by kernel_rfl) jb82 (m := 1) (by kernel_rfl) rfl ?_
              refine OI_static 4 [(3, .pointer (some ⟨b1, 0, none⟩)), (4, .pointer (some ⟨b3, 0, none⟩)), (10, .pointer (some ⟨b82, 0, none⟩)), (14, .int .i64 ((k1 : Nat) : Int)), (76, .bool (!(decide (((k1 : Nat) : Int) = ((k1 : Nat) : Int)))))] (by kernel_rfl) ?_
              refine OI_eq [(3, .pointer (some ⟨b1, 0, none⟩)), (4, .pointer (some ⟨b3, 0, none⟩)), (10, .pointer (some ⟨b82, 0, none⟩)), (14, .int .i64 ((k1 : Nat) : Int)), (76, .bool false)] (by rw [decide_eq_true (rfl : ((k1 : Nat) : Int) = ((k1 : Nat) : Int))]; rfl) ?_
              refine OI_static 7 [(3, .pointer (some ⟨b1, 0, none⟩)), (4, .pointer (some ⟨b3, 0, none⟩)), (10, .pointer (some ⟨b82, 0, none⟩)), (79, .bool (decide (((k1 : Nat) : Int) < 0)))] (by kernel_rfl) ?_
              refine OI_end rfl ?_
              refine X_then ?_
              refine V_eq [(3, .pointer (some ⟨b1, 0, none⟩)), (4, .pointer (some ⟨b3, 0, none⟩)), (10, .pointer (some ⟨b82, 0, none⟩)), (79, .bool false)] (by rw [decide_eq_false (by omega : ¬ ((k1 : Nat) : Int) < 0)]) ?_
              refine V_false rfl ?_
              refine V_skip ?_
              refine X_then ?_
              refine V_seq ?_
              refine V_region ?_
              refine OI_cell 3 (.tmp 10) 0 (.int .i64 ((k1 : Nat) : Int)) (some 80) (by kernel_rfl) (by kernel_rfl) jb82 (m := 1) (by kernel_rfl) rfl ?_
              have hw108 : IntKind.i64.wrap (((k1 : Nat) : Int) + 1) = ((k1 + 1 : Nat) : Int) := (wrap64_id (by omega) (by omega)).trans (by omega)
              refine OI_static 2 [(3, .pointer (some ⟨b1, 0, none⟩)), (10, .pointer (some ⟨b82, 0, none⟩)), (81, .int .i64 (IntKind.i64.wrap (((k1 : Nat) : Int) + 1)))] (by kernel_rfl) ?_
              refine OI_eq [(3, .pointer (some ⟨b1, 0, none⟩)), (10, .pointer (some ⟨b82, 0, none⟩)), (81, .int .i64 ((k1 + 1 : Nat) : Int))] (by rw [hw108]) ?_
              refine OI_set (m := 1) (kd := false) 3 (.tmp 10) (.tmp 81) 0 (.int .i64 ((k1 + 1 : Nat) : Int)) [.int .i64 ((k1 + 1 : Nat) : Int)] none (by kernel_rfl) (by kernel_rfl) (by kernel_rfl) jb82 (by kernel_rfl) (by kernel_rfl) (by kernel_rfl) (Nat.le_of_ble_eq_true (by kernel_rfl)) (by simp [Value.oneCell']) ?_
              intro w109 hb82_112 hk110 hz111
              replace hb82_112 : Blk w109 b82 [.int .i64 ((k1 + 1 : Nat) : Int)] 3 := hb82_112
              have hsz113 := Keep.size hk110
              replace jb1 := jb1.keep hk110 (by show ¬ (_ = _); omega)
              have hb1lt := jb1.lt
              replace jb3 := jb3.keep hk110 (by show ¬ (_ = _); omega)
              have hb3lt := jb3.lt
              replace jbg70 := jbg70.keep hk110 (by show ¬ (_ = _); omega)
              have hbg70lt := jbg70.lt
              replace jbs71 := jbs71.keep hk110 (by show ¬ (_ = _); omega)
              have hbs71lt := jbs71.lt
              replace jbn72 := jbn72.keep hk110 (by show ¬ (_ = _); omega)
              have hbn72lt := jbn72.lt
              replace jbg76 := jbg76.keep hk110 (by show ¬ (_ = _); omega)
              have hbg76lt := jbg76.lt
              replace jbs77 := jbs77.keep hk110 (by show ¬ (_ = _); omega)
              have hbs77lt := jbs77.lt
              replace jbn78 := jbn78.keep hk110 (by show ¬ (_ = _); omega)
              have hbn78lt := jbn78.lt
              replace jb80 := jb80.keep hk110 (by show ¬ (_ = _); omega)
              have hb80lt := jb80.lt
              replace jg28 := jg28.keep hk110 (by show ¬ (_ = _); omega)
              have hg28lt := jg28.lt
              replace jA94 := SlT.keep jA94 hk110 (fun q hq hs => by have hs : q = b82 := hs; have g0 := owA94 q hq; have g1 := ltjA94 q hq; omega)
              replace jjhK0 := Keep.fresh jjhK0 hk110 (by intro i hi hs; first | exact hs | exact Or.inl hs | exact Or.inr hs | (exfalso; have hs2 : i = b82 := hs; omega)); have hzjjhK0 := Keep.size jjhK0
              replace jhDD := (Keep.block hk110 _ (Array.getElem?_eq_some_iff.1 jhDD).1 (by show ¬ (_ = _); omega)).trans jhDD
              replace hfen1b := Keep.fresh hfen1b hk110 (by intro i hi hs; have hs2 : i = b82 := hs; show _ ∨ _; omega); have hzhfen1b := Keep.size hfen1b
              refine OI_end rfl ?_
              refine X_then ?_
              refine V_seq ?_
              refine V_region ?_
              refine OI_cell 3 (.tmp 10) 0 (.int .i64 ((k1 + 1 : Nat) : Int)) (some 82) (by kernel_rfl) (by kernel_rfl) hb82_112 (m := 1) (by kernel_rfl) rfl ?_
              refine OI_cell 3 (.tmp 3) 0 (.int .i64 ((stop : Nat) : Int)) (some 83) (by kernel_rfl) (by kernel_rfl) jb1 (m := 1) (by kernel_rfl) rfl ?_
              refine OI_static 3 [(84, .bool (decide (((k1 + 1 : Nat) : Int) ≥ ((stop : Nat) : Int))))] (by kernel_rfl) ?_
              refine OI_end rfl ?_
              refine X_then ?_
              refine V_if (((k1 + 1 : Nat) : Int) ≥ ((stop : Nat) : Int)) (by kernel_rfl) (fun hc114 => ?_) (fun hc114 => ?_)
              · skip
                refine V_exit ?_
                refine X_exit_out (by decide) ?_
                exact fun a _ => ⟨hfen1b, ⟨rfl, jb1, jb3, jbg70, jbs71, jbn72, jbg76, jbs77, jbn78, jb80, jg28, jA94, jjhK0, jhDD, hb82_112, by omega⟩⟩
              · skip
                refine V_skip ?_
                refine X_block ?_
                exact fun a _ => ⟨hfen1b, jb1, jb3, jbg70, jbs71, jbn72, jbg76, jbs77, jbn78, jb80, jg28, jA94, jjhK0, jhDD, hb82_112, by omega⟩
            · skip
              intro D1 M11 W1 hD1 hM1 ⟨jb1, jb3, jbg70, jbs71, jbn72, jbg76, jbs77, jbn78, jb80, jg28, jA94, jjhK0, jhDD, jb82, hks⟩ hDD1
              have hzjjhK0 := Keep.size jjhK0
              have hb1lt := jb1.lt
              have hb3lt := jb3.lt
              have hbg70lt := jbg70.lt
              have hbs71lt := jbs71.lt
              have hbn72lt := jbn72.lt
              have hbg76lt := jbg76.lt
              have hbs77lt := jbs77.lt
              have hbn78lt := jbn78.lt
              have hb80lt := jb80.lt
              have hb82lt := jb82.lt
              have hg28lt := jg28.lt
              have ltjA94 := SlT.lt jA94
              refine X_block ?_
              refine X_then ?_
              refine V_seq ?_
              refine V_region ?_
              refine OI_cell 3 (.tmp 9) 0 (.int .i64 (((rowL 3 (stp n)).length : Nat) : Int)) (some 85) (by kernel_rfl) (by kernel_rfl) jb80 (m := 1) (by kernel_rfl) rfl ?_
              refine OI_static 2 [(3, .pointer (some ⟨b1, 0, none⟩)), (4, .pointer (some ⟨b3, 0, none⟩)), (9, .pointer (some ⟨b80, 0, none⟩)), (10, .pointer (some ⟨b82, 0, none⟩)), (85, .int .i64 (((rowL 3 (stp n)).length : Nat) : Int)), (86, .int .i64 ((n : Nat) : Int))] (by kernel_rfl) ?_
              refine OI_cell 3 (.tmp 3) 0 (.int .i64 ((stop : Nat) : Int)) (some 87) (by kernel_rfl) (by kernel_rfl) jb1 (m := 1) (by kernel_rfl) rfl ?_
              refine OI_static 6 [(4, .pointer (some ⟨b3, 0, none⟩)), (9, .pointer (some ⟨b80, 0, none⟩)), (10, .pointer (some ⟨b82, 0, none⟩)), (90, .bool (decide ((((rowL 3 (stp n)).length : Nat) : Int) = if ((stop : Nat) : Int) < ((n : Nat) : Int) then ((stop : Nat) : Int) else ((n : Nat) : Int))))] (by kernel_rfl) ?_
              refine OI_eq [(4, .pointer (some ⟨b3, 0, none⟩)), (9, .pointer (some ⟨b80, 0, none⟩)), (10, .pointer (some ⟨b82, 0, none⟩)), (90, .bool true)] (by rw [decide_eq_true (by first | omega | (split <;> omega))]) ?_
              refine OI_cell 3 (.tmp 10) 0 (.int .i64 (((colL 3 (stp n)).length : Nat) : Int)) (some 91) (by kernel_rfl) (by kernel_rfl) jb82 (m := 1) (by kernel_rfl) rfl ?_
              refine OI_cell 3 (.tmp 9) 0 (.int .i64 (((rowL 3 (stp n)).length : Nat) : Int)) (some 92) (by kernel_rfl) (by kernel_rfl) jb80 (m := 1) (by kernel_rfl) rfl ?_
              refine OI_static 11 [(4, .pointer (some ⟨b3, 0, none⟩)), (95, .bool (decide ((((colL 3 (stp n)).length : Nat) : Int) = (((rowL 3 (stp n)).length : Nat) : Int))))] (by kernel_rfl) ?_
              refine OI_eq [(4, .pointer (some ⟨b3, 0, none⟩)), (95, .bool true)] (by rw [decide_eq_true (by first | omega | (split <;> omega))]) ?_
              refine OI_call { callee := (Callee.value (Operand.func 14)), args := #[], argTypes := #[] } 14 #[] (some 96) (by kernel_rfl) (by kernel_rfl) (by kernel_rfl) (known_spec _) ?_
              rintro _ w117 ⟨rfl, hk118⟩
              refine ⟨_, rfl, ?_⟩
              have hsz119 := Keep.size hk118
              replace jb1 := jb1.keep hk118 (fun f => f)
              have hb1lt := jb1.lt
              replace jb3 := jb3.keep hk118 (fun f => f)
              have hb3lt := jb3.lt
              replace jbg70 := jbg70.keep hk118 (fun f => f)
              have hbg70lt := jbg70.lt
              replace jbs71 := jbs71.keep hk118 (fun f => f)
              have hbs71lt := jbs71.lt
              replace jbn72 := jbn72.keep hk118 (fun f => f)
              have hbn72lt := jbn72.lt
              replace jbg76 := jbg76.keep hk118 (fun f => f)
              have hbg76lt := jbg76.lt
              replace jbs77 := jbs77.keep hk118 (fun f => f)
              have hbs77lt := jbs77.lt
              replace jbn78 := jbn78.keep hk118 (fun f => f)
              have hbn78lt := jbn78.lt
              replace jb80 := jb80.keep hk118 (fun f => f)
              have hb80lt := jb80.lt
              replace jb82 := jb82.keep hk118 (fun f => f)
              have hb82lt := jb82.lt
              replace jg28 := jg28.keep hk118 (fun f => f)
              have hg28lt := jg28.lt
              replace jA94 := SlT.keep0 jA94 hk118
              replace jjhK0 := Keep.tr jjhK0 (Keep.ofNone hk118); have hzjjhK0 := Keep.size jjhK0
              replace jhDD := (Keep.block hk118 _ (Array.getElem?_eq_some_iff.1 jhDD).1 (fun f => f)).trans jhDD
              replace hDD1 := (Keep.block hk118 _ (Array.getElem?_eq_some_iff.1 hDD1).1 (fun f => f)).trans hDD1
              refine OI_static 13 [(4, .pointer (some ⟨b3, 0, none⟩)), (97, .bool true)] (by kernel_rfl) ?_
              refine OI_set (m := 1) (kd := false) 4 (.tmp 4) (.tmp 97) 0 (.bool true) [.bool true] none (by kernel_rfl) (by kernel_rfl) (by kernel_rfl) jb3 (by kernel_rfl) (by kernel_rfl) (by kernel_rfl) (Nat.le_of_ble_eq_true (by kernel_rfl)) (by simp [Value.oneCell']) ?_
              intro w120 hb3_123 hk121 hz122
              replace hb3_123 : Blk w120 b3 [.bool true] 4 := hb3_123
              have hsz124 := Keep.size hk121
              replace jb1 := jb1.keep hk121 (by show ¬ (_ = _); omega)
              have hb1lt := jb1.lt
              replace jbg70 := jbg70.keep hk121 (by show ¬ (_ = _); omega)
              have hbg70lt := jbg70.lt
              replace jbs71 := jbs71.keep hk121 (by show ¬ (_ = _); omega)
              have hbs71lt := jbs71.lt
              replace jbn72 := jbn72.keep hk121 (by show ¬ (_ = _); omega)
              have hbn72lt := jbn72.lt
              replace jbg76 := jbg76.keep hk121 (by show ¬ (_ = _); omega)
              have hbg76lt := jbg76.lt
              replace jbs77 := jbs77.keep hk121 (by show ¬ (_ = _); omega)
              have hbs77lt := jbs77.lt
              replace jbn78 := jbn78.keep hk121 (by show ¬ (_ = _); omega)
              have hbn78lt := jbn78.lt
              replace jb80 := jb80.keep hk121 (by show ¬ (_ = _); omega)
              have hb80lt := jb80.lt
              replace jb82 := jb82.keep hk121 (by show ¬ (_ = _); omega)
              have hb82lt := jb82.lt
              replace jg28 := jg28.keep hk121 (by show ¬ (_ = _); omega)
              have hg28lt := jg28.lt
              replace jA94 := SlT.keep jA94 hk121 (fun q hq hs => by have hs : q = b3 := hs; have g0 := owA94 q hq; have g1 := ltjA94 q hq; omega)
              replace jjhK0 := Keep.fresh jjhK0 hk121 (by intro i hi hs; first | exact hs | exact Or.inl hs | exact Or.inr hs | (exfalso; have hs2 : i = b3 := hs; omega)); have hzjjhK0 := Keep.size jjhK0
              replace jhDD := (Keep.block hk121 _ (Array.getElem?_eq_some_iff.1 jhDD).1 (by show ¬ (_ = _); omega)).trans jhDD
              replace hDD1 := (Keep.block hk121 _ (Array.getElem?_eq_some_iff.1 hDD1).1 (by show ¬ (_ = _); omega)).trans hDD1
              refine OI_end rfl ?_
              refine X_then ?_
              refine V_ret ?_
              exact leave2 (.bool true) (.inl rfl) (by omega) jhDD hDD1 (fun w' hk => ⟨res_cell1 (n1 := 1) rfl rfl (by kernel_rfl) (Blk.quiet hb3_123 hk) , ⟨rfl, Keep.quiet jjhK0 hk (by omega)⟩⟩)
            · skip
              intro D1 M11 k1 c W1 hD1 hM1 hkm h hDD1
              obtain ⟨hc, jb1, jb3, jbg70, jbs71, jbn72, jbg76, jbs77, jbn78, jb80, jg28, jA94, jjhK0, jhDD, jb82, hke⟩ := h
              subst hc
              have hzjjhK0 := Keep.size jjhK0
              have hb1lt := jb1.lt
              have hb3lt := jb3.lt
              have hbg70lt := jbg70.lt
              have hbs71lt := jbs71.lt
              have hbn72lt := jbn72.lt
              have hbg76lt := jbg76.lt
              have hbs77lt := jbs77.lt
              have hbn78lt := jbn78.lt
              have hb80lt := jb80.lt
              have hb82lt := jb82.lt
              have hg28lt := jg28.lt
              have ltjA94 := SlT.lt jA94
              refine V_exit ?_
              refine X_exit_here ?_
              refine X_then ?_
              refine V_seq ?_
              refine V_region ?_
              refine OI_cell 3 (.tmp 9) 0 (.int .i64 (((rowL 3 (stp n)).length : Nat) : Int)) (some 85) (by kernel_rfl) (by kernel_rfl) jb80 (m := 1) (by kernel_rfl) rfl ?_
              refine OI_static 2 [(3, .pointer (some ⟨b1, 0, none⟩)), (4, .pointer (some ⟨b3, 0, none⟩)), (9, .pointer (some ⟨b80, 0, none⟩)), (10, .pointer (some ⟨b82, 0, none⟩)), (85, .int .i64 (((rowL 3 (stp n)).length : Nat) : Int)), (86, .int .i64 ((n : Nat) : Int))] (by kernel_rfl) ?_
              refine OI_cell 3 (.tmp 3) 0 (.int .i64 ((stop : Nat) : Int)) (some 87) (by kernel_rfl) (by kernel_rfl) jb1 (m := 1) (by kernel_rfl) rfl ?_
              refine OI_static 6 [(4, .pointer (some ⟨b3, 0, none⟩)), (9, .pointer (some ⟨b80, 0, none⟩)), (10, .pointer (some ⟨b82, 0, none⟩)), (90, .bool (decide ((((rowL 3 (stp n)).length : Nat) : Int) = if ((stop : Nat) : Int) < ((n : Nat) : Int) then ((stop : Nat) : Int) else ((n : Nat) : Int))))] (by kernel_rfl) ?_
              refine OI_eq [(4, .pointer (some ⟨b3, 0, none⟩)), (9, .pointer (some ⟨b80, 0, none⟩)), (10, .pointer (some ⟨b82, 0, none⟩)), (90, .bool true)] (by rw [decide_eq_true (by first | omega | (split <;> omega))]) ?_
              refine OI_cell 3 (.tmp 10) 0 (.int .i64 ((k1 : Nat) : Int)) (some 91) (by kernel_rfl) (by kernel_rfl) jb82 (m := 1) (by kernel_rfl) rfl ?_
              refine OI_cell 3 (.tmp 9) 0 (.int .i64 (((rowL 3 (stp n)).length : Nat) : Int)) (some 92) (by kernel_rfl) (by kernel_rfl) jb80 (m := 1) (by kernel_rfl) rfl ?_
              refine OI_static 11 [(4, .pointer (some ⟨b3, 0, none⟩)), (95, .bool (decide (((k1 : Nat) : Int) = (((rowL 3 (stp n)).length : Nat) : Int))))] (by kernel_rfl) ?_
              refine OI_eq [(4, .pointer (some ⟨b3, 0, none⟩)), (95, .bool true)] (by rw [decide_eq_true (by first | omega | (split <;> omega))]) ?_
              refine OI_call { callee := (Callee.value (Operand.func 14)), args := #[], argTypes := #[] } 14 #[] (some 96) (by kernel_rfl) (by kernel_rfl) (by kernel_rfl) (known_spec _) ?_
              rintro _ w127 ⟨rfl, hk128⟩
              refine ⟨_, rfl, ?_⟩
              have hsz129 := Keep.size hk128
              replace jb1 := jb1.keep hk128 (fun f => f)
              have hb1lt := jb1.lt
              replace jb3 := jb3.keep hk128 (fun f => f)
              have hb3lt := jb3.lt
              replace jbg70 := jbg70.keep hk128 (fun f => f)
              have hbg70lt := jbg70.lt
              replace jbs71 := jbs71.keep hk128 (fun f => f)
              have hbs71lt := jbs71.lt
              replace jbn72 := jbn72.keep hk128 (fun f => f)
              have hbn72lt := jbn72.lt
              replace jbg76 := jbg76.keep hk128 (fun f => f)
              have hbg76lt := jbg76.lt
              replace jbs77 := jbs77.keep hk128 (fun f => f)
              have hbs77lt := jbs77.lt
              replace jbn78 := jbn78.keep hk128 (fun f => f)
              have hbn78lt := jbn78.lt
              replace jb80 := jb80.keep hk128 (fun f => f)
              have hb80lt := jb80.lt
              replace jb82 := jb82.keep hk128 (fun f => f)
              have hb82lt := jb82.lt
              replace jg28 := jg28.keep hk128 (fun f => f)
              have hg28lt := jg28.lt
              replace jA94 := SlT.keep0 jA94 hk128
              replace jjhK0 := Keep.tr jjhK0 (Keep.ofNone hk128); have hzjjhK0 := Keep.size jjhK0
              replace jhDD := (Keep.block hk128 _ (Array.getElem?_eq_some_iff.1 jhDD).1 (fun f => f)).trans jhDD
              replace hDD1 := (Keep.block hk128 _ (Array.getElem?_eq_some_iff.1 hDD1).1 (fun f => f)).trans hDD1
              refine OI_static 13 [(4, .pointer (some ⟨b3, 0, none⟩)), (97, .bool true)] (by kernel_rfl) ?_
              refine OI_set (m := 1) (kd := false) 4 (.tmp 4) (.tmp 97) 0 (.bool true) [.bool true] none (by kernel_rfl) (by kernel_rfl) (by kernel_rfl) jb3 (by kernel_rfl) (by kernel_rfl) (by kernel_rfl) (Nat.le_of_ble_eq_true (by kernel_rfl)) (by simp [Value.oneCell']) ?_
              intro w130 hb3_133 hk131 hz132
              replace hb3_133 : Blk w130 b3 [.bool true] 4 := hb3_133
              have hsz134 := Keep.size hk131
              replace jb1 := jb1.keep hk131 (by show ¬ (_ = _); omega)
              have hb1lt := jb1.lt
              replace jbg70 := jbg70.keep hk131 (by show ¬ (_ = _); omega)
              have hbg70lt := jbg70.lt
              replace jbs71 := jbs71.keep hk131 (by show ¬ (_ = _); omega)
              have hbs71lt := jbs71.lt
              replace jbn72 := jbn72.keep hk131 (by show ¬ (_ = _); omega)
              have hbn72lt := jbn72.lt
              replace jbg76 := jbg76.keep hk131 (by show ¬ (_ = _); omega)
              have hbg76lt := jbg76.lt
              replace jbs77 := jbs77.keep hk131 (by show ¬ (_ = _); omega)
              have hbs77lt := jbs77.lt
              replace jbn78 := jbn78.keep hk131 (by show ¬ (_ = _); omega)
              have hbn78lt := jbn78.lt
              replace jb80 := jb80.keep hk131 (by show ¬ (_ = _); omega)
              have hb80lt := jb80.lt
              replace jb82 := jb82.keep hk131 (by show ¬ (_ = _); omega)
              have hb82lt := jb82.lt
              replace jg28 := jg28.keep hk131 (by show ¬ (_ = _); omega)
              have hg28lt := jg28.lt
              replace jA94 := SlT.keep jA94 hk131 (fun q hq hs => by have hs : q = b3 := hs; have g0 := owA94 q hq; have g1 := ltjA94 q hq; omega)
              replace jjhK0 := Keep.fresh jjhK0 hk131 (by intro i hi hs; first | exact hs | exact Or.inl hs | exact Or.inr hs | (exfalso; have hs2 : i = b3 := hs; omega)); have hzjjhK0 := Keep.size jjhK0
              replace jhDD := (Keep.block hk131 _ (Array.getElem?_eq_some_iff.1 jhDD).1 (by show ¬ (_ = _); omega)).trans jhDD
              replace hDD1 := (Keep.block hk131 _ (Array.getElem?_eq_some_iff.1 hDD1).1 (by show ¬ (_ = _); omega)).trans hDD1
              refine OI_end rfl ?_
              refine X_then ?_
              refine V_ret ?_
              exact leave2 (.bool true) (.inl rfl) (by omega) jhDD hDD1 (fun w' hk => ⟨res_cell1 (n1 := 1) rfl rfl (by kernel_rfl) (Blk.quiet hb3_133 hk) , ⟨rfl, Keep.quiet jjhK0 hk (by omega)⟩⟩)
          · skip
            intro D M1 k c W hD hM hkm h hDD
            obtain ⟨hc, jb1, jb3, jbg70, jbs71, jbn72, jbg76, jbs77, jbn78, jb82, jg28, jA94, jhK0, jb80, hke⟩ := h
            subst hc
            have hzjhK0 := Keep.size jhK0
            have hb1lt := jb1.lt
            have hb3lt := jb3.lt
            have hbg70lt := jbg70.lt
            have hbs71lt := jbs71.lt
            have hbn72lt := jbn72.lt
            have hbg76lt := jbg76.lt
            have hbs77lt := jbs77.lt
            have hbn78lt := jbn78.lt
            have hb80lt := jb80.lt
            have hb82lt := jb82.lt
            have hg28lt := jg28.lt
            have ltjA94 := SlT.lt jA94
            refine V_exit ?_
            refine X_exit_here ?_
            refine X_then ?_
            refine V_seq ?_
            refine V_seq ?_
            refine V_region ?_
            refine OI_static 1 [(0, .int .i64 ((n : Nat) : Int)), (3, .pointer (some ⟨b1, 0, none⟩)), (4, .pointer (some ⟨b3, 0, none⟩)), (9, .pointer (some ⟨b80, 0, none⟩)), (10, .pointer (some ⟨b82, 0, none⟩)), (70, .func (.func 47) #[] #[.pointer (some ⟨bg76, 0, none⟩), .pointer (some ⟨bs77, 0, none⟩), .pointer (some ⟨bn78, 0, none⟩)])] (by kernel_rfl) ?_
            refine OI_end rfl ?_
            refine X_then ?_
            refine V_block ?_
            have hXl1 : (colL 3 (stp n)).length = n := by rw [hcol]; exact hdl
            refine V_pick [(0, .int .i64 ((n : Nat) : Int)), (3, .pointer (some ⟨b1, 0, none⟩)), (4, .pointer (some ⟨b3, 0, none⟩)), (9, .pointer (some ⟨b80, 0, none⟩)), (10, .pointer (some ⟨b82, 0, none⟩)), (70, .func (.func 47) #[] #[.pointer (some ⟨bg76, 0, none⟩), .pointer (some ⟨bs77, 0, none⟩), .pointer (some ⟨bn78, 0, none⟩)])] rfl ?_
            have hlthDD := (Array.getElem?_eq_some_iff.1 hDD).1
            have hN01 : w.heap.size ≤ W.heap.size := hzjhK0
            refine V_range2 (gf := 47) (caps := #[.pointer (some ⟨bg76, 0, none⟩), .pointer (some ⟨bs77, 0, none⟩), .pointer (some ⟨bn78, 0, none⟩)]) (m := (colL 3 (stp n)).length) (by kernel_rfl) (by kernel_rfl) (by kernel_rfl) (along1_iter1 bg76 bs77 bn78 g28 cap94 A94 (stp n) 3 (by omega)) (⟨jbg76, ⟨jg28, jA94, hoff94⟩, ⟨jbs77, jbn78, jA94⟩⟩) (fun W W' h k => ⟨h.1.quiet k, h.2.1.quiet k, h.2.2.quiet k⟩) (enc2_size _) (fun M11 k1 W1 => (Blk W1 b1 [.int .i64 ((stop : Nat) : Int)] 3) ∧ (Blk W1 b3 [.bool false] 4) ∧ (Blk W1 bg70 [.pointer (some ⟨g28, 0, none⟩)] 22) ∧ (Blk W1 bs71 [.int .i64 0] 3) ∧ (Blk W1 bn72 [.int .i64 3] 3) ∧ (Blk W1 bg76 [.pointer (some ⟨g28, 0, none⟩)] 22) ∧ (Blk W1 bs77 [.int .i64 1] 3) ∧ (Blk W1 bn78 [.int .i64 3] 3) ∧ (Blk W1 b80 [.int .i64 ((k : Nat) : Int)] 3) ∧ (Blk W1 g28 [.slice A94 ((stp n).length) cap94] 66) ∧ (SlT W1 3 Ci.cells A94 cap94 (stp n)) ∧ (Keep none_ w W1) ∧ (W1.heap[D]? = some (.deferred (some []))) ∧ (Blk W1 b82 [.int .i64 ((k1 : Nat) : Int)] 3) ∧ (k1 < stop)) (fun M11 c k1 W1 => (c = .exit 4 ∧ (Blk W1 b1 [.int .i64 ((stop : Nat) : Int)] 3) ∧ (Blk W1 b3 [.bool false] 4) ∧ (Blk W1 bg70 [.pointer (some ⟨g28, 0, none⟩)] 22) ∧ (Blk W1 bs71 [.int .i64 0] 3) ∧ (Blk W1 bn72 [.int .i64 3] 3) ∧ (Blk W1 bg76 [.pointer (some ⟨g28, 0, none⟩)] 22) ∧ (Blk W1 bs77 [.int .i64 1] 3) ∧ (Blk W1 bn78 [.int .i64 3] 3) ∧ (Blk W1 b80 [.int .i64 ((k : Nat) : Int)] 3) ∧ (Blk W1 g28 [.slice A94 ((stp n).length) cap94] 66) ∧ (SlT W1 3 Ci.cells A94 cap94 (stp n)) ∧ (Keep none_ w W1) ∧ (W1.heap[D]? = some (.deferred (some []))) ∧ (Blk W1 b82 [.int .i64 ((k1 : Nat) : Int)] 3) ∧ (k1 = stop))) (fun M11 k1 W W' h hk => by obtain ⟨jb1, jb3, jbg70, jbs71, jbn72, jbg76, jbs77, jbn78, jb80, jg28, jA94, jjhK0, jhDD, jb82, hks⟩ := h; exact ⟨jb1.quiet hk, jb3.quiet hk, jbg70.quiet hk, jbs71.quiet hk, jbn72.quiet hk, jbg76.quiet hk, jbs77.quiet hk, jbn78.quiet hk, jb80.quiet hk, jg28.quiet hk, jA94.quiet hk, jjhK0.quiet hk (by omega), ((Keep.block hk _ (Array.getElem?_eq_some_iff.1 jhDD).1 (fun hs => absurd hs.1 (by omega))).trans jhDD), jb82.quiet hk, hks⟩) (fun M11 c k1 W W' h hk => by obtain ⟨hc, jb1, jb3, jbg70, jbs71, jbn72, jbg76, jbs77, jbn78, jb80, jg28, jA94, jjhK0, jhDD, jb82, hke⟩ := h; exact ⟨hc, jb1.quiet hk, jb3.quiet hk, jbg70.quiet hk, jbs71.quiet hk, jbn72.quiet hk, jbg76.quiet hk, jbs77.quiet hk, jbn78.quiet hk, jb80.quiet hk, jg28.quiet hk, jA94.quiet hk, jjhK0.quiet hk (by omega), ((Keep.block hk _ (Array.getElem?_eq_some_iff.1 jhDD).1 (fun hs => absurd hs.1 (by omega))).trans jhDD), jb82.quiet hk, hke⟩) (fun M11 hM1 => ⟨jb1, jb3, jbg70, jbs71, jbn72, jbg76, jbs77, jbn78, jb80, jg28, jA94, jhK0, hDD, jb82, by omega⟩) (fun M11 k1 W1 h => by obtain ⟨jb1, jb3, jbg70, jbs71, jbn72, jbg76, jbs77, jbn78, jb80, jg28, jA94, jjhK0, jhDD, jb82, hks⟩ := h; exact ⟨jbs77, jbn78, jA94⟩) ?_ ?_ ?_
            · skip
              intro lp1 D1 M11 k1 W1 hD1 hl1 hM1 hMW1 hkm ⟨jb1, jb3, jbg70, jbs71, jbn72, jbg76, jbs77, jbn78, jb80, jg28, jA94, jjhK0, jhDD, jb82, hks⟩ ⟨rr1, hrr1⟩ hDD1
              have hzjjhK0 := Keep.size jjhK0
              have hb1lt := jb1.lt
              have hb3lt := jb3.lt
              have hbg70lt := jbg70.lt
              have hbs71lt := jbs71.lt
              have hbn72lt := jbn72.lt
              have hbg76lt := jbg76.lt
              have hbs77lt := jbs77.lt
              have hbn78lt := jbn78.lt
              have hb80lt := jb80.lt
              have hb82lt := jb82.lt
              have hg28lt := jg28.lt
              have ltjA94 := SlT.lt jA94
              replace hkm : k1 < n := by omega
              rw [hcol, enc2_at (diag_at hkm)]
              refine V_pick [(3, .pointer (some ⟨b1, 0, none⟩)), (4, .pointer (some ⟨b3, 0, none⟩)), (10, .pointer (some ⟨b82, 0, none⟩)), (71, .int .i64 ((k1 : Nat) : Int)), (72, .int .i64 ((k1 : Nat) : Int))] rfl ?_
              have hfen1 : Keep (fen W.heap.size M11) W1 W1 := Keep.refl _ _
              have hzhfen1 := Keep.size hfen1
              refine V_seq ?_
              refine V_region ?_
              refine OI_static 1 [(3, .pointer (some ⟨b1, 0, none⟩)), (4, .pointer (some ⟨b3, 0, none⟩)), (10, .pointer (some ⟨b82, 0, none⟩)), (13, .int .i64 ((k1 : Nat) : Int)), (72, .int .i64 ((k1 : Nat) : Int))] (by kernel_rfl) ?_
              refine OI_end rfl ?_
              refine X_then ?_
              refine V_region ?_
              refine OI_static 1 [(3, .pointer (some ⟨b1, 0, none⟩)), (4, .pointer (some ⟨b3, 0, none⟩)), (10, .pointer (some ⟨b82, 0, none⟩)), (13, .int .i64 ((k1 : Nat) : Int)), (14, .int .i64 ((k1 : Nat) : Int))] (by kernel_rfl) ?_
              refine OI_end rfl ?_
              refine X_begin2 hfen1 ?_
              intro W21 hk21 ⟨r21, hr21⟩ hD21
              have hsz135 := Keep.size hk21
              replace jb1 := Blk.quiet jb1 hk21
              have hb1lt := jb1.lt
              replace jb3 := Blk.quiet jb3 hk21
              have hb3lt := jb3.lt
              replace jbg70 := Blk.quiet jbg70 hk21
              have hbg70lt := jbg70.lt
              replace jbs71 := Blk.quiet jbs71 hk21
              have hbs71lt := jbs71.lt
              replace jbn72 := Blk.quiet jbn72 hk21
              have hbn72lt := jbn72.lt
              replace jbg76 := Blk.quiet jbg76 hk21
              have hbg76lt := jbg76.lt
              replace jbs77 := Blk.quiet jbs77 hk21
              have hbs77lt := jbs77.lt
              replace jbn78 := Blk.quiet jbn78 hk21
              have hbn78lt := jbn78.lt
              replace jb80 := Blk.quiet jb80 hk21
              have hb80lt := jb80.lt
              replace jb82 := Blk.quiet jb82 hk21
              have hb82lt := jb82.lt
              replace jg28 := Blk.quiet jg28 hk21
              have hg28lt := jg28.lt
              replace jA94 := SlT.quiet jA94 hk21
              replace jjhK0 := Keep.quiet jjhK0 hk21 (by omega); have hzjjhK0 := Keep.size jjhK0
              replace jhDD := (Keep.block hk21 _ (Array.getElem?_eq_some_iff.1 jhDD).1 (fun hs => absurd hs.1 (by omega))).trans jhDD
              have hzhk21 := Keep.size hk21
              have hfen1b : Keep (fen W.heap.size M11) W21 W21 := Keep.refl _ _
              have hzhfen1b := Keep.size hfen1b
              refine V_block ?_
              refine V_seq ?_
              refine V_seq ?_
              refine V_region ?_
              refine OI_static 1 [(3, .pointer (some ⟨b1, 0, none⟩)), (4, .pointer (some ⟨b3, 0, none⟩)), (10, .pointer (some ⟨b82, 0, none⟩)), (14, .int .i64 ((k1 : Nat) : Int)), (73, .int .i64 ((k1 : Nat) : Int))] (by kernel_rfl) ?_
              refine OI_cell 3 (.tmp 10) 0 (.int .i64 ((k1 : Nat) : Int)) (some 74) (by kernel_rfl) (by kernel_rfl) jb82 (m := 1) (by kernel_rfl) rfl ?_
              refine OI_static 4 [(3, .pointer (some ⟨b1, 0, none⟩)), (4, .pointer (some ⟨b3, 0, none⟩)), (10, .pointer (some ⟨b82, 0, none⟩)), (14, .int .i64 ((k1 : Nat) : Int)), (76, .bool (!(decide (((k1 : Nat) : Int) = ((k1 : Nat) : Int)))))] (by kernel_rfl) ?_
              refine OI_eq [(3, .pointer (some ⟨b1, 0, none⟩)), (4, .pointer (some ⟨b3, 0, none⟩)), (10, .pointer (some ⟨b82, 0, none⟩)), (14, .int .i64 ((k1 : Nat) : Int)), (76, .bool false)] (by rw [decide_eq_true (rfl : ((k1 : Nat) : Int) = ((k1 : Nat) : Int))]; rfl) ?_
              refine OI_static 7 [(3, .pointer (some ⟨b1, 0, none⟩)), (4, .pointer (some ⟨b3, 0, none⟩)), (10, .pointer (some ⟨b82, 0, none⟩)), (79, .bool (decide (((k1 : Nat) : Int) < 0)))] (by kernel_rfl) ?_
              refine OI_end rfl ?_
              refine X_then ?_
              refine V_eq [(3, .pointer (some ⟨b1, 0, none⟩)), (4, .pointer (some ⟨b3, 0, none⟩)), (10, .pointer (some ⟨b82, 0, none⟩)), (79, .bool false)] (by rw [decide_eq_false (by omega : ¬ ((k1 : Nat) : Int) < 0)]) ?_
              refine V_false rfl ?_
              refine V_skip ?_
              refine X_then ?_
              refine V_seq ?_
              refine V_region ?_
              refine OI_cell 3 (.tmp 10) 0 (.int .i64 ((k1 : Nat) : Int)) (some 80) (by kernel_rfl) (by kernel_rfl) jb82 (m := 1) (by kernel_rfl) rfl ?_
              have hw138 : IntKind.i64.wrap (((k1 : Nat) : Int) + 1) = ((k1 + 1 : Nat) : Int) := (wrap64_id (by omega) (by omega)).trans (by omega)
              refine OI_static 2 [(3, .pointer (some ⟨b1, 0, none⟩)), (10, .pointer (some ⟨b82, 0, none⟩)), (81, .int .i64 (IntKind.i64.wrap (((k1 : Nat) : Int) + 1)))] (by kernel_rfl) ?_
              refine OI_eq [(3, .pointer (some ⟨b1, 0, none⟩)), (10, .pointer (some ⟨b82, 0, none⟩)), (81, .int .i64 ((k1 + 1 : Nat) : Int))] (by rw [hw138]) ?_
              refine OI_set (m := 1) (kd := false) 3 (.tmp 10) (.tmp 81) 0 (.int .i64 ((k1 + 1 : Nat) : Int)) [.int .i64 ((k1 + 1 : Nat) : Int)] none (by kernel_rfl) (by kernel_rfl) (by kernel_rfl) jb82 (by kernel_rfl) (by kernel_rfl) (by kernel_rfl) (Nat.le_of_ble_eq_true (by kernel_rfl)) (by simp [Value.oneCell']) ?_
              intro w139 hb82_142 hk140 hz141
              replace hb82_142 : Blk w139 b82 [.int .i64 ((k1 + 1 : Nat) : Int)] 3 := hb82_142
              have hsz143 := Keep.size hk140
              replace jb1 := jb1.keep hk140 (by show ¬ (_ = _); omega)
              have hb1lt := jb1.lt
              replace jb3 := jb3.keep hk140 (by show ¬ (_ = _); omega)
              have hb3lt := jb3.lt
              replace jbg70 := jbg70.keep hk140 (by show ¬ (_ = _); omega)
              have hbg70lt := jbg70.lt
              replace jbs71 := jbs71.keep hk140 (by show ¬ (_ = _); omega)
              have hbs71lt := jbs71.lt
              replace jbn72 := jbn72.keep hk140 (by show ¬ (_ = _); omega)
              have hbn72lt := jbn72.lt
              replace jbg76 := jbg76.keep hk140 (by show ¬ (_ = _); omega)
              have hbg76lt := jbg76.lt
              replace jbs77 := jbs77.keep hk140 (by show ¬ (_ = _); omega)
              have hbs77lt := jbs77.lt
              replace jbn78 := jbn78.keep hk140 (by show ¬ (_ = _); omega)
              have hbn78lt := jbn78.lt
              replace jb80 := jb80.keep hk140 (by show ¬ (_ = _); omega)
              have hb80lt := jb80.lt
              replace jg28 := jg28.keep hk140 (by show ¬ (_ = _); omega)
              have hg28lt := jg28.lt
              replace jA94 := SlT.keep jA94 hk140 (fun q hq hs => by have hs : q = b82 := hs; have g0 := owA94 q hq; have g1 := ltjA94 q hq; omega)
              replace jjhK0 := Keep.fresh jjhK0 hk140 (by intro i hi hs; first | exact hs | exact Or.inl hs | exact Or.inr hs | (exfalso; have hs2 : i = b82 := hs; omega)); have hzjjhK0 := Keep.size jjhK0
              replace jhDD := (Keep.block hk140 _ (Array.getElem?_eq_some_iff.1 jhDD).1 (by show ¬ (_ = _); omega)).trans jhDD
              replace hfen1b := Keep.fresh hfen1b hk140 (by intro i hi hs; have hs2 : i = b82 := hs; show _ ∨ _; omega); have hzhfen1b := Keep.size hfen1b
              refine OI_end rfl ?_
              refine X_then ?_
              refine V_seq ?_
              refine V_region ?_
              refine OI_cell 3 (.tmp 10) 0 (.int .i64 ((k1 + 1 : Nat) : Int)) (some 82) (by kernel_rfl) (by kernel_rfl) hb82_142 (m := 1) (by kernel_rfl) rfl ?_
              refine OI_cell 3 (.tmp 3) 0 (.int .i64 ((stop : Nat) : Int)) (some 83) (by kernel_rfl) (by kernel_rfl) jb1 (m := 1) (by kernel_rfl) rfl ?_
              refine OI_static 3 [(84, .bool (decide (((k1 + 1 : Nat) : Int) ≥ ((stop : Nat) : Int))))] (by kernel_rfl) ?_
              refine OI_end rfl ?_
              refine X_then ?_
              refine V_if (((k1 + 1 : Nat) : Int) ≥ ((stop : Nat) : Int)) (by kernel_rfl) (fun hc144 => ?_) (fun hc144 => ?_)
              · skip
                refine V_exit ?_
                refine X_exit_out (by decide) ?_
                exact fun a _ => ⟨hfen1b, ⟨rfl, jb1, jb3, jbg70, jbs71, jbn72, jbg76, jbs77, jbn78, jb80, jg28, jA94, jjhK0, jhDD, hb82_142, by omega⟩⟩
              · skip
                refine V_skip ?_
                refine X_block ?_
                exact fun a _ => ⟨hfen1b, jb1, jb3, jbg70, jbs71, jbn72, jbg76, jbs77, jbn78, jb80, jg28, jA94, jjhK0, jhDD, hb82_142, by omega⟩
            · skip
              intro D1 M11 W1 hD1 hM1 ⟨jb1, jb3, jbg70, jbs71, jbn72, jbg76, jbs77, jbn78, jb80, jg28, jA94, jjhK0, jhDD, jb82, hks⟩ hDD1
              have hzjjhK0 := Keep.size jjhK0
              have hb1lt := jb1.lt
              have hb3lt := jb3.lt
              have hbg70lt := jbg70.lt
              have hbs71lt := jbs71.lt
              have hbn72lt := jbn72.lt
              have hbg76lt := jbg76.lt
              have hbs77lt := jbs77.lt
              have hbn78lt := jbn78.lt
              have hb80lt := jb80.lt
              have hb82lt := jb82.lt
              have hg28lt := jg28.lt
              have ltjA94 := SlT.lt jA94
              refine X_block ?_
              refine X_then ?_
              refine V_seq ?_
              refine V_region ?_
              refine OI_cell 3 (.tmp 9) 0 (.int .i64 ((k : Nat) : Int)) (some 85) (by kernel_rfl) (by kernel_rfl) jb80 (m := 1) (by kernel_rfl) rfl ?_
              refine OI_static 2 [(3, .pointer (some ⟨b1, 0, none⟩)), (4, .pointer (some ⟨b3, 0, none⟩)), (9, .pointer (some ⟨b80, 0, none⟩)), (10, .pointer (some ⟨b82, 0, none⟩)), (85, .int .i64 ((k : Nat) : Int)), (86, .int .i64 ((n : Nat) : Int))] (by kernel_rfl) ?_
              refine OI_cell 3 (.tmp 3) 0 (.int .i64 ((stop : Nat) : Int)) (some 87) (by kernel_rfl) (by kernel_rfl) jb1 (m := 1) (by kernel_rfl) rfl ?_
              refine OI_static 6 [(4, .pointer (some ⟨b3, 0, none⟩)), (9, .pointer (some ⟨b80, 0, none⟩)), (10, .pointer (some ⟨b82, 0, none⟩)), (90, .bool (decide (((k : Nat) : Int) = if ((stop : Nat) : Int) < ((n : Nat) : Int) then ((stop : Nat) : Int) else ((n : Nat) : Int))))] (by kernel_rfl) ?_
              refine OI_eq [(4, .pointer (some ⟨b3, 0, none⟩)), (9, .pointer (some ⟨b80, 0, none⟩)), (10, .pointer (some ⟨b82, 0, none⟩)), (90, .bool true)] (by rw [decide_eq_true (by first | omega | (split <;> omega))]) ?_
              refine OI_cell 3 (.tmp 10) 0 (.int .i64 (((colL 3 (stp n)).length : Nat) : Int)) (some 91) (by kernel_rfl) (by kernel_rfl) jb82 (m := 1) (by kernel_rfl) rfl ?_
              refine OI_cell 3 (.tmp 9) 0 (.int .i64 ((k : Nat) : Int)) (some 92) (by kernel_rfl) (by kernel_rfl) jb80 (m := 1) (by kernel_rfl) rfl ?_
              refine OI_static 11 [(4, .pointer (some ⟨b3, 0, none⟩)), (95, .bool (decide ((((colL 3 (stp n)).length : Nat) : Int) = ((k : Nat) : Int))))] (by kernel_rfl) ?_
              refine OI_eq [(4, .pointer (some ⟨b3, 0, none⟩)), (95, .bool true)] (by rw [decide_eq_true (by first | omega | (split <;> omega))]) ?_
              refine OI_call { callee := (Callee.value (Operand.func 14)), args := #[], argTypes := #[] } 14 #[] (some 96) (by kernel_rfl) (by kernel_rfl) (by kernel_rfl) (known_spec _) ?_
              rintro _ w147 ⟨rfl, hk148⟩
              refine ⟨_, rfl, ?_⟩
              have hsz149 := Keep.size hk148
              replace jb1 := jb1.keep hk148 (fun f => f)
              have hb1lt := jb1.lt
              replace jb3 := jb3.keep hk148 (fun f => f)
              have hb3lt := jb3.lt
              replace jbg70 := jbg70.keep hk148 (fun f => f)
              have hbg70lt := jbg70.lt
              replace jbs71 := jbs71.keep hk148 (fun f => f)
              have hbs71lt := jbs71.lt
              replace jbn72 := jbn72.keep hk148 (fun f => f)
              have hbn72lt := jbn72.lt
              replace jbg76 := jbg76.keep hk148 (fun f => f)
              have hbg76lt := jbg76.lt
              replace jbs77 := jbs77.keep hk148 (fun f => f)
              have hbs77lt := jbs77.lt
              replace jbn78 := jbn78.keep hk148 (fun f => f)
              have hbn78lt := jbn78.lt
              replace jb80 := jb80.keep hk148 (fun f => f)
              have hb80lt := jb80.lt
              replace jb82 := jb82.keep hk148 (fun f => f)
              have hb82lt := jb82.lt
              replace jg28 := jg28.keep hk148 (fun f => f)
              have hg28lt := jg28.lt
              replace jA94 := SlT.keep0 jA94 hk148
              replace jjhK0 := Keep.tr jjhK0 (Keep.ofNone hk148); have hzjjhK0 := Keep.size jjhK0
              replace jhDD := (Keep.block hk148 _ (Array.getElem?_eq_some_iff.1 jhDD).1 (fun f => f)).trans jhDD
              replace hDD1 := (Keep.block hk148 _ (Array.getElem?_eq_some_iff.1 hDD1).1 (fun f => f)).trans hDD1
              refine OI_static 13 [(4, .pointer (some ⟨b3, 0, none⟩)), (97, .bool true)] (by kernel_rfl) ?_
              refine OI_set (m := 1) (kd := false) 4 (.tmp 4) (.tmp 97) 0 (.bool true) [.bool true] none (by kernel_rfl) (by kernel_rfl) (by kernel_rfl) jb3 (by kernel_rfl) (by kernel_rfl) (by kernel_rfl) (Nat.le_of_ble_eq_true (by kernel_rfl)) (by simp [Value.oneCell']) ?_
              intro w150 hb3_153 hk151 hz152
              replace hb3_153 : Blk w150 b3 [.bool true] 4 := hb3_153
              have hsz154 := Keep.size hk151
              replace jb1 := jb1.keep hk151 (by show ¬ (_ = _); omega)
              have hb1lt := jb1.lt
              replace jbg70 := jbg70.keep hk151 (by show ¬ (_ = _); omega)
              have hbg70lt := jbg70.lt
              replace jbs71 := jbs71.keep hk151 (by show ¬ (_ = _); omega)
              have hbs71lt := jbs71.lt
              replace jbn72 := jbn72.keep hk151 (by show ¬ (_ = _); omega)
              have hbn72lt := jbn72.lt
              replace jbg76 := jbg76.keep hk151 (by show ¬ (_ = _); omega)
              have hbg76lt := jbg76.lt
              replace jbs77 := jbs77.keep hk151 (by show ¬ (_ = _); omega)
              have hbs77lt := jbs77.lt
              replace jbn78 := jbn78.keep hk151 (by show ¬ (_ = _); omega)
              have hbn78lt := jbn78.lt
              replace jb80 := jb80.keep hk151 (by show ¬ (_ = _); omega)
              have hb80lt := jb80.lt
              replace jb82 := jb82.keep hk151 (by show ¬ (_ = _); omega)
              have hb82lt := jb82.lt
              replace jg28 := jg28.keep hk151 (by show ¬ (_ = _); omega)
              have hg28lt := jg28.lt
              replace jA94 := SlT.keep jA94 hk151 (fun q hq hs => by have hs : q = b3 := hs; have g0 := owA94 q hq; have g1 := ltjA94 q hq; omega)
              replace jjhK0 := Keep.fresh jjhK0 hk151 (by intro i hi hs; first | exact hs | exact Or.inl hs | exact Or.inr hs | (exfalso; have hs2 : i = b3 := hs; omega)); have hzjjhK0 := Keep.size jjhK0
              replace jhDD := (Keep.block hk151 _ (Array.getElem?_eq_some_iff.1 jhDD).1 (by show ¬ (_ = _); omega)).trans jhDD
              replace hDD1 := (Keep.block hk151 _ (Array.getElem?_eq_some_iff.1 hDD1).1 (by show ¬ (_ = _); omega)).trans hDD1
              refine OI_end rfl ?_
              refine X_then ?_
              refine V_ret ?_
              exact leave2 (.bool true) (.inl rfl) (by omega) jhDD hDD1 (fun w' hk => ⟨res_cell1 (n1 := 1) rfl rfl (by kernel_rfl) (Blk.quiet hb3_153 hk) , ⟨rfl, Keep.quiet jjhK0 hk (by omega)⟩⟩)
            · skip
              intro D1 M11 k1 c W1 hD1 hM1 hkm h hDD1
              obtain ⟨hc, jb1, jb3, jbg70, jbs71, jbn72, jbg76, jbs77, jbn78, jb80, jg28, jA94, jjhK0, jhDD, jb82, hke⟩ := h
              subst hc
              have hzjjhK0 := Keep.size jjhK0
              have hb1lt := jb1.lt
              have hb3lt := jb3.lt
              have hbg70lt := jbg70.lt
              have hbs71lt := jbs71.lt
              have hbn72lt := jbn72.lt
              have hbg76lt := jbg76.lt
              have hbs77lt := jbs77.lt
              have hbn78lt := jbn78.lt
              have hb80lt := jb80.lt
              have hb82lt := jb82.lt
              have hg28lt := jg28.lt
              have ltjA94 := SlT.lt jA94
              refine V_exit ?_
              refine X_exit_here ?_
              refine X_then ?_
              refine V_seq ?_
              refine V_region ?_
              refine OI_cell 3 (.tmp 9) 0 (.int .i64 ((k : Nat) : Int)) (some 85) (by kernel_rfl) (by kernel_rfl) jb80 (m := 1) (by kernel_rfl) rfl ?_
              refine OI_static 2 [(3, .pointer (some ⟨b1, 0, none⟩)), (4, .pointer (some ⟨b3, 0, none⟩)), (9, .pointer (some ⟨b80, 0, none⟩)), (10, .pointer (some ⟨b82, 0, none⟩)), (85, .int .i64 ((k : Nat) : Int)), (86, .int .i64 ((n : Nat) : Int))] (by kernel_rfl) ?_
              refine OI_cell 3 (.tmp 3) 0 (.int .i64 ((stop : Nat) : Int)) (some 87) (by kernel_rfl) (by kernel_rfl) jb1 (m := 1) (by kernel_rfl) rfl ?_
              refine OI_static 6 [(4, .pointer (some ⟨b3, 0, none⟩)), (9, .pointer (some ⟨b80, 0, none⟩)), (10, .pointer (some ⟨b82, 0, none⟩)), (90, .bool (decide (((k : Nat) : Int) = if ((stop : Nat) : Int) < ((n : Nat) : Int) then ((stop : Nat) : Int) else ((n : Nat) : Int))))] (by kernel_rfl) ?_
              refine OI_eq [(4, .pointer (some ⟨b3, 0, none⟩)), (9, .pointer (some ⟨b80, 0, none⟩)), (10, .pointer (some ⟨b82, 0, none⟩)), (90, .bool true)] (by rw [decide_eq_true (by first | omega | (split <;> omega))]) ?_
              refine OI_cell 3 (.tmp 10) 0 (.int .i64 ((k1 : Nat) : Int)) (some 91) (by kernel_rfl) (by kernel_rfl) jb82 (m := 1) (by kernel_rfl) rfl ?_
              refine OI_cell 3 (.tmp 9) 0 (.int .i64 ((k : Nat) : Int)) (some 92) (by kernel_rfl) (by kernel_rfl) jb80 (m := 1) (by kernel_rfl) rfl ?_
              refine OI_static 11 [(4, .pointer (some ⟨b3, 0, none⟩)), (95, .bool (decide (((k1 : Nat) : Int) = ((k : Nat) : Int))))] (by kernel_rfl) ?_
              refine OI_eq [(4, .pointer (some ⟨b3, 0, none⟩)), (95, .bool true)] (by rw [decide_eq_true (by first | omega | (split <;> omega))]) ?_
              refine OI_call { callee := (Callee.value (Operand.func 14)), args := #[], argTypes := #[] } 14 #[] (some 96) (by kernel_rfl) (by kernel_rfl) (by kernel_rfl) (known_spec _) ?_
              rintro _ w157 ⟨rfl, hk158⟩
              refine ⟨_, rfl, ?_⟩
              have hsz159 := Keep.size hk158
              replace jb1 := jb1.keep hk158 (fun f => f)
              have hb1lt := jb1.lt
              replace jb3 := jb3.keep hk158 (fun f => f)
              have hb3lt := jb3.lt
              replace jbg70 := jbg70.keep hk158 (fun f => f)
              have hbg70lt := jbg70.lt
              replace jbs71 := jbs71.keep hk158 (fun f => f)
              have hbs71lt := jbs71.lt
              replace jbn72 := jbn72.keep hk158 (fun f => f)
              have hbn72lt := jbn72.lt
              replace jbg76 := jbg76.keep hk158 (fun f => f)
              have hbg76lt := jbg76.lt
              replace jbs77 := jbs77.keep hk158 (fun f => f)
              have hbs77lt := jbs77.lt
              replace jbn78 := jbn78.keep hk158 (fun f => f)
              have hbn78lt := jbn78.lt
              replace jb80 := jb80.keep hk158 (fun f => f)
              have hb80lt := jb80.lt
              replace jb82 := jb82.keep hk158 (fun f => f)
              have hb82lt := jb82.lt
              replace jg28 := jg28.keep hk158 (fun f => f)
              have hg28lt := jg28.lt
              replace jA94 := SlT.keep0 jA94 hk158
              replace jjhK0 := Keep.tr jjhK0 (Keep.ofNone hk158); have hzjjhK0 := Keep.size jjhK0
              replace jhDD := (Keep.block hk158 _ (Array.getElem?_eq_some_iff.1 jhDD).1 (fun f => f)).trans jhDD
              replace hDD1 := (Keep.block hk158 _ (Array.getElem?_eq_some_iff.1 hDD1).1 (fun f => f)).trans hDD1
              refine OI_static 13 [(4, .pointer (some ⟨b3, 0, none⟩)), (97, .bool true)] (by kernel_rfl) ?_
              refine OI_set (m := 1) (kd := false) 4 (.tmp 4) (.tmp 97) 0 (.bool true) [.bool true] none (by kernel_rfl) (by kernel_rfl) (by kernel_rfl) jb3 (by kernel_rfl) (by kernel_rfl) (by kernel_rfl) (Nat.le_of_ble_eq_true (by kernel_rfl)) (by simp [Value.oneCell']) ?_
              intro w160 hb3_163 hk161 hz162
              replace hb3_163 : Blk w160 b3 [.bool true] 4 := hb3_163
              have hsz164 := Keep.size hk161
              replace jb1 := jb1.keep hk161 (by show ¬ (_ = _); omega)
              have hb1lt := jb1.lt
              replace jbg70 := jbg70.keep hk161 (by show ¬ (_ = _); omega)
              have hbg70lt := jbg70.lt
              replace jbs71 := jbs71.keep hk161 (by show ¬ (_ = _); omega)
              have hbs71lt := jbs71.lt
              replace jbn72 := jbn72.keep hk161 (by show ¬ (_ = _); omega)
              have hbn72lt := jbn72.lt
              replace jbg76 := jbg76.keep hk161 (by show ¬ (_ = _); omega)
              have hbg76lt := jbg76.lt
              replace jbs77 := jbs77.keep hk161 (by show ¬ (_ = _); omega)
              have hbs77lt := jbs77.lt
              replace jbn78 := jbn78.keep hk161 (by show ¬ (_ = _); omega)
              have hbn78lt := jbn78.lt
              replace jb80 := jb80.keep hk161 (by show ¬ (_ = _); omega)
              have hb80lt := jb80.lt
              replace jb82 := jb82.keep hk161 (by show ¬ (_ = _); omega)
              have hb82lt := jb82.lt
              replace jg28 := jg28.keep hk161 (by show ¬ (_ = _); omega)
              have hg28lt := jg28.lt
              replace jA94 := SlT.keep jA94 hk161 (fun q hq hs => by have hs : q = b3 := hs; have g0 := owA94 q hq; have g1 := ltjA94 q hq; omega)
              replace jjhK0 := Keep.fresh jjhK0 hk161 (by intro i hi hs; first | exact hs | exact Or.inl hs | exact Or.inr hs | (exfalso; have hs2 : i = b3 := hs; omega)); have hzjjhK0 := Keep.size jjhK0
              replace jhDD := (Keep.block hk161 _ (Array.getElem?_eq_some_iff.1 jhDD).1 (by show ¬ (_ = _); omega)).trans jhDD
              replace hDD1 := (Keep.block hk161 _ (Array.getElem?_eq_some_iff.1 hDD1).1 (by show ¬ (_ = _); omega)).trans hDD1
              refine OI_end rfl ?_
              refine X_then ?_
              refine V_ret ?_
              exact leave2 (.bool true) (.inl rfl) (by omega) jhDD hDD1 (fun w' hk => ⟨res_cell1 (n1 := 1) rfl rfl (by kernel_rfl) (Blk.quiet hb3_163 hk) , ⟨rfl, Keep.quiet jjhK0 hk (by omega)⟩⟩)

theorem walk_GridStops_neg (a b : Int) (h : a < 0 ∨ b < 0) (w : World) : Calls Try.prog 3 #[.int .i64 a, .int .i64 b] w fun e w' => e = .returned (.bool true) ∧ Keep none_ w w' := by
  have hK0 : Keep none_ w w := Keep.refl _ _
  have hzhK0 := Keep.size hK0
  refine enterM Try.func3 rfl [.int .i64 a, .int .i64 b] 98 rfl rfl rfl ?_
  refine V_pick [(0, .int .i64 a), (1, .int .i64 b)] rfl ?_
  refine V_seq ?_
  refine V_region ?_
  refine OI_box 3 (.tmp 1) (.int .i64 b) [.int .i64 b] (some 3) (by kernel_rfl) (by kernel_rfl) (by kernel_rfl) ?_
  intro b1 w1 e1 hb1 k1 z1
  have hsz2 := Keep.size k1
  replace hK0 := Keep.tr hK0 (Keep.ofNone k1); have hzhK0 := Keep.size hK0
  have hb1lt := hb1.lt
  refine OI_alloc 4 (.bool false) [.bool false] (some 4) (by kernel_rfl) (by kernel_rfl) (by kernel_rfl) ?_
  intro b3 w3 e3 hb3 k3 z3
  have hsz4 := Keep.size k3
  replace hb1 := hb1.keep k3 (fun f => f)
  have hb1lt := hb1.lt
  replace hK0 := Keep.tr hK0 (Keep.ofNone k3); have hzhK0 := Keep.size hK0
  have hb3lt := hb3.lt
  refine OI_end rfl ?_
  refine X_then ?_
  refine V_seq ?_
  refine V_seq ?_
  refine V_region ?_
  refine OI_static 3 [(0, .int .i64 a), (3, .pointer (some ⟨b1, 0, none⟩)), (4, .pointer (some ⟨b3, 0, none⟩)), (17, .bool (decide (a < 0)))] (by kernel_rfl) ?_
  by_cases hg5 : a < 0
  · skip
    refine OI_eq [(0, .int .i64 a), (3, .pointer (some ⟨b1, 0, none⟩)), (4, .pointer (some ⟨b3, 0, none⟩)), (17, .bool true)] (by first | simp [hg5] | rfl) ?_
    refine OI_static 14 [(0, .int .i64 a), (3, .pointer (some ⟨b1, 0, none⟩)), (4, .pointer (some ⟨b3, 0, none⟩)), (28, .bool true)] (by kernel_rfl) ?_
    refine OI_end rfl ?_
    refine X_then ?_
    refine V_true rfl ?_
    refine V_seq ?_
    refine V_region ?_
    refine OI_set (m := 1) (kd := false) 4 (.tmp 4) (.const (Value.bool true)) 0 (.bool true) [.bool true] none (by kernel_rfl) (by kernel_rfl) (by kernel_rfl) hb3 (by kernel_rfl) (by kernel_rfl) (by kernel_rfl) (Nat.le_of_ble_eq_true (by kernel_rfl)) (by simp [Value.oneCell']) ?_
    intro w6 hb3_9 hk7 hz8
    replace hb3_9 : Blk w6 b3 [.bool true] 4 := hb3_9
    have hsz10 := Keep.size hk7
    replace hb1 := hb1.keep hk7 (by show ¬ (_ = _); omega)
    have hb1lt := hb1.lt
    replace hK0 := Keep.fresh hK0 hk7 (by intro i hi hs; first | exact hs | exact Or.inl hs | exact Or.inr hs | (exfalso; have hs2 : i = b3 := hs; omega)); have hzhK0 := Keep.size hK0
    refine OI_end rfl ?_
    refine X_then ?_
    refine V_ret ?_
    refine X_ret_then ?_
    exact leave0 (.bool true) (.inl rfl) (res_cell1 (n1 := 1) rfl rfl (by kernel_rfl) hb3_9 ) (⟨rfl, hK0⟩)
  · skip
    refine OI_eq [(0, .int .i64 a), (3, .pointer (some ⟨b1, 0, none⟩)), (4, .pointer (some ⟨b3, 0, none⟩)), (17, .bool false)] (by first | simp [hg5] | rfl) ?_
    refine OI_static 7 [(0, .int .i64 a), (3, .pointer (some ⟨b1, 0, none⟩)), (4, .pointer (some ⟨b3, 0, none⟩)), (21, .bool (decide (a > 60)))] (by kernel_rfl) ?_
    by_cases hg11 : a > 60
    · skip
      refine OI_eq [(0, .int .i64 a), (3, .pointer (some ⟨b1, 0, none⟩)), (4, .pointer (some ⟨b3, 0, none⟩)), (21, .bool true)] (by first | simp [hg11] | rfl) ?_
      refine OI_static 14 [(0, .int .i64 a), (3, .pointer (some ⟨b1, 0, none⟩)), (4, .pointer (some ⟨b3, 0, none⟩)), (28, .bool true)] (by kernel_rfl) ?_
      refine OI_end rfl ?_
      refine X_then ?_
      refine V_true rfl ?_
      refine V_seq ?_
      refine V_region ?_
      refine OI_set (m := 1) (kd := false) 4 (.tmp 4) (.const (Value.bool true)) 0 (.bool true) [.bool true] none (by kernel_rfl) (by kernel_rfl) (by kernel_rfl) hb3 (by kernel_rfl) (by kernel_rfl) (by kernel_rfl) (Nat.le_of_ble_eq_true (by kernel_rfl)) (by simp [Value.oneCell']) ?_
      intro w12 hb3_15 hk13 hz14
      replace hb3_15 : Blk w12 b3 [.bool true] 4 := hb3_15
      have hsz16 := Keep.size hk13
      replace hb1 := hb1.keep hk13 (by show ¬ (_ = _); omega)
      have hb1lt := hb1.lt
      replace hK0 := Keep.fresh hK0 hk13 (by intro i hi hs; first | exact hs | exact Or.inl hs | exact Or.inr hs | (exfalso; have hs2 : i = b3 := hs; omega)); have hzhK0 := Keep.size hK0
      refine OI_end rfl ?_
      refine X_then ?_
      refine V_ret ?_
      refine X_ret_then ?_
      exact leave0 (.bool true) (.inl rfl) (res_cell1 (n1 := 1) rfl rfl (by kernel_rfl) hb3_15 ) (⟨rfl, hK0⟩)
    · skip
      refine OI_eq [(0, .int .i64 a), (3, .pointer (some ⟨b1, 0, none⟩)), (4, .pointer (some ⟨b3, 0, none⟩)), (21, .bool false)] (by first | simp [hg11] | rfl) ?_
      refine OI_cell 3 (.tmp 3) 0 (.int .i64 b) (some 22) (by kernel_rfl) (by kernel_rfl) hb1 (m := 1) (by kernel_rfl) rfl ?_
      refine OI_static 11 [(0, .int .i64 a), (3, .pointer (some ⟨b1, 0, none⟩)), (4, .pointer (some ⟨b3, 0, none⟩)), (25, .bool (decide (b < 1)))] (by kernel_rfl) ?_
      by_cases hg17 : b < 1
      · skip
        refine OI_eq [(0, .int .i64 a), (3, .pointer (some ⟨b1, 0, none⟩)), (4, .pointer (some ⟨b3, 0, none⟩)), (25, .bool true)] (by first | simp [hg17] | rfl) ?_
        refine OI_static 14 [(0, .int .i64 a), (3, .pointer (some ⟨b1, 0, none⟩)), (4, .pointer (some ⟨b3, 0, none⟩)), (28, .bool true)] (by kernel_rfl) ?_
        refine OI_end rfl ?_
        refine X_then ?_
        refine V_true rfl ?_
        refine V_seq ?_
        refine V_region ?_
        refine OI_set (m := 1) (kd := false) 4 (.tmp 4) (.const (Value.bool true)) 0 (.bool true) [.bool true] none (by kernel_rfl) (by kernel_rfl) (by kernel_rfl) hb3 (by kernel_rfl) (by kernel_rfl) (by kernel_rfl) (Nat.le_of_ble_eq_true (by kernel_rfl)) (by simp [Value.oneCell']) ?_
        intro w18 hb3_21 hk19 hz20
        replace hb3_21 : Blk w18 b3 [.bool true] 4 := hb3_21
        have hsz22 := Keep.size hk19
        replace hb1 := hb1.keep hk19 (by show ¬ (_ = _); omega)
        have hb1lt := hb1.lt
        replace hK0 := Keep.fresh hK0 hk19 (by intro i hi hs; first | exact hs | exact Or.inl hs | exact Or.inr hs | (exfalso; have hs2 : i = b3 := hs; omega)); have hzhK0 := Keep.size hK0
        refine OI_end rfl ?_
        refine X_then ?_
        refine V_ret ?_
        refine X_ret_then ?_
        exact leave0 (.bool true) (.inl rfl) (res_cell1 (n1 := 1) rfl rfl (by kernel_rfl) hb3_21 ) (⟨rfl, hK0⟩)
      · skip
        exact (by omega : False).elim

theorem said_GridStops (a b : Int) (w : World) : Calls Try.prog 3 #[.int .i64 a, .int .i64 b] w fun e w' => e = .returned (.bool true) ∧ Keep none_ w w' := by
  by_cases h : a < 0 ∨ b < 0
  · exact walk_GridStops_neg a b h w
  · obtain ⟨n, rfl⟩ : ∃ x : Nat, a = x := ⟨a.toNat, by omega⟩
    obtain ⟨m, rfl⟩ : ∃ x : Nat, b = x := ⟨b.toNat, by omega⟩
    exact walk_GridStops n m w
end Go.Al
