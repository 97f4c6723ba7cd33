/-
  Walks of the laws of grid: ways that are left.
-/
import Derived.Test.YtijhhcnahepdlaaGr10
namespace Go.Al
open Go Go.RowKit Go.Proofs
/-! ### Ways that are left -/
def stp : Nat → List Ci
  | 0 => []
  | i + 1 => setC (i : Int) 3 (i : Int) (setC 3 (i : Int) (i : Int) (stp i))
def diag (n : Nat) : List (Int × Int) := (List.range n).map fun k : Nat => ((k : Int), (k : Int))
theorem diag_len (n : Nat) : (diag n).length = n := by simp [diag]
theorem diag_at {n k : Nat} (h : k < n) : (diag n)[k]? = some ((k : Int), (k : Int)) := by simp [diag, h]
def stpOk : Bool := (List.range 61).all fun n => decide (rowL 3 (stp n) = diag n) && decide (colL 3 (stp n) = diag n) && decide ((stp n).length ≤ 200) && decide ((setC 3 (n : Int) (n : Int) (stp n)).length ≤ 200)
theorem stp_all : stpOk = true := by kernel_rfl
theorem stp_ok {n : Nat} (h : n ≤ 60) : rowL 3 (stp n) = diag n ∧ colL 3 (stp n) = diag n ∧ (stp n).length ≤ 200 ∧ (setC 3 (n : Int) (n : Int) (stp n)).length ≤ 200 := by
  have h1 := List.all_eq_true.1 stp_all n (List.mem_range.2 (by omega))
  simp only [Bool.and_eq_true, decide_eq_true_eq] at h1
  exact ⟨h1.1.1.1, h1.1.1.2, h1.1.2, h1.2⟩

set_option maxHeartbeats 2000000 in
theorem walk_GridStops (n stop : Nat) (w : World) : Calls Try.prog 3 #[.int .i64 (n : Int), .int .i64 (stop : Int)] w fun e w' => e = .returned (.bool true) ∧ Keep none_ w w' := by
  have hK0 : Keep none_ w w := Keep.refl _ _
  have hzhK0 := Keep.size hK0
  refine enterM Try.func3 rfl [.int .i64 ((n : Nat) : Int), .int .i64 ((stop : Nat) : Int)] 98 rfl rfl rfl ?_
  refine V_pick [(0, .int .i64 ((n : Nat) : Int)), (1, .int .i64 ((stop : Nat) : Int))] rfl ?_
  refine V_seq ?_
  refine V_region ?_
  refine OI_box 3 (.tmp 1) (.int .i64 ((stop : Nat) : Int)) [.int .i64 ((stop : Nat) : Int)] (some 3) (by kernel_rfl) (by kernel_rfl) (by kernel_rfl) ?_
  intro b1 w1 e1 hb1 k1 z1
  replace hK0 := Keep.tr hK0 (Keep.ofNone k1); have hzhK0 := Keep.size hK0
  have hb1lt := hb1.lt
  refine OI_alloc 4 (.bool false) [.bool false] (some 4) (by kernel_rfl) (by kernel_rfl) (by kernel_rfl) ?_
  intro b2 w2 e2 hb2 k2 z2
  replace hb1 := hb1.keep k2 (fun f => f)
  have hb1lt := hb1.lt
  replace hK0 := Keep.tr hK0 (Keep.ofNone k2); have hzhK0 := Keep.size hK0
  have hb2lt := hb2.lt
  refine OI_end rfl ?_
  refine X_then ?_
  refine V_seq ?_
  refine V_seq ?_
  refine V_region ?_
  refine OI_static 3 [(0, .int .i64 ((n : Nat) : Int)), (3, .pointer (some ⟨b1, 0, none⟩)), (4, .pointer (some ⟨b2, 0, none⟩)), (17, .bool (decide (((n : Nat) : Int) < 0)))] (by kernel_rfl) ?_
  refine OI_eq [(0, .int .i64 ((n : Nat) : Int)), (3, .pointer (some ⟨b1, 0, none⟩)), (4, .pointer (some ⟨b2, 0, none⟩)), (17, .bool false)] (by rw [decide_eq_false (by omega : ¬ ((n : Nat) : Int) < 0)]) ?_
  refine OI_static 7 [(0, .int .i64 ((n : Nat) : Int)), (3, .pointer (some ⟨b1, 0, none⟩)), (4, .pointer (some ⟨b2, 0, none⟩)), (21, .bool (decide (((n : Nat) : Int) > 60)))] (by kernel_rfl) ?_
  by_cases hg4 : ((n : Nat) : Int) > 60
  · skip
    refine OI_eq [(0, .int .i64 ((n : Nat) : Int)), (3, .pointer (some ⟨b1, 0, none⟩)), (4, .pointer (some ⟨b2, 0, none⟩)), (21, .bool true)] (by simp [hg4]) ?_
    refine OI_static 14 [(0, .int .i64 ((n : Nat) : Int)), (3, .pointer (some ⟨b1, 0, none⟩)), (4, .pointer (some ⟨b2, 0, none⟩)), (28, .bool true)] (by kernel_rfl) ?_
    refine OI_end rfl ?_
    refine X_then ?_
    refine V_true rfl ?_
    refine V_seq ?_
    refine V_region ?_
    refine OI_set (m := 1) (kd := false) 4 (.tmp 4) (.const (Value.bool true)) 0 (.bool true) [.bool true] none (by kernel_rfl) (by kernel_rfl) (by kernel_rfl) hb2 (by kernel_rfl) (by kernel_rfl) (by kernel_rfl) (Nat.le_of_ble_eq_true (by kernel_rfl)) (by simp [Value.oneCell']) ?_
    intro w5 hb2_8 hk6 hz7
    replace hb2_8 : Blk w5 b2 [.bool true] 4 := hb2_8
    replace hb1 := hb1.keep hk6 (by show ¬ (_ = _); omega)
    have hb1lt := hb1.lt
    replace hK0 := Keep.fresh hK0 hk6 (by intro i hi hs; first | exact hs | exact Or.inl hs | exact Or.inr hs | (exfalso; have hs2 : i = b2 := hs; omega)); have hzhK0 := Keep.size hK0
    refine OI_end rfl ?_
    refine X_then ?_
    refine V_ret ?_
    refine X_ret_then ?_
    exact leave0 (.bool true) (.inl rfl) (res_cell1 (n1 := 1) rfl rfl (by kernel_rfl) hb2_8 ) (⟨rfl, hK0⟩)
  · skip
    refine OI_eq [(0, .int .i64 ((n : Nat) : Int)), (3, .pointer (some ⟨b1, 0, none⟩)), (4, .pointer (some ⟨b2, 0, none⟩)), (21, .bool false)] (by simp [hg4]) ?_
    refine OI_cell 3 (.tmp 3) 0 (.int .i64 ((stop : Nat) : Int)) (some 22) (by kernel_rfl) (by kernel_rfl) hb1 (m := 1) (by kernel_rfl) rfl ?_
    refine OI_static 11 [(0, .int .i64 ((n : Nat) : Int)), (3, .pointer (some ⟨b1, 0, none⟩)), (4, .pointer (some ⟨b2, 0, none⟩)), (25, .bool (decide (((stop : Nat) : Int) < 1)))] (by kernel_rfl) ?_
    by_cases hg9 : ((stop : Nat) : Int) < 1
    · skip
      refine OI_eq [(0, .int .i64 ((n : Nat) : Int)), (3, .pointer (some ⟨b1, 0, none⟩)), (4, .pointer (some ⟨b2, 0, none⟩)), (25, .bool true)] (by simp [hg9]) ?_
      refine OI_static 14 [(0, .int .i64 ((n : Nat) : Int)), (3, .pointer (some ⟨b1, 0, none⟩)), (4, .pointer (some ⟨b2, 0, none⟩)), (28, .bool true)] (by kernel_rfl) ?_
      refine OI_end rfl ?_
      refine X_then ?_
      refine V_true rfl ?_
      refine V_seq ?_
      refine V_region ?_
      refine OI_set (m := 1) (kd := false) 4 (.tmp 4) (.const (Value.bool true)) 0 (.bool true) [.bool true] none (by kernel_rfl) (by kernel_rfl) (by kernel_rfl) hb2 (by kernel_rfl) (by kernel_rfl) (by kernel_rfl) (Nat.le_of_ble_eq_true (by kernel_rfl)) (by simp [Value.oneCell']) ?_
      intro w10 hb2_13 hk11 hz12
      replace hb2_13 : Blk w10 b2 [.bool true] 4 := hb2_13
      replace hb1 := hb1.keep hk11 (by show ¬ (_ = _); omega)
      have hb1lt := hb1.lt
      replace hK0 := Keep.fresh hK0 hk11 (by intro i hi hs; first | exact hs | exact Or.inl hs | exact Or.inr hs | (exfalso; have hs2 : i = b2 := hs; omega)); have hzhK0 := Keep.size hK0
      refine OI_end rfl ?_
      refine X_then ?_
      refine V_ret ?_
      refine X_ret_then ?_
      exact leave0 (.bool true) (.inl rfl) (res_cell1 (n1 := 1) rfl rfl (by kernel_rfl) hb2_13 ) (⟨rfl, hK0⟩)
    · skip
      refine OI_eq [(0, .int .i64 ((n : Nat) : Int)), (3, .pointer (some ⟨b1, 0, none⟩)), (4, .pointer (some ⟨b2, 0, none⟩)), (25, .bool false)] (by simp [hg9]) ?_
      refine OI_cell 3 (.tmp 3) 0 (.int .i64 ((stop : Nat) : Int)) (some 26) (by kernel_rfl) (by kernel_rfl) hb1 (m := 1) (by kernel_rfl) rfl ?_
      refine OI_static 14 [(0, .int .i64 ((n : Nat) : Int)), (3, .pointer (some ⟨b1, 0, none⟩)), (4, .pointer (some ⟨b2, 0, none⟩)), (28, .bool (decide (((stop : Nat) : Int) > 70)))] (by kernel_rfl) ?_
      refine OI_end rfl ?_
      refine X_then ?_
      refine V_if (((stop : Nat) : Int) > 70) (by kernel_rfl) (fun hc14 => ?_) (fun hc14 => ?_)
      · skip
        refine V_seq ?_
        refine V_region ?_
        refine OI_set (m := 1) (kd := false) 4 (.tmp 4) (.const (Value.bool true)) 0 (.bool true) [.bool true] none (by kernel_rfl) (by kernel_rfl) (by kernel_rfl) hb2 (by kernel_rfl) (by kernel_rfl) (by kernel_rfl) (Nat.le_of_ble_eq_true (by kernel_rfl)) (by simp [Value.oneCell']) ?_
        intro w15 hb2_18 hk16 hz17
        replace hb2_18 : Blk w15 b2 [.bool true] 4 := hb2_18
        replace hb1 := hb1.keep hk16 (by show ¬ (_ = _); omega)
        have hb1lt := hb1.lt
        replace hK0 := Keep.fresh hK0 hk16 (by intro i hi hs; first | exact hs | exact Or.inl hs | exact Or.inr hs | (exfalso; have hs2 : i = b2 := hs; omega)); have hzhK0 := Keep.size hK0
        refine OI_end rfl ?_
        refine X_then ?_
        refine V_ret ?_
        refine X_ret_then ?_
        exact leave0 (.bool true) (.inl rfl) (res_cell1 (n1 := 1) rfl rfl (by kernel_rfl) hb2_18 ) (⟨rfl, hK0⟩)
      · skip
        refine V_skip ?_
        refine X_then ?_
        refine V_seq ?_
        refine V_region ?_
        refine OI_call { callee := (Callee.value (Operand.func 10)), args := #[], argTypes := #[] } 10 #[] (some 29) (by kernel_rfl) (by kernel_rfl) (by kernel_rfl) (new_grd _) ?_
        rintro _ w21 ⟨g23, F24, rfl, ho25, hk22, hge26⟩
        refine ⟨_, rfl, ?_⟩
        replace hb1 := hb1.keep hk22 (fun f => f)
        have hb1lt := hb1.lt
        replace hb2 := hb2.keep hk22 (fun f => f)
        have hb2lt := hb2.lt
        replace hK0 := Keep.tr hK0 (Keep.ofNone hk22); have hzhK0 := Keep.size hK0
        have own27 : ∀ q, F24 q → w2.heap.size ≤ q ∧ q ≠ b1 ∧ q ≠ b2 := fun q hq => by have h1 := hge26 q hq; omega
        have lt28 := Grd.lt ho25
        have hg23lt : g23 < w21.heap.size := Grd.lt ho25 _ (Grd.at_ ho25)
        have hg23ge := hge26 _ (Grd.at_ ho25)
        refine OI_static 2 [(0, .int .i64 ((n : Nat) : Int)), (3, .pointer (some ⟨b1, 0, none⟩)), (4, .pointer (some ⟨b2, 0, none⟩)), (5, .pointer (some ⟨g23, 0, none⟩))] (by kernel_rfl) ?_
        refine OI_end rfl ?_
        refine X_then ?_
        refine V_seq ?_
        refine V_seq ?_
        refine V_region ?_
        refine OI_static 2 [(0, .int .i64 ((n : Nat) : Int)), (3, .pointer (some ⟨b1, 0, none⟩)), (4, .pointer (some ⟨b2, 0, none⟩)), (5, .pointer (some ⟨g23, 0, none⟩)), (31, .bool false)] (by kernel_rfl) ?_
        refine OI_end rfl ?_
        refine X_then ?_
        refine V_false rfl ?_
        refine V_skip ?_
        refine X_then ?_
        refine V_seq ?_
        refine V_seq ?_
        refine V_region ?_
        refine OI_static 1 [(0, .int .i64 ((n : Nat) : Int)), (3, .pointer (some ⟨b1, 0, none⟩)), (4, .pointer (some ⟨b2, 0, none⟩)), (5, .pointer (some ⟨g23, 0, none⟩)), (6, .int .i64 0)] (by kernel_rfl) ?_
        refine OI_end rfl ?_
        refine X_then ?_
        refine V_block ?_
        refine V_pick [(0, .int .i64 ((n : Nat) : Int)), (3, .pointer (some ⟨b1, 0, none⟩)), (4, .pointer (some ⟨b2, 0, none⟩)), (5, .pointer (some ⟨g23, 0, none⟩)), (6, .int .i64 0)] rfl ?_
        refine V_loop (fun k wI e => ∃ i : Nat, ∃ F29 : Nat → Prop, (k + i = n) ∧ (Grd F29 wI g23 (stp i)) ∧ (∀ q, F29 q → w2.heap.size ≤ q ∧ q ≠ b1 ∧ q ≠ b2) ∧ (∀ q, F29 q → F24 q ∨ w21.heap.size ≤ q) ∧ Keep F24 w21 wI ∧ e = [(0, .int .i64 ((n : Nat) : Int)), (3, .pointer (some ⟨b1, 0, none⟩)), (4, .pointer (some ⟨b2, 0, none⟩)), (5, .pointer (some ⟨g23, 0, none⟩)), (6, .int .i64 ((i : Nat) : Int))]) n ⟨0, F24, by omega, ho25, (fun q hq => by have h1 := own27 q hq; have h2 := lt28 q hq; omega), fun q h => .inl h, Keep.refl _ _, rfl⟩ ?_
        rintro k34 w33 _ ⟨i, F29, hki, ho30, own31, rel32, hk35, rfl⟩
        replace hb1 := hb1.keep hk35 (fun hs => by have h1 := own27 _ hs; have h2 := lt28 _ hs; omega)
        have hb1lt := hb1.lt
        replace hb2 := hb2.keep hk35 (fun hs => by have h1 := own27 _ hs; have h2 := lt28 _ hs; omega)
        have hb2lt := hb2.lt
        replace hK0 := Keep.fresh hK0 hk35 (by intro i hi hs; have h1 := own27 i hs; have h2 := lt28 i hs; omega); have hzhK0 := Keep.size hK0
        have hzhk35 := Keep.size hk35
        have lt36 := Grd.lt ho30
        have hg23lt : g23 < w33.heap.size := Grd.lt ho30 _ (Grd.at_ ho30)
        have hst := stp_ok (n := i) (by omega)
        refine V_seq ?_
        refine V_seq ?_
        refine V_region ?_
        refine OI_static 3 [(0, .int .i64 ((n : Nat) : Int)), (3, .pointer (some ⟨b1, 0, none⟩)), (4, .pointer (some ⟨b2, 0, none⟩)), (5, .pointer (some ⟨g23, 0, none⟩)), (6, .int .i64 ((i : Nat) : Int)), (34, .bool (decide (((i : Nat) : Int) < ((n : Nat) : Int))))] (by kernel_rfl) ?_
        refine OI_end rfl ?_
        refine X_then ?_
        refine V_if (((i : Nat) : Int) < ((n : Nat) : Int)) (by kernel_rfl) (fun hc37 => ?_) (fun hc37 => ?_)
        · skip
          refine V_skip ?_
          refine X_then ?_
          refine V_seq ?_
          refine V_block ?_
          refine V_seq ?_
          refine V_region ?_
          refine OI_static 3 [(0, .int .i64 ((n : Nat) : Int)), (3, .pointer (some ⟨b1, 0, none⟩)), (4, .pointer (some ⟨b2, 0, none⟩)), (5, .pointer (some ⟨g23, 0, none⟩)), (6, .int .i64 ((i : Nat) : Int)), (37, .pointer (some ⟨g23, 0, none⟩)), (38, .int .i64 ((i : Nat) : Int)), (39, .int .i64 ((i : Nat) : Int))] (by kernel_rfl) ?_
          refine OI_call { callee := (Callee.value (Operand.func 11)), args := #[(Operand.tmp 37), (Operand.const (Value.int IntKind.i64 3)), (Operand.tmp 38), (Operand.tmp 39)], argTypes := #[22, 3, 3, 3] } 11 #[.pointer (some ⟨g23, 0, none⟩), .int .i64 3, .int .i64 ((i : Nat) : Int), .int .i64 ((i : Nat) : Int)] (some 40) (by kernel_rfl) (by kernel_rfl) (by kernel_rfl) (set_grd F29 g23 (stp i) 3 ((i : Nat) : Int) ((i : Nat) : Int) _ ho30 (by omega)) ?_
          rintro _ w40 ⟨rfl, ⟨F42, ho43, hfr44⟩, hk41⟩
          refine ⟨_, rfl, ?_⟩
          replace hb1 := hb1.keep hk41 (fun hs => by have h1 := own31 _ hs; have h2 := lt36 _ hs; omega)
          have hb1lt := hb1.lt
          replace hb2 := hb2.keep hk41 (fun hs => by have h1 := own31 _ hs; have h2 := lt36 _ hs; omega)
          have hb2lt := hb2.lt
          replace hK0 := Keep.fresh hK0 hk41 (by intro i hi hs; first | exact hs | (exfalso; have h1 := own31 i hs; have h2 := lt36 i hs; omega) | (have h1 := own31 i hs; have h2 := lt36 i hs; show _ ∨ _; omega)); have hzhK0 := Keep.size hK0
          replace hk35 := Keep.fresh hk35 hk41 (fun i hi hs => by rcases rel32 i hs with h | h; exact h; (exfalso; omega)); have hzhk35 := Keep.size hk35
          have own45 : ∀ q, F42 q → w2.heap.size ≤ q ∧ q ≠ b1 ∧ q ≠ b2 := fun q hq => by rcases hfr44 q hq with h | h; (have h1 := own31 q h; have h2 := lt36 q h; omega); omega
          have lt46 := Grd.lt ho43
          have rel47 : ∀ q, F42 q → F24 q ∨ w21.heap.size ≤ q := fun q hq => by rcases hfr44 q hq with h | h; exact rel32 q h; exact .inr (by omega)
          refine OI_end rfl ?_
          refine X_then ?_
          refine V_region ?_
          refine OI_static 3 [(0, .int .i64 ((n : Nat) : Int)), (3, .pointer (some ⟨b1, 0, none⟩)), (4, .pointer (some ⟨b2, 0, none⟩)), (5, .pointer (some ⟨g23, 0, none⟩)), (6, .int .i64 ((i : Nat) : Int)), (41, .pointer (some ⟨g23, 0, none⟩)), (42, .int .i64 ((i : Nat) : Int)), (43, .int .i64 ((i : Nat) : Int))] (by kernel_rfl) ?_
          refine OI_call { callee := (Callee.value (Operand.func 11)), args := #[(Operand.tmp 41), (Operand.tmp 42), (Operand.const (Value.int IntKind.i64 3)), (Operand.tmp 43)], argTypes := #[22, 3, 3, 3] } 11 #[.pointer (some ⟨g23, 0, none⟩), .int .i64 ((i : Nat) : Int), .int .i64 3, .int .i64 ((i : Nat) : Int)] (some 44) (by kernel_rfl) (by kernel_rfl) (by kernel_rfl) (set_grd F42 g23 (setC 3 ((i : Nat) : Int) ((i : Nat) : Int) (stp i)) ((i : Nat) : Int) 3 ((i : Nat) : Int) _ ho43 (by omega)) ?_
          rintro _ w50 ⟨rfl, ⟨F52, ho53, hfr54⟩, hk51⟩
          refine ⟨_, rfl, ?_⟩
          replace hb1 := hb1.keep hk51 (fun hs => by have h1 := own45 _ hs; have h2 := lt46 _ hs; omega)
          have hb1lt := hb1.lt
          replace hb2 := hb2.keep hk51 (fun hs => by have h1 := own45 _ hs; have h2 := lt46 _ hs; omega)
          have hb2lt := hb2.lt
          replace hK0 := Keep.fresh hK0 hk51 (by intro i hi hs; first | exact hs | (exfalso; have h1 := own45 i hs; have h2 := lt46 i hs; omega) | (have h1 := own45 i hs; have h2 := lt46 i hs; show _ ∨ _; omega)); have hzhK0 := Keep.size hK0
          replace hk35 := Keep.fresh hk35 hk51 (fun i hi hs => by rcases rel47 i hs with h | h; exact h; (exfalso; omega)); have hzhk35 := Keep.size hk35
          have own55 : ∀ q, F52 q → w2.heap.size ≤ q ∧ q ≠ b1 ∧ q ≠ b2 := fun q hq => by rcases hfr54 q hq with h | h; (have h1 := own45 q h; have h2 := lt46 q h; omega); omega
          have lt56 := Grd.lt ho53
          have rel57 : ∀ q, F52 q → F24 q ∨ w21.heap.size ≤ q := fun q hq => by rcases hfr54 q hq with h | h; exact rel47 q h; exact .inr (by omega)
          refine OI_end rfl ?_
          refine X_block ?_
          refine X_then ?_
          refine V_region ?_
          have hw58 : IntKind.i64.wrap (((i : Nat) : Int) + 1) = ((i + 1 : Nat) : Int) := (wrap64_id (by omega) (by omega)).trans (by omega)
          refine OI_static 2 [(0, .int .i64 ((n : Nat) : Int)), (3, .pointer (some ⟨b1, 0, none⟩)), (4, .pointer (some ⟨b2, 0, none⟩)), (5, .pointer (some ⟨g23, 0, none⟩)), (36, .int .i64 (IntKind.i64.wrap (((i : Nat) : Int) + 1)))] (by kernel_rfl) ?_
          refine OI_eq [(0, .int .i64 ((n : Nat) : Int)), (3, .pointer (some ⟨b1, 0, none⟩)), (4, .pointer (some ⟨b2, 0, none⟩)), (5, .pointer (some ⟨g23, 0, none⟩)), (36, .int .i64 ((i + 1 : Nat) : Int))] (by rw [hw58]) ?_
          refine OI_static 3 [(0, .int .i64 ((n : Nat) : Int)), (3, .pointer (some ⟨b1, 0, none⟩)), (4, .pointer (some ⟨b2, 0, none⟩)), (5, .pointer (some ⟨g23, 0, none⟩)), (6, .int .i64 ((i + 1 : Nat) : Int))] (by kernel_rfl) ?_
          refine OI_end rfl ?_
          exact V_again (k34 - 1) (by omega) [(0, .int .i64 ((n : Nat) : Int)), (3, .pointer (some ⟨b1, 0, none⟩)), (4, .pointer (some ⟨b2, 0, none⟩)), (5, .pointer (some ⟨g23, 0, none⟩)), (6, .int .i64 ((i + 1 : Nat) : Int))] rfl ⟨i + 1, F52, by omega, ho53, (fun q hq => by have h1 := own55 q hq; have h2 := lt56 q hq; omega), rel57, hk35, rfl⟩
        · skip
          refine V_exit ?_
          refine X_exit_then ?_
          refine X_exit_then ?_
          refine X_exit_here ?_
          refine X_then ?_
          refine V_seq ?_
          refine V_region ?_
          refine OI_static 1 [(0, .int .i64 ((n : Nat) : Int)), (3, .pointer (some ⟨b1, 0, none⟩)), (4, .pointer (some ⟨b2, 0, none⟩)), (5, .pointer (some ⟨g23, 0, none⟩)), (45, .pointer (some ⟨g23, 0, none⟩))] (by kernel_rfl) ?_
          refine OI_call { callee := (Callee.value (Operand.func 12)), args := #[(Operand.tmp 45), (Operand.const (Value.int IntKind.i64 3))], argTypes := #[22, 3] } 12 #[.pointer (some ⟨g23, 0, none⟩), .int .i64 3] (some 46) (by kernel_rfl) (by kernel_rfl) (by kernel_rfl) (row_spec _ rfl 3 _) ?_
          rintro _ w59 ⟨bg61, bs62, bn63, rfl, hbg61, hbs62, hbn63, hk60, hgebg61, hgebs62, hgebn63⟩
          refine ⟨_, rfl, ?_⟩
          replace hb1 := hb1.keep hk60 (fun f => f)
          have hb1lt := hb1.lt
          replace hb2 := hb2.keep hk60 (fun f => f)
          have hb2lt := hb2.lt
          replace hK0 := Keep.tr hK0 (Keep.ofNone hk60); have hzhK0 := Keep.size hK0
          replace ho30 := Grd.keep ho30 hk60 (fun _ _ f => f)
          have hbg61lt := hbg61.lt
          have hbs62lt := hbs62.lt
          have hbn63lt := hbn63.lt
          refine OI_static 3 [(0, .int .i64 ((n : Nat) : Int)), (3, .pointer (some ⟨b1, 0, none⟩)), (4, .pointer (some ⟨b2, 0, none⟩)), (46, .func (.func 47) #[] #[.pointer (some ⟨bg61, 0, none⟩), .pointer (some ⟨bs62, 0, none⟩), .pointer (some ⟨bn63, 0, none⟩)]), (47, .pointer (some ⟨g23, 0, none⟩))] (by kernel_rfl) ?_
          refine OI_call { callee := (Callee.value (Operand.func 13)), args := #[(Operand.tmp 47), (Operand.const (Value.int IntKind.i64 3))], argTypes := #[22, 3] } 13 #[.pointer (some ⟨g23, 0, none⟩), .int .i64 3] (some 48) (by kernel_rfl) (by kernel_rfl) (by kernel_rfl) (column_spec _ rfl 3 _) ?_
          rintro _ w64 ⟨bg66, bs67, bn68, rfl, hbg66, hbs67, hbn68, hk65, hgebg66, hgebs67, hgebn68⟩
          refine ⟨_, rfl, ?_⟩
          replace hb1 := hb1.keep hk65 (fun f => f)
          have hb1lt := hb1.lt
          replace hb2 := hb2.keep hk65 (fun f => f)
          have hb2lt := hb2.lt
          replace hbg61 := hbg61.keep hk65 (fun f => f)
          have hbg61lt := hbg61.lt
          replace hbs62 := hbs62.keep hk65 (fun f => f)
          have hbs62lt := hbs62.lt
          replace hbn63 := hbn63.keep hk65 (fun f => f)
          have hbn63lt := hbn63.lt
          replace hK0 := Keep.tr hK0 (Keep.ofNone hk65); have hzhK0 := Keep.size hK0
          replace ho30 := Grd.keep ho30 hk65 (fun _ _ f => f)
          have hbg66lt := hbg66.lt
          have hbs67lt := hbs67.lt
          have hbn68lt := hbn68.lt
          refine OI_static 6 [(0, .int .i64 ((n : Nat) : Int)), (3, .pointer (some ⟨b1, 0, none⟩)), (4, .pointer (some ⟨b2, 0, none⟩)), (7, .func (.func 47) #[] #[.pointer (some ⟨bg61, 0, none⟩), .pointer (some ⟨bs62, 0, none⟩), .pointer (some ⟨bn63, 0, none⟩)]), (8, .func (.func 47) #[] #[.pointer (some ⟨bg66, 0, none⟩), .pointer (some ⟨bs67, 0, none⟩), .pointer (some ⟨bn68, 0, none⟩)])] (by kernel_rfl) ?_
          refine OI_end rfl ?_
          refine X_then ?_
          refine V_seq ?_
          refine V_seq ?_
          refine V_region ?_
          refine OI_static 6 [(0, .int .i64 ((n : Nat) : Int)), (3, .pointer (some ⟨b1, 0, none⟩)), (4, .pointer (some ⟨b2, 0, none⟩)), (7, .func (.func 47) #[] #[.pointer (some ⟨bg61, 0, none⟩), .pointer (some ⟨bs62, 0, none⟩), .pointer (some ⟨bn63, 0, none⟩)]), (8, .func (.func 47) #[] #[.pointer (some ⟨bg66, 0, none⟩), .pointer (some ⟨bs67, 0, none⟩), .pointer (some ⟨bn68, 0, none⟩)]), (54, .bool false)] (by kernel_rfl) ?_
          refine OI_end rfl ?_
          refine X_then ?_
          refine V_false rfl ?_
          refine V_skip ?_
          refine X_then ?_
          refine V_seq ?_
          refine V_region ?_
          refine OI_alloc 3 (.int .i64 0) [.int .i64 0] (some 9) (by kernel_rfl) (by kernel_rfl) (by kernel_rfl) ?_
          intro b69 w69 e69 hb69 k69 z69
          replace hb1 := hb1.keep k69 (fun f => f)
          have hb1lt := hb1.lt
          replace hb2 := hb2.keep k69 (fun f => f)
          have hb2lt := hb2.lt
          replace hbg61 := hbg61.keep k69 (fun f => f)
          have hbg61lt := hbg61.lt
          replace hbs62 := hbs62.keep k69 (fun f => f)
          have hbs62lt := hbs62.lt
          replace hbn63 := hbn63.keep k69 (fun f => f)
          have hbn63lt := hbn63.lt
          replace hbg66 := hbg66.keep k69 (fun f => f)
          have hbg66lt := hbg66.lt
          replace hbs67 := hbs67.keep k69 (fun f => f)
          have hbs67lt := hbs67.lt
          replace hbn68 := hbn68.keep k69 (fun f => f)
          have hbn68lt := hbn68.lt
          replace hK0 := Keep.tr hK0 (Keep.ofNone k69); have hzhK0 := Keep.size hK0
          replace ho30 := Grd.keep ho30 k69 (fun _ _ f => f)
          have hb69lt := hb69.lt
          refine OI_alloc 3 (.int .i64 0) [.int .i64 0] (some 10) (by kernel_rfl) (by kernel_rfl) (by kernel_rfl) ?_
          intro b70 w70 e70 hb70 k70 z70
          replace hb1 := hb1.keep k70 (fun f => f)
          have hb1lt := hb1.lt
          replace hb2 := hb2.keep k70 (fun f => f)
          have hb2lt := hb2.lt
          replace hbg61 := hbg61.keep k70 (fun f => f)
          have hbg61lt := hbg61.lt
          replace hbs62 := hbs62.keep k70 (fun f => f)
          have hbs62lt := hbs62.lt
          replace hbn63 := hbn63.keep k70 (fun f => f)
          have hbn63lt := hbn63.lt
          replace hbg66 := hbg66.keep k70 (fun f => f)
          have hbg66lt := hbg66.lt
          replace hbs67 := hbs67.keep k70 (fun f => f)
          have hbs67lt := hbs67.lt
          replace hbn68 := hbn68.keep k70 (fun f => f)
          have hbn68lt := hbn68.lt
          replace hb69 := hb69.keep k70 (fun f => f)
          have hb69lt := hb69.lt
          replace hK0 := Keep.tr hK0 (Keep.ofNone k70); have hzhK0 := Keep.size hK0
          replace ho30 := Grd.keep ho30 k70 (fun _ _ f => f)
          have hb70lt := hb70.lt
          refine OI_set (m := 1) (kd := false) 3 (.tmp 9) (.const (Value.int IntKind.i64 0)) 0 (.int .i64 0) [.int .i64 0] none (by kernel_rfl) (by kernel_rfl) (by kernel_rfl) hb69 (by kernel_rfl) (by kernel_rfl) (by kernel_rfl) (Nat.le_of_ble_eq_true (by kernel_rfl)) (by simp [Value.oneCell']) ?_
          intro w71 hb69_74 hk72 hz73
          replace hb69_74 : Blk w71 b69 [.int .i64 0] 3 := hb69_74
          replace hb1 := hb1.keep hk72 (by show ¬ (_ = _); omega)
          have hb1lt := hb1.lt
          replace hb2 := hb2.keep hk72 (by show ¬ (_ = _); omega)
          have hb2lt := hb2.lt
          replace hbg61 := hbg61.keep hk72 (by show ¬ (_ = _); omega)
          have hbg61lt := hbg61.lt
          replace hbs62 := hbs62.keep hk72 (by show ¬ (_ = _); omega)
          have hbs62lt := hbs62.lt
          replace hbn63 := hbn63.keep hk72 (by show ¬ (_ = _); omega)
          have hbn63lt := hbn63.lt
          replace hbg66 := hbg66.keep hk72 (by show ¬ (_ = _); omega)
          have hbg66lt := hbg66.lt
          replace hbs67 := hbs67.keep hk72 (by show ¬ (_ = _); omega)
          have hbs67lt := hbs67.lt
          replace hbn68 := hbn68.keep hk72 (by show ¬ (_ = _); omega)
          have hbn68lt := hbn68.lt
          replace hb70 := hb70.keep hk72 (by show ¬ (_ = _); omega)
          have hb70lt := hb70.lt
          replace hK0 := Keep.fresh hK0 hk72 (by intro i hi hs; first | exact hs | exact Or.inl hs | exact Or.inr hs | (exfalso; have hs2 : i = b69 := hs; omega)); have hzhK0 := Keep.size hK0
          replace ho30 := Grd.keep ho30 hk72 (fun q hq hs => by have hs : q = b69 := hs; have g0 := own31 q hq; have g1 := lt36 q hq; omega)
          refine OI_set (m := 1) (kd := false) 3 (.tmp 10) (.const (Value.int IntKind.i64 0)) 0 (.int .i64 0) [.int .i64 0] none (by kernel_rfl) (by kernel_rfl) (by kernel_rfl) hb70 (by kernel_rfl) (by kernel_rfl) (by kernel_rfl) (Nat.le_of_ble_eq_true (by kernel_rfl)) (by simp [Value.oneCell']) ?_
          intro w75 hb70_78 hk76 hz77
          replace hb70_78 : Blk w75 b70 [.int .i64 0] 3 := hb70_78
          replace hb1 := hb1.keep hk76 (by show ¬ (_ = _); omega)
          have hb1lt := hb1.lt
          replace hb2 := hb2.keep hk76 (by show ¬ (_ = _); omega)
          have hb2lt := hb2.lt
          replace hbg61 := hbg61.keep hk76 (by show ¬ (_ = _); omega)
          have hbg61lt := hbg61.lt
          replace hbs62 := hbs62.keep hk76 (by show ¬ (_ = _); omega)
          have hbs62lt := hbs62.lt
          replace hbn63 := hbn63.keep hk76 (by show ¬ (_ = _); omega)
          have hbn63lt := hbn63.lt
          replace hbg66 := hbg66.keep hk76 (by show ¬ (_ = _); omega)
          have hbg66lt := hbg66.lt
          replace hbs67 := hbs67.keep hk76 (by show ¬ (_ = _); omega)
          have hbs67lt := hbs67.lt
          replace hbn68 := hbn68.keep hk76 (by show ¬ (_ = _); omega)
          have hbn68lt := hbn68.lt
          replace hb69_74 := hb69_74.keep hk76 (by show ¬ (_ = _); omega)
          have hb69lt := hb69_74.lt
          replace hK0 := Keep.fresh hK0 hk76 (by intro i hi hs; first | exact hs | exact Or.inl hs | exact Or.inr hs | (exfalso; have hs2 : i = b70 := hs; omega)); have hzhK0 := Keep.size hK0
          replace ho30 := Grd.keep ho30 hk76 (fun q hq hs => by have hs : q = b70 := hs; have g0 := own31 q hq; have g1 := lt36 q hq; omega)
          refine OI_end rfl ?_
          refine X_then ?_
          refine V_seq ?_
          refine V_seq ?_
          refine V_region ?_
          refine OI_static 1 [(0, .int .i64 ((n : Nat) : Int)), (3, .pointer (some ⟨b1, 0, none⟩)), (4, .pointer (some ⟨b2, 0, none⟩)), (8, .func (.func 47) #[] #[.pointer (some ⟨bg66, 0, none⟩), .pointer (some ⟨bs67, 0, none⟩), .pointer (some ⟨bn68, 0, none⟩)]), (9, .pointer (some ⟨b69, 0, none⟩)), (10, .pointer (some ⟨b70, 0, none⟩)), (55, .func (.func 47) #[] #[.pointer (some ⟨bg61, 0, none⟩), .pointer (some ⟨bs62, 0, none⟩), .pointer (some ⟨bn63, 0, none⟩)])] (by kernel_rfl) ?_
          refine OI_end rfl ?_
          refine X_then ?_
          refine V_block ?_
          have hin : i = n := by omega
          rw [hin] at ho30
          obtain ⟨hrow, hcol, hl200, _⟩ := stp_ok (n := n) (by omega)
          obtain ⟨hs79, hlen79, hFg79, hFlt79, A79, cap79, hat79, hAF79⟩ := ho30
          have hg79 := hat79.blk
          have hA79 := hat79.sl
          have hoff79 := hat79.off
          have ltA79 := SlT.lt hA79
          have owA79 : ∀ q, inA A79 q → w2.heap.size ≤ q ∧ q ≠ b1 ∧ q ≠ b2 ∧ q ≠ bg61 ∧ q ≠ bs62 ∧ q ≠ bn63 ∧ q ≠ bg66 ∧ q ≠ bs67 ∧ q ≠ bn68 ∧ q ≠ b69 ∧ q ≠ b70 := fun q hq => by have h1 := own31 q (hAF79 q hq); have h2 := lt36 q (hAF79 q hq); omega
          have hg23lt := hg79.lt
          have hdl := diag_len n
          have hXl0 : (rowL 3 (stp n)).length = n := by rw [hrow]; exact hdl
          refine V_pick [(0, .int .i64 ((n : Nat) : Int)), (3, .pointer (some ⟨b1, 0, none⟩)), (4, .pointer (some ⟨b2, 0, none⟩)), (8, .func (.func 47) #[] #[.pointer (some ⟨bg66, 0, none⟩), .pointer (some ⟨bs67, 0, none⟩), .pointer (some ⟨bn68, 0, none⟩)]), (9, .pointer (some ⟨b69, 0, none⟩)), (10, .pointer (some ⟨b70, 0, none⟩)), (55, .func (.func 47) #[] #[.pointer (some ⟨bg61, 0, none⟩), .pointer (some ⟨bs62, 0, none⟩), .pointer (some ⟨bn63, 0, none⟩)])] rfl ?_
          have hN0 : w.heap.size ≤ w75.heap.size := hzhK0
          refine V_range2 (gf := 47) (caps := #[.pointer (some ⟨bg61, 0, none⟩), .pointer (some ⟨bs62, 0, none⟩), .pointer (some ⟨bn63, 0, none⟩)]) (m := (rowL 3 (stp n)).length) (by kernel_rfl) (by kernel_rfl) (by kernel_rfl) (along1_iter0 bg61 bs62 bn63 g23 cap79 A79 (stp n) 3 (by omega)) (⟨hbg61, ⟨hg79, hA79, hoff79⟩, ⟨hbs62, hbn63, hA79⟩⟩) (fun W W' h k => ⟨h.1.quiet k, h.2.1.quiet k, h.2.2.quiet k⟩) (enc2_size _) (fun M1 k W => (Blk W b1 [.int .i64 ((stop : Nat) : Int)] 3) ∧ (Blk W b2 [.bool false] 4) ∧ (Blk W bg61 [.pointer (some ⟨g23, 0, none⟩)] 22) ∧ (Blk W bs62 [.int .i64 0] 3) ∧ (Blk W bn63 [.int .i64 3] 3) ∧ (Blk W bg66 [.pointer (some ⟨g23, 0, none⟩)] 22) ∧ (Blk W bs67 [.int .i64 1] 3) ∧ (Blk W bn68 [.int .i64 3] 3) ∧ (Blk W b70 [.int .i64 0] 3) ∧ (Blk W g23 [.slice A79 ((stp n).length) cap79] 66) ∧ (SlT W 3 Ci.cells A79 cap79 (stp n)) ∧ (Keep none_ w W) ∧ (Blk W b69 [.int .i64 ((k : Nat) : Int)] 3) ∧ (k < stop)) (fun M1 c k W => (c = .exit 2 ∧ (Blk W b1 [.int .i64 ((stop : Nat) : Int)] 3) ∧ (Blk W b2 [.bool false] 4) ∧ (Blk W bg61 [.pointer (some ⟨g23, 0, none⟩)] 22) ∧ (Blk W bs62 [.int .i64 0] 3) ∧ (Blk W bn63 [.int .i64 3] 3) ∧ (Blk W bg66 [.pointer (some ⟨g23, 0, none⟩)] 22) ∧ (Blk W bs67 [.int .i64 1] 3) ∧ (Blk W bn68 [.int .i64 3] 3) ∧ (Blk W b70 [.int .i64 0] 3) ∧ (Blk W g23 [.slice A79 ((stp n).length) cap79] 66) ∧ (SlT W 3 Ci.cells A79 cap79 (stp n)) ∧ (Keep none_ w W) ∧ (Blk W b69 [.int .i64 ((k : Nat) : Int)] 3) ∧ (k = stop))) (fun M1 k W W' h hk => by obtain ⟨jb1, jb2, jbg61, jbs62, jbn63, jbg66, jbs67, jbn68, jb70, jg23, jA79, jhK0, jb69, hks⟩ := h; exact ⟨jb1.quiet hk, jb2.quiet hk, jbg61.quiet hk, jbs62.quiet hk, jbn63.quiet hk, jbg66.quiet hk, jbs67.quiet hk, jbn68.quiet hk, jb70.quiet hk, jg23.quiet hk, jA79.quiet hk, jhK0.quiet hk (by omega), jb69.quiet hk, hks⟩) (fun M1 c k W W' h hk => by obtain ⟨hc, jb1, jb2, jbg61, jbs62, jbn63, jbg66, jbs67, jbn68, jb70, jg23, jA79, jhK0, jb69, hke⟩ := h; exact ⟨hc, jb1.quiet hk, jb2.quiet hk, jbg61.quiet hk, jbs62.quiet hk, jbn63.quiet hk, jbg66.quiet hk, jbs67.quiet hk, jbn68.quiet hk, jb70.quiet hk, jg23.quiet hk, jA79.quiet hk, jhK0.quiet hk (by omega), jb69.quiet hk, hke⟩) (fun M1 hM1 => ⟨hb1, hb2, hbg61, hbs62, hbn63, hbg66, hbs67, hbn68, hb70_78, hg79, hA79, hK0, hb69_74, by omega⟩) (fun M1 k W h => by obtain ⟨jb1, jb2, jbg61, jbs62, jbn63, jbg66, jbs67, jbn68, jb70, jg23, jA79, jhK0, jb69, hks⟩ := h; exact ⟨jbs62, jbn63, jA79⟩) ?_ ?_ ?_
          · skip
            intro lp D M1 k W hD hl hM hMW hkm ⟨jb1, jb2, jbg61, jbs62, jbn63, jbg66, jbs67, jbn68, jb70, jg23, jA79, jhK0, jb69, hks⟩ ⟨rr, hrr⟩ hDD
            have hzjhK0 := Keep.size jhK0
            have hb1lt := jb1.lt
            have hb2lt := jb2.lt
            have hbg61lt := jbg61.lt
            have hbs62lt := jbs62.lt
            have hbn63lt := jbn63.lt
            have hbg66lt := jbg66.lt
            have hbs67lt := jbs67.lt
            have hbn68lt := jbn68.lt
            have hb69lt := jb69.lt
            have hb70lt := jb70.lt
            have hg23lt := jg23.lt
            have ltjA79 := SlT.lt jA79
            replace hkm : k < n := by omega
            rw [hrow, enc2_at (diag_at hkm)]
            refine V_pick [(3, .pointer (some ⟨b1, 0, none⟩)), (4, .pointer (some ⟨b2, 0, none⟩)), (9, .pointer (some ⟨b69, 0, none⟩)), (56, .int .i64 ((k : Nat) : Int)), (57, .int .i64 ((k : Nat) : Int))] rfl ?_
            have hfen : Keep (fen w75.heap.size M1) W W := Keep.refl _ _
            have hzhfen := Keep.size hfen
            refine V_seq ?_
            refine V_region ?_
            refine OI_static 1 [(3, .pointer (some ⟨b1, 0, none⟩)), (4, .pointer (some ⟨b2, 0, none⟩)), (9, .pointer (some ⟨b69, 0, none⟩)), (11, .int .i64 ((k : Nat) : Int)), (57, .int .i64 ((k : Nat) : Int))] (by kernel_rfl) ?_
            refine OI_end rfl ?_
            refine X_then ?_
            refine V_region ?_
            refine OI_static 1 [(3, .pointer (some ⟨b1, 0, none⟩)), (4, .pointer (some ⟨b2, 0, none⟩)), (9, .pointer (some ⟨b69, 0, none⟩)), (11, .int .i64 ((k : Nat) : Int)), (12, .int .i64 ((k : Nat) : Int))] (by kernel_rfl) ?_
            refine OI_end rfl ?_
            refine X_begin2 hfen ?_
            intro W2 hk2 ⟨r2, hr2⟩ hD2
            replace jb1 := Blk.quiet jb1 hk2
            have hb1lt := jb1.lt
            replace jb2 := Blk.quiet jb2 hk2
            have hb2lt := jb2.lt
            replace jbg61 := Blk.quiet jbg61 hk2
            have hbg61lt := jbg61.lt
            replace jbs62 := Blk.quiet jbs62 hk2
            have hbs62lt := jbs62.lt
            replace jbn63 := Blk.quiet jbn63 hk2
            have hbn63lt := jbn63.lt
            replace jbg66 := Blk.quiet jbg66 hk2
            have hbg66lt := jbg66.lt
            replace jbs67 := Blk.quiet jbs67 hk2
            have hbs67lt := jbs67.lt
            replace jbn68 := Blk.quiet jbn68 hk2
            have hbn68lt := jbn68.lt
            replace jb69 := Blk.quiet jb69 hk2
            have hb69lt := jb69.lt
            replace jb70 := Blk.quiet jb70 hk2
            have hb70lt := jb70.lt
            replace jg23 := Blk.quiet jg23 hk2
            have hg23lt := jg23.lt
            replace jA79 := SlT.quiet jA79 hk2
            replace jhK0 := Keep.quiet jhK0 hk2 (by omega); have hzjhK0 := Keep.size jhK0
            have hzhk2 := Keep.size hk2
            have hfenb : Keep (fen w75.heap.size M1) W2 W2 := Keep.refl _ _
            have hzhfenb := Keep.size hfenb
            refine V_block ?_
            refine V_seq ?_
            refine V_seq ?_
            refine V_region ?_
            refine OI_static 1 [(3, .pointer (some ⟨b1, 0, none⟩)), (4, .pointer (some ⟨b2, 0, none⟩)), (9, .pointer (some ⟨b69, 0, none⟩)), (12, .int .i64 ((k : Nat) : Int)), (58, .int .i64 ((k : Nat) : Int))] (by kernel_rfl) ?_
            refine OI_cell 3 (.tmp 9) 0 (.int .i64 ((k : Nat) : Int)) (some 59) (by kernel_rfl) (by kernel_rfl) jb69 (m := 1) (by kernel_rfl) rfl ?_
            refine OI_static 4 [(3, .pointer (some ⟨b1, 0, none⟩)), (4, .pointer (some ⟨b2, 0, none⟩)), (9, .pointer (some ⟨b69, 0, none⟩)), (12, .int .i64 ((k : Nat) : Int)), (61, .bool (!(decide (((k : Nat) : Int) = ((k : Nat) : Int)))))] (by kernel_rfl) ?_
            refine OI_eq [(3, .pointer (some ⟨b1, 0, none⟩)), (4, .pointer (some ⟨b2, 0, none⟩)), (9, .pointer (some ⟨b69, 0, none⟩)), (12, .int .i64 ((k : Nat) : Int)), (61, .bool false)] (by rw [decide_eq_true (rfl : ((k : Nat) : Int) = ((k : Nat) : Int))]; rfl) ?_
            refine OI_static 7 [(3, .pointer (some ⟨b1, 0, none⟩)), (4, .pointer (some ⟨b2, 0, none⟩)), (9, .pointer (some ⟨b69, 0, none⟩)), (64, .bool (decide (((k : Nat) : Int) < 0)))] (by kernel_rfl) ?_
            refine OI_end rfl ?_
            refine X_then ?_
            refine V_eq [(3, .pointer (some ⟨b1, 0, none⟩)), (4, .pointer (some ⟨b2, 0, none⟩)), (9, .pointer (some ⟨b69, 0, none⟩)), (64, .bool false)] (by rw [decide_eq_false (by omega : ¬ ((k : Nat) : Int) < 0)]) ?_
            refine V_false rfl ?_
            refine V_skip ?_
            refine X_then ?_
            refine V_seq ?_
            refine V_region ?_
            refine OI_cell 3 (.tmp 9) 0 (.int .i64 ((k : Nat) : Int)) (some 65) (by kernel_rfl) (by kernel_rfl) jb69 (m := 1) (by kernel_rfl) rfl ?_
            have hw82 : IntKind.i64.wrap (((k : Nat) : Int) + 1) = ((k + 1 : Nat) : Int) := (wrap64_id (by omega) (by omega)).trans (by omega)
            refine OI_static 2 [(3, .pointer (some ⟨b1, 0, none⟩)), (9, .pointer (some ⟨b69, 0, none⟩)), (66, .int .i64 (IntKind.i64.wrap (((k : Nat) : Int) + 1)))] (by kernel_rfl) ?_
            refine OI_eq [(3, .pointer (some ⟨b1, 0, none⟩)), (9, .pointer (some ⟨b69, 0, none⟩)), (66, .int .i64 ((k + 1 : Nat) : Int))] (by rw [hw82]) ?_
            refine OI_set (m := 1) (kd := false) 3 (.tmp 9) (.tmp 66) 0 (.int .i64 ((k + 1 : Nat) : Int)) [.int .i64 ((k + 1 : Nat) : Int)] none (by kernel_rfl) (by kernel_rfl) (by kernel_rfl) jb69 (by kernel_rfl) (by kernel_rfl) (by kernel_rfl) (Nat.le_of_ble_eq_true (by kernel_rfl)) (by simp [Value.oneCell']) ?_
            intro w83 hb69_86 hk84 hz85
            replace hb69_86 : Blk w83 b69 [.int .i64 ((k + 1 : Nat) : Int)] 3 := hb69_86
            replace jb1 := jb1.keep hk84 (by show ¬ (_ = _); omega)
            have hb1lt := jb1.lt
            replace jb2 := jb2.keep hk84 (by show ¬ (_ = _); omega)
            have hb2lt := jb2.lt
            replace jbg61 := jbg61.keep hk84 (by show ¬ (_ = _); omega)
            have hbg61lt := jbg61.lt
            replace jbs62 := jbs62.keep hk84 (by show ¬ (_ = _); omega)
            have hbs62lt := jbs62.lt
            replace jbn63 := jbn63.keep hk84 (by show ¬ (_ = _); omega)
            have hbn63lt := jbn63.lt
            replace jbg66 := jbg66.keep hk84 (by show ¬ (_ = _); omega)
            have hbg66lt := jbg66.lt
            replace jbs67 := jbs67.keep hk84 (by show ¬ (_ = _); omega)
            have hbs67lt := jbs67.lt
            replace jbn68 := jbn68.keep hk84 (by show ¬ (_ = _); omega)
            have hbn68lt := jbn68.lt
            replace jb70 := jb70.keep hk84 (by show ¬ (_ = _); omega)
            have hb70lt := jb70.lt
            replace jg23 := jg23.keep hk84 (by show ¬ (_ = _); omega)
            have hg23lt := jg23.lt
            replace jA79 := SlT.keep jA79 hk84 (fun q hq hs => by have hs : q = b69 := hs; have g0 := owA79 q hq; have g1 := ltjA79 q hq; omega)
            replace jhK0 := Keep.fresh jhK0 hk84 (by intro i hi hs; first | exact hs | exact Or.inl hs | exact Or.inr hs | (exfalso; have hs2 : i = b69 := hs; omega)); have hzjhK0 := Keep.size jhK0
            replace hfenb := Keep.fresh hfenb hk84 (by intro i hi hs; have hs2 : i = b69 := hs; show _ ∨ _; omega); have hzhfenb := Keep.size hfenb
            refine OI_end rfl ?_
            refine X_then ?_
            refine V_seq ?_
            refine V_region ?_
            refine OI_cell 3 (.tmp 9) 0 (.int .i64 ((k + 1 : Nat) : Int)) (some 67) (by kernel_rfl) (by kernel_rfl) hb69_86 (m := 1) (by kernel_rfl) rfl ?_
            refine OI_cell 3 (.tmp 3) 0 (.int .i64 ((stop : Nat) : Int)) (some 68) (by kernel_rfl) (by kernel_rfl) jb1 (m := 1) (by kernel_rfl) rfl ?_
            refine OI_static 3 [(69, .bool (decide (((k + 1 : Nat) : Int) ≥ ((stop : Nat) : Int))))] (by kernel_rfl) ?_
            refine OI_end rfl ?_
            refine X_then ?_
            refine V_if (((k + 1 : Nat) : Int) ≥ ((stop : Nat) : Int)) (by kernel_rfl) (fun hc87 => ?_) (fun hc87 => ?_)
            · skip
              refine V_exit ?_
              refine X_exit_out (by decide) ?_
              exact fun a _ => ⟨hfenb, ⟨rfl, jb1, jb2, jbg61, jbs62, jbn63, jbg66, jbs67, jbn68, jb70, jg23, jA79, jhK0, hb69_86, by omega⟩⟩
            · skip
              refine V_skip ?_
              refine X_block ?_
              exact fun a _ => ⟨hfenb, jb1, jb2, jbg61, jbs62, jbn63, jbg66, jbs67, jbn68, jb70, jg23, jA79, jhK0, hb69_86, by omega⟩
          · skip
            intro D M1 W hD hM ⟨jb1, jb2, jbg61, jbs62, jbn63, jbg66, jbs67, jbn68, jb70, jg23, jA79, jhK0, jb69, hks⟩ hDD
            have hzjhK0 := Keep.size jhK0
            have hb1lt := jb1.lt
            have hb2lt := jb2.lt
            have hbg61lt := jbg61.lt
            have hbs62lt := jbs62.lt
            have hbn63lt := jbn63.lt
            have hbg66lt := jbg66.lt
            have hbs67lt := jbs67.lt
            have hbn68lt := jbn68.lt
            have hb69lt := jb69.lt
            have hb70lt := jb70.lt
            have hg23lt := jg23.lt
            have ltjA79 := SlT.lt jA79
            refine X_block ?_
            refine X_then ?_
            refine V_seq ?_
            refine V_seq ?_
            refine V_region ?_
            refine OI_static 1 [(0, .int .i64 ((n : Nat) : Int)), (3, .pointer (some ⟨b1, 0, none⟩)), (4, .pointer (some ⟨b2, 0, none⟩)), (9, .pointer (some ⟨b69, 0, none⟩)), (10, .pointer (some ⟨b70, 0, none⟩)), (70, .func (.func 47) #[] #[.pointer (some ⟨bg66, 0, none⟩), .pointer (some ⟨bs67, 0, none⟩), .pointer (some ⟨bn68, 0, none⟩)])] (by kernel_rfl) ?_
            refine OI_end rfl ?_
            refine X_then ?_
            refine V_block ?_
            have hXl1 : (colL 3 (stp n)).length = n := by rw [hcol]; exact hdl
            refine V_pick [(0, .int .i64 ((n : Nat) : Int)), (3, .pointer (some ⟨b1, 0, none⟩)), (4, .pointer (some ⟨b2, 0, none⟩)), (9, .pointer (some ⟨b69, 0, none⟩)), (10, .pointer (some ⟨b70, 0, none⟩)), (70, .func (.func 47) #[] #[.pointer (some ⟨bg66, 0, none⟩), .pointer (some ⟨bs67, 0, none⟩), .pointer (some ⟨bn68, 0, none⟩)])] rfl ?_
            have hlthDD := (Array.getElem?_eq_some_iff.1 hDD).1
            have hN01 : w.heap.size ≤ W.heap.size := hzjhK0
            refine V_range2 (gf := 47) (caps := #[.pointer (some ⟨bg66, 0, none⟩), .pointer (some ⟨bs67, 0, none⟩), .pointer (some ⟨bn68, 0, none⟩)]) (m := (colL 3 (stp n)).length) (by kernel_rfl) (by kernel_rfl) (by kernel_rfl) (along1_iter1 bg66 bs67 bn68 g23 cap79 A79 (stp n) 3 (by omega)) (⟨jbg66, ⟨jg23, jA79, hoff79⟩, ⟨jbs67, jbn68, jA79⟩⟩) (fun W W' h k => ⟨h.1.quiet k, h.2.1.quiet k, h.2.2.quiet k⟩) (enc2_size _) (fun M11 k1 W1 => (Blk W1 b1 [.int .i64 ((stop : Nat) : Int)] 3) ∧ (Blk W1 b2 [.bool false] 4) ∧ (Blk W1 bg61 [.pointer (some ⟨g23, 0, none⟩)] 22) ∧ (Blk W1 bs62 [.int .i64 0] 3) ∧ (Blk W1 bn63 [.int .i64 3] 3) ∧ (Blk W1 bg66 [.pointer (some ⟨g23, 0, none⟩)] 22) ∧ (Blk W1 bs67 [.int .i64 1] 3) ∧ (Blk W1 bn68 [.int .i64 3] 3) ∧ (Blk W1 b69 [.int .i64 (((rowL 3 (stp n)).length : Nat) : Int)] 3) ∧ (Blk W1 g23 [.slice A79 ((stp n).length) cap79] 66) ∧ (SlT W1 3 Ci.cells A79 cap79 (stp n)) ∧ (Keep none_ w W1) ∧ (W1.heap[D]? = some (.deferred (some []))) ∧ (Blk W1 b70 [.int .i64 ((k1 : Nat) : Int)] 3) ∧ (k1 < stop)) (fun M11 c k1 W1 => (c = .exit 4 ∧ (Blk W1 b1 [.int .i64 ((stop : Nat) : Int)] 3) ∧ (Blk W1 b2 [.bool false] 4) ∧ (Blk W1 bg61 [.pointer (some ⟨g23, 0, none⟩)] 22) ∧ (Blk W1 bs62 [.int .i64 0] 3) ∧ (Blk W1 bn63 [.int .i64 3] 3) ∧ (Blk W1 bg66 [.pointer (some ⟨g23, 0, none⟩)] 22) ∧ (Blk W1 bs67 [.int .i64 1] 3) ∧ (Blk W1 bn68 [.int .i64 3] 3) ∧ (Blk W1 b69 [.int .i64 (((rowL 3 (stp n)).length : Nat) : Int)] 3) ∧ (Blk W1 g23 [.slice A79 ((stp n).length) cap79] 66) ∧ (SlT W1 3 Ci.cells A79 cap79 (stp n)) ∧ (Keep none_ w W1) ∧ (W1.heap[D]? = some (.deferred (some []))) ∧ (Blk W1 b70 [.int .i64 ((k1 : Nat) : Int)] 3) ∧ (k1 = stop))) (fun M11 k1 W W' h hk => by obtain ⟨jb1, jb2, jbg61, jbs62, jbn63, jbg66, jbs67, jbn68, jb69, jg23, jA79, jjhK0, jhDD, jb70, hks⟩ := h; exact ⟨jb1.quiet hk, jb2.quiet hk, jbg61.quiet hk, jbs62.quiet hk, jbn63.quiet hk, jbg66.quiet hk, jbs67.quiet hk, jbn68.quiet hk, jb69.quiet hk, jg23.quiet hk, jA79.quiet hk, jjhK0.quiet hk (by omega), ((Keep.block hk _ (Array.getElem?_eq_some_iff.1 jhDD).1 (fun hs => absurd hs.1 (by omega))).trans jhDD), jb70.quiet hk, hks⟩) (fun M11 c k1 W W' h hk => by obtain ⟨hc, jb1, jb2, jbg61, jbs62, jbn63, jbg66, jbs67, jbn68, jb69, jg23, jA79, jjhK0, jhDD, jb70, hke⟩ := h; exact ⟨hc, jb1.quiet hk, jb2.quiet hk, jbg61.quiet hk, jbs62.quiet hk, jbn63.quiet hk, jbg66.quiet hk, jbs67.quiet hk, jbn68.quiet hk, jb69.quiet hk, jg23.quiet hk, jA79.quiet hk, jjhK0.quiet hk (by omega), ((Keep.block hk _ (Array.getElem?_eq_some_iff.1 jhDD).1 (fun hs => absurd hs.1 (by omega))).trans jhDD), jb70.quiet hk, hke⟩) (fun M11 hM1 => ⟨jb1, jb2, jbg61, jbs62, jbn63, jbg66, jbs67, jbn68, jb69, jg23, jA79, jhK0, hDD, jb70, by omega⟩) (fun M11 k1 W1 h => by obtain ⟨jb1, jb2, jbg61, jbs62, jbn63, jbg66, jbs67, jbn68, jb69, jg23, jA79, jjhK0, jhDD, jb70, hks⟩ := h; exact ⟨jbs67, jbn68, jA79⟩) ?_ ?_ ?_
            · skip
              intro lp1 D1 M11 k1 W1 hD1 hl1 hM1 hMW1 hkm ⟨jb1, jb2, jbg61, jbs62, jbn63, jbg66, jbs67, jbn68, jb69, jg23, jA79, jjhK0, jhDD, jb70, hks⟩ ⟨rr1, hrr1⟩ hDD1
              have hzjjhK0 := Keep.size jjhK0
              have hb1lt := jb1.lt
              have hb2lt := jb2.lt
              have hbg61lt := jbg61.lt
              have hbs62lt := jbs62.lt
              have hbn63lt := jbn63.lt
              have hbg66lt := jbg66.lt
              have hbs67lt := jbs67.lt
              have hbn68lt := jbn68.lt
              have hb69lt := jb69.lt
              have hb70lt := jb70.lt
              have hg23lt := jg23.lt
              have ltjA79 := SlT.lt jA79
              replace hkm : k1 < n := by omega
              rw [hcol, enc2_at (diag_at hkm)]
              refine V_pick [(3, .pointer (some ⟨b1, 0, none⟩)), (4, .pointer (some ⟨b2, 0, none⟩)), (10, .pointer (some ⟨b70, 0, none⟩)), (71, .int .i64 ((k1 : Nat) : Int)), (72, .int .i64 ((k1 : Nat) : Int))] rfl ?_
              have hfen1 : Keep (fen W.heap.size M11) W1 W1 := Keep.refl _ _
              have hzhfen1 := Keep.size hfen1
              refine V_seq ?_
              refine V_region ?_
              refine OI_static 1 [(3, .pointer (some ⟨b1, 0, none⟩)), (4, .pointer (some ⟨b2, 0, none⟩)), (10, .pointer (some ⟨b70, 0, none⟩)), (13, .int .i64 ((k1 : Nat) : Int)), (72, .int .i64 ((k1 : Nat) : Int))] (by kernel_rfl) ?_
              refine OI_end rfl ?_
              refine X_then ?_
              refine V_region ?_
              refine OI_static 1 [(3, .pointer (some ⟨b1, 0, none⟩)), (4, .pointer (some ⟨b2, 0, none⟩)), (10, .pointer (some ⟨b70, 0, none⟩)), (13, .int .i64 ((k1 : Nat) : Int)), (14, .int .i64 ((k1 : Nat) : Int))] (by kernel_rfl) ?_
              refine OI_end rfl ?_
              refine X_begin2 hfen1 ?_
              intro W21 hk21 ⟨r21, hr21⟩ hD21
              replace jb1 := Blk.quiet jb1 hk21
              have hb1lt := jb1.lt
              replace jb2 := Blk.quiet jb2 hk21
              have hb2lt := jb2.lt
              replace jbg61 := Blk.quiet jbg61 hk21
              have hbg61lt := jbg61.lt
              replace jbs62 := Blk.quiet jbs62 hk21
              have hbs62lt := jbs62.lt
              replace jbn63 := Blk.quiet jbn63 hk21
              have hbn63lt := jbn63.lt
              replace jbg66 := Blk.quiet jbg66 hk21
              have hbg66lt := jbg66.lt
              replace jbs67 := Blk.quiet jbs67 hk21
              have hbs67lt := jbs67.lt
              replace jbn68 := Blk.quiet jbn68 hk21
              have hbn68lt := jbn68.lt
              replace jb69 := Blk.quiet jb69 hk21
              have hb69lt := jb69.lt
              replace jb70 := Blk.quiet jb70 hk21
              have hb70lt := jb70.lt
              replace jg23 := Blk.quiet jg23 hk21
              have hg23lt := jg23.lt
              replace jA79 := SlT.quiet jA79 hk21
              replace jjhK0 := Keep.quiet jjhK0 hk21 (by omega); have hzjjhK0 := Keep.size jjhK0
              replace jhDD := (Keep.block hk21 _ (Array.getElem?_eq_some_iff.1 jhDD).1 (fun hs => absurd hs.1 (by omega))).trans jhDD
              have hzhk21 := Keep.size hk21
              have hfen1b : Keep (fen W.heap.size M11) W21 W21 := Keep.refl _ _
              have hzhfen1b := Keep.size hfen1b
              refine V_block ?_
              refine V_seq ?_
              refine V_seq ?_
              refine V_region ?_
              refine OI_static 1 [(3, .pointer (some ⟨b1, 0, none⟩)), (4, .pointer (some ⟨b2, 0, none⟩)), (10, .pointer (some ⟨b70, 0, none⟩)), (14, .int .i64 ((k1 : Nat) : Int)), (73, .int .i64 ((k1 : Nat) : Int))] (by kernel_rfl) ?_
              refine OI_cell 3 (.tmp 10) 0 (.int .i64 ((k1 : Nat) : Int)) (some 74) (by kernel_rfl) (by kernel_rfl) jb70 (m := 1) (by kernel_rfl) rfl ?_
              refine OI_static 4 [(3, .pointer (some ⟨b1, 0, none⟩)), (4, .pointer (some ⟨b2, 0, none⟩)), (10, .pointer (some ⟨b70, 0, none⟩)), (14, .int .i64 ((k1 : Nat) : Int)), (76, .bool (!(decide (((k1 : Nat) : Int) = ((k1 : Nat) : Int)))))] (by kernel_rfl) ?_
              refine OI_eq [(3, .pointer (some ⟨b1, 0, none⟩)), (4, .pointer (some ⟨b2, 0, none⟩)), (10, .pointer (some ⟨b70, 0, none⟩)), (14, .int .i64 ((k1 : Nat) : Int)), (76, .bool false)] (by rw [decide_eq_true (rfl : ((k1 : Nat) : Int) = ((k1 : Nat) : Int))]; rfl) ?_
              refine OI_static 7 [(3, .pointer (some ⟨b1, 0, none⟩)), (4, .pointer (some ⟨b2, 0, none⟩)), (10, .pointer (some ⟨b70, 0, none⟩)), (79, .bool (decide (((k1 : Nat) : Int) < 0)))] (by kernel_rfl) ?_
              refine OI_end rfl ?_
              refine X_then ?_
              refine V_eq [(3, .pointer (some ⟨b1, 0, none⟩)), (4, .pointer (some ⟨b2, 0, none⟩)), (10, .pointer (some ⟨b70, 0, none⟩)), (79, .bool false)] (by rw [decide_eq_false (by omega : ¬ ((k1 : Nat) : Int) < 0)]) ?_
              refine V_false rfl ?_
              refine V_skip ?_
              refine X_then ?_
              refine V_seq ?_
              refine V_region ?_
              refine OI_cell 3 (.tmp 10) 0 (.int .i64 ((k1 : Nat) : Int)) (some 80) (by kernel_rfl) (by kernel_rfl) jb70 (m := 1) (by kernel_rfl) rfl ?_
              have hw90 : IntKind.i64.wrap (((k1 : Nat) : Int) + 1) = ((k1 + 1 : Nat) : Int) := (wrap64_id (by omega) (by omega)).trans (by omega)
              refine OI_static 2 [(3, .pointer (some ⟨b1, 0, none⟩)), (10, .pointer (some ⟨b70, 0, none⟩)), (81, .int .i64 (IntKind.i64.wrap (((k1 : Nat) : Int) + 1)))] (by kernel_rfl) ?_
              refine OI_eq [(3, .pointer (some ⟨b1, 0, none⟩)), (10, .pointer (some ⟨b70, 0, none⟩)), (81, .int .i64 ((k1 + 1 : Nat) : Int))] (by rw [hw90]) ?_
              refine OI_set (m := 1) (kd := false) 3 (.tmp 10) (.tmp 81) 0 (.int .i64 ((k1 + 1 : Nat) : Int)) [.int .i64 ((k1 + 1 : Nat) : Int)] none (by kernel_rfl) (by kernel_rfl) (by kernel_rfl) jb70 (by kernel_rfl) (by kernel_rfl) (by kernel_rfl) (Nat.le_of_ble_eq_true (by kernel_rfl)) (by simp [Value.oneCell']) ?_
              intro w91 hb70_94 hk92 hz93
              replace hb70_94 : Blk w91 b70 [.int .i64 ((k1 + 1 : Nat) : Int)] 3 := hb70_94
              replace jb1 := jb1.keep hk92 (by show ¬ (_ = _); omega)
              have hb1lt := jb1.lt
              replace jb2 := jb2.keep hk92 (by show ¬ (_ = _); omega)
              have hb2lt := jb2.lt
              replace jbg61 := jbg61.keep hk92 (by show ¬ (_ = _); omega)
              have hbg61lt := jbg61.lt
              replace jbs62 := jbs62.keep hk92 (by show ¬ (_ = _); omega)
              have hbs62lt := jbs62.lt
              replace jbn63 := jbn63.keep hk92 (by show ¬ (_ = _); omega)
              have hbn63lt := jbn63.lt
              replace jbg66 := jbg66.keep hk92 (by show ¬ (_ = _); omega)
              have hbg66lt := jbg66.lt
              replace jbs67 := jbs67.keep hk92 (by show ¬ (_ = _); omega)
              have hbs67lt := jbs67.lt
              replace jbn68 := jbn68.keep hk92 (by show ¬ (_ = _); omega)
              have hbn68lt := jbn68.lt
              replace jb69 := jb69.keep hk92 (by show ¬ (_ = _); omega)
              have hb69lt := jb69.lt
              replace jg23 := jg23.keep hk92 (by show ¬ (_ = _); omega)
              have hg23lt := jg23.lt
              replace jA79 := SlT.keep jA79 hk92 (fun q hq hs => by have hs : q = b70 := hs; have g0 := owA79 q hq; have g1 := ltjA79 q hq; omega)
              replace jjhK0 := Keep.fresh jjhK0 hk92 (by intro i hi hs; first | exact hs | exact Or.inl hs | exact Or.inr hs | (exfalso; have hs2 : i = b70 := hs; omega)); have hzjjhK0 := Keep.size jjhK0
              replace jhDD := (Keep.block hk92 _ (Array.getElem?_eq_some_iff.1 jhDD).1 (by show ¬ (_ = _); omega)).trans jhDD
              replace hfen1b := Keep.fresh hfen1b hk92 (by intro i hi hs; have hs2 : i = b70 := hs; show _ ∨ _; omega); have hzhfen1b := Keep.size hfen1b
              refine OI_end rfl ?_
              refine X_then ?_
              refine V_seq ?_
              refine V_region ?_
              refine OI_cell 3 (.tmp 10) 0 (.int .i64 ((k1 + 1 : Nat) : Int)) (some 82) (by kernel_rfl) (by kernel_rfl) hb70_94 (m := 1) (by kernel_rfl) rfl ?_
              refine OI_cell 3 (.tmp 3) 0 (.int .i64 ((stop : Nat) : Int)) (some 83) (by kernel_rfl) (by kernel_rfl) jb1 (m := 1) (by kernel_rfl) rfl ?_
              refine OI_static 3 [(84, .bool (decide (((k1 + 1 : Nat) : Int) ≥ ((stop : Nat) : Int))))] (by kernel_rfl) ?_
              refine OI_end rfl ?_
              refine X_then ?_
              refine V_if (((k1 + 1 : Nat) : Int) ≥ ((stop : Nat) : Int)) (by kernel_rfl) (fun hc95 => ?_) (fun hc95 => ?_)
              · skip
                refine V_exit ?_
                refine X_exit_out (by decide) ?_
                exact fun a _ => ⟨hfen1b, ⟨rfl, jb1, jb2, jbg61, jbs62, jbn63, jbg66, jbs67, jbn68, jb69, jg23, jA79, jjhK0, jhDD, hb70_94, by omega⟩⟩
              · skip
                refine V_skip ?_
                refine X_block ?_
                exact fun a _ => ⟨hfen1b, jb1, jb2, jbg61, jbs62, jbn63, jbg66, jbs67, jbn68, jb69, jg23, jA79, jjhK0, jhDD, hb70_94, by omega⟩
            · skip
              intro D1 M11 W1 hD1 hM1 ⟨jb1, jb2, jbg61, jbs62, jbn63, jbg66, jbs67, jbn68, jb69, jg23, jA79, jjhK0, jhDD, jb70, hks⟩ hDD1
              have hzjjhK0 := Keep.size jjhK0
              have hb1lt := jb1.lt
              have hb2lt := jb2.lt
              have hbg61lt := jbg61.lt
              have hbs62lt := jbs62.lt
              have hbn63lt := jbn63.lt
              have hbg66lt := jbg66.lt
              have hbs67lt := jbs67.lt
              have hbn68lt := jbn68.lt
              have hb69lt := jb69.lt
              have hb70lt := jb70.lt
              have hg23lt := jg23.lt
              have ltjA79 := SlT.lt jA79
              refine X_block ?_
              refine X_then ?_
              refine V_seq ?_
              refine V_region ?_
              refine OI_cell 3 (.tmp 9) 0 (.int .i64 (((rowL 3 (stp n)).length : Nat) : Int)) (some 85) (by kernel_rfl) (by kernel_rfl) jb69 (m := 1) (by kernel_rfl) rfl ?_
              refine OI_static 2 [(3, .pointer (some ⟨b1, 0, none⟩)), (4, .pointer (some ⟨b2, 0, none⟩)), (9, .pointer (some ⟨b69, 0, none⟩)), (10, .pointer (some ⟨b70, 0, none⟩)), (85, .int .i64 (((rowL 3 (stp n)).length : Nat) : Int)), (86, .int .i64 ((n : Nat) : Int))] (by kernel_rfl) ?_
              refine OI_cell 3 (.tmp 3) 0 (.int .i64 ((stop : Nat) : Int)) (some 87) (by kernel_rfl) (by kernel_rfl) jb1 (m := 1) (by kernel_rfl) rfl ?_
              refine OI_static 6 [(4, .pointer (some ⟨b2, 0, none⟩)), (9, .pointer (some ⟨b69, 0, none⟩)), (10, .pointer (some ⟨b70, 0, none⟩)), (90, .bool (decide ((((rowL 3 (stp n)).length : Nat) : Int) = if ((stop : Nat) : Int) < ((n : Nat) : Int) then ((stop : Nat) : Int) else ((n : Nat) : Int))))] (by kernel_rfl) ?_
              refine OI_eq [(4, .pointer (some ⟨b2, 0, none⟩)), (9, .pointer (some ⟨b69, 0, none⟩)), (10, .pointer (some ⟨b70, 0, none⟩)), (90, .bool true)] (by rw [decide_eq_true (by first | omega | (split <;> omega))]) ?_
              refine OI_cell 3 (.tmp 10) 0 (.int .i64 (((colL 3 (stp n)).length : Nat) : Int)) (some 91) (by kernel_rfl) (by kernel_rfl) jb70 (m := 1) (by kernel_rfl) rfl ?_
              refine OI_cell 3 (.tmp 9) 0 (.int .i64 (((rowL 3 (stp n)).length : Nat) : Int)) (some 92) (by kernel_rfl) (by kernel_rfl) jb69 (m := 1) (by kernel_rfl) rfl ?_
              refine OI_static 11 [(4, .pointer (some ⟨b2, 0, none⟩)), (95, .bool (decide ((((colL 3 (stp n)).length : Nat) : Int) = (((rowL 3 (stp n)).length : Nat) : Int))))] (by kernel_rfl) ?_
              refine OI_eq [(4, .pointer (some ⟨b2, 0, none⟩)), (95, .bool true)] (by rw [decide_eq_true (by first | omega | (split <;> omega))]) ?_
              refine OI_call { callee := (Callee.value (Operand.func 14)), args := #[], argTypes := #[] } 14 #[] (some 96) (by kernel_rfl) (by kernel_rfl) (by kernel_rfl) (known_spec _) ?_
              rintro _ w98 ⟨rfl, hk99⟩
              refine ⟨_, rfl, ?_⟩
              replace jb1 := jb1.keep hk99 (fun f => f)
              have hb1lt := jb1.lt
              replace jb2 := jb2.keep hk99 (fun f => f)
              have hb2lt := jb2.lt
              replace jbg61 := jbg61.keep hk99 (fun f => f)
              have hbg61lt := jbg61.lt
              replace jbs62 := jbs62.keep hk99 (fun f => f)
              have hbs62lt := jbs62.lt
              replace jbn63 := jbn63.keep hk99 (fun f => f)
              have hbn63lt := jbn63.lt
              replace jbg66 := jbg66.keep hk99 (fun f => f)
              have hbg66lt := jbg66.lt
              replace jbs67 := jbs67.keep hk99 (fun f => f)
              have hbs67lt := jbs67.lt
              replace jbn68 := jbn68.keep hk99 (fun f => f)
              have hbn68lt := jbn68.lt
              replace jb69 := jb69.keep hk99 (fun f => f)
              have hb69lt := jb69.lt
              replace jb70 := jb70.keep hk99 (fun f => f)
              have hb70lt := jb70.lt
              replace jg23 := jg23.keep hk99 (fun f => f)
              have hg23lt := jg23.lt
              replace jA79 := SlT.keep0 jA79 hk99
              replace jjhK0 := Keep.tr jjhK0 (Keep.ofNone hk99); have hzjjhK0 := Keep.size jjhK0
              replace jhDD := (Keep.block hk99 _ (Array.getElem?_eq_some_iff.1 jhDD).1 (fun f => f)).trans jhDD
              replace hDD1 := (Keep.block hk99 _ (Array.getElem?_eq_some_iff.1 hDD1).1 (fun f => f)).trans hDD1
              refine OI_static 13 [(4, .pointer (some ⟨b2, 0, none⟩)), (97, .bool true)] (by kernel_rfl) ?_
              refine OI_set (m := 1) (kd := false) 4 (.tmp 4) (.tmp 97) 0 (.bool true) [.bool true] none (by kernel_rfl) (by kernel_rfl) (by kernel_rfl) jb2 (by kernel_rfl) (by kernel_rfl) (by kernel_rfl) (Nat.le_of_ble_eq_true (by kernel_rfl)) (by simp [Value.oneCell']) ?_
              intro w100 hb2_103 hk101 hz102
              replace hb2_103 : Blk w100 b2 [.bool true] 4 := hb2_103
              replace jb1 := jb1.keep hk101 (by show ¬ (_ = _); omega)
              have hb1lt := jb1.lt
              replace jbg61 := jbg61.keep hk101 (by show ¬ (_ = _); omega)
              have hbg61lt := jbg61.lt
              replace jbs62 := jbs62.keep hk101 (by show ¬ (_ = _); omega)
              have hbs62lt := jbs62.lt
              replace jbn63 := jbn63.keep hk101 (by show ¬ (_ = _); omega)
              have hbn63lt := jbn63.lt
              replace jbg66 := jbg66.keep hk101 (by show ¬ (_ = _); omega)
              have hbg66lt := jbg66.lt
              replace jbs67 := jbs67.keep hk101 (by show ¬ (_ = _); omega)
              have hbs67lt := jbs67.lt
              replace jbn68 := jbn68.keep hk101 (by show ¬ (_ = _); omega)
              have hbn68lt := jbn68.lt
              replace jb69 := jb69.keep hk101 (by show ¬ (_ = _); omega)
              have hb69lt := jb69.lt
              replace jb70 := jb70.keep hk101 (by show ¬ (_ = _); omega)
              have hb70lt := jb70.lt
              replace jg23 := jg23.keep hk101 (by show ¬ (_ = _); omega)
              have hg23lt := jg23.lt
              replace jA79 := SlT.keep jA79 hk101 (fun q hq hs => by have hs : q = b2 := hs; have g0 := owA79 q hq; have g1 := ltjA79 q hq; omega)
              replace jjhK0 := Keep.fresh jjhK0 hk101 (by intro i hi hs; first | exact hs | exact Or.inl hs | exact Or.inr hs | (exfalso; have hs2 : i = b2 := hs; omega)); have hzjjhK0 := Keep.size jjhK0
              replace jhDD := (Keep.block hk101 _ (Array.getElem?_eq_some_iff.1 jhDD).1 (by show ¬ (_ = _); omega)).trans jhDD
              replace hDD1 := (Keep.block hk101 _ (Array.getElem?_eq_some_iff.1 hDD1).1 (by show ¬ (_ = _); omega)).trans hDD1
              refine OI_end rfl ?_
              refine X_then ?_
              refine V_ret ?_
              exact leave2 (.bool true) (.inl rfl) (by omega) jhDD hDD1 (fun w' hk => ⟨res_cell1 (n1 := 1) rfl rfl (by kernel_rfl) (Blk.quiet hb2_103 hk) , ⟨rfl, Keep.quiet jjhK0 hk (by omega)⟩⟩)
            · skip
              intro D1 M11 k1 c W1 hD1 hM1 hkm h hDD1
              obtain ⟨hc, jb1, jb2, jbg61, jbs62, jbn63, jbg66, jbs67, jbn68, jb69, jg23, jA79, jjhK0, jhDD, jb70, hke⟩ := h
              subst hc
              have hzjjhK0 := Keep.size jjhK0
              have hb1lt := jb1.lt
              have hb2lt := jb2.lt
              have hbg61lt := jbg61.lt
              have hbs62lt := jbs62.lt
              have hbn63lt := jbn63.lt
              have hbg66lt := jbg66.lt
              have hbs67lt := jbs67.lt
              have hbn68lt := jbn68.lt
              have hb69lt := jb69.lt
              have hb70lt := jb70.lt
              have hg23lt := jg23.lt
              have ltjA79 := SlT.lt jA79
              refine V_exit ?_
              refine X_exit_here ?_
              refine X_then ?_
              refine V_seq ?_
              refine V_region ?_
              refine OI_cell 3 (.tmp 9) 0 (.int .i64 (((rowL 3 (stp n)).length : Nat) : Int)) (some 85) (by kernel_rfl) (by kernel_rfl) jb69 (m := 1) (by kernel_rfl) rfl ?_
              refine OI_static 2 [(3, .pointer (some ⟨b1, 0, none⟩)), (4, .pointer (some ⟨b2, 0, none⟩)), (9, .pointer (some ⟨b69, 0, none⟩)), (10, .pointer (some ⟨b70, 0, none⟩)), (85, .int .i64 (((rowL 3 (stp n)).length : Nat) : Int)), (86, .int .i64 ((n : Nat) : Int))] (by kernel_rfl) ?_
              refine OI_cell 3 (.tmp 3) 0 (.int .i64 ((stop : Nat) : Int)) (some 87) (by kernel_rfl) (by kernel_rfl) jb1 (m := 1) (by kernel_rfl) rfl ?_
              refine OI_static 6 [(4, .pointer (some ⟨b2, 0, none⟩)), (9, .pointer (some ⟨b69, 0, none⟩)), (10, .pointer (some ⟨b70, 0, none⟩)), (90, .bool (decide ((((rowL 3 (stp n)).length : Nat) : Int) = if ((stop : Nat) : Int) < ((n : Nat) : Int) then ((stop : Nat) : Int) else ((n : Nat) : Int))))] (by kernel_rfl) ?_
              refine OI_eq [(4, .pointer (some ⟨b2, 0, none⟩)), (9, .pointer (some ⟨b69, 0, none⟩)), (10, .pointer (some ⟨b70, 0, none⟩)), (90, .bool true)] (by rw [decide_eq_true (by first | omega | (split <;> omega))]) ?_
              refine OI_cell 3 (.tmp 10) 0 (.int .i64 ((k1 : Nat) : Int)) (some 91) (by kernel_rfl) (by kernel_rfl) jb70 (m := 1) (by kernel_rfl) rfl ?_
              refine OI_cell 3 (.tmp 9) 0 (.int .i64 (((rowL 3 (stp n)).length : Nat) : Int)) (some 92) (by kernel_rfl) (by kernel_rfl) jb69 (m := 1) (by kernel_rfl) rfl ?_
              refine OI_static 11 [(4, .pointer (some ⟨b2, 0, none⟩)), (95, .bool (decide (((k1 : Nat) : Int) = (((rowL 3 (stp n)).length : Nat) : Int))))] (by kernel_rfl) ?_
              refine OI_eq [(4, .pointer (some ⟨b2, 0, none⟩)), (95, .bool true)] (by rw [decide_eq_true (by first | omega | (split <;> omega))]) ?_
              refine OI_call { callee := (Callee.value (Operand.func 14)), args := #[], argTypes := #[] } 14 #[] (some 96) (by kernel_rfl) (by kernel_rfl) (by kernel_rfl) (known_spec _) ?_
              rintro _ w106 ⟨rfl, hk107⟩
              refine ⟨_, rfl, ?_⟩
              replace jb1 := jb1.keep hk107 (fun f => f)
              have hb1lt := jb1.lt
              replace jb2 := jb2.keep hk107 (fun f => f)
              have hb2lt := jb2.lt
              replace jbg61 := jbg61.keep hk107 (fun f => f)
              have hbg61lt := jbg61.lt
              replace jbs62 := jbs62.keep hk107 (fun f => f)
              have hbs62lt := jbs62.lt
              replace jbn63 := jbn63.keep hk107 (fun f => f)
              have hbn63lt := jbn63.lt
              replace jbg66 := jbg66.keep hk107 (fun f => f)
              have hbg66lt := jbg66.lt
              replace jbs67 := jbs67.keep hk107 (fun f => f)
              have hbs67lt := jbs67.lt
              replace jbn68 := jbn68.keep hk107 (fun f => f)
              have hbn68lt := jbn68.lt
              replace jb69 := jb69.keep hk107 (fun f => f)
              have hb69lt := jb69.lt
              replace jb70 := jb70.keep hk107 (fun f => f)
              have hb70lt := jb70.lt
              replace jg23 := jg23.keep hk107 (fun f => f)
              have hg23lt := jg23.lt
              replace jA79 := SlT.keep0 jA79 hk107
              replace jjhK0 := Keep.tr jjhK0 (Keep.ofNone hk107); have hzjjhK0 := Keep.size jjhK0
              replace jhDD := (Keep.block hk107 _ (Array.getElem?_eq_some_iff.1 jhDD).1 (fun f => f)).trans jhDD
              replace hDD1 := (Keep.block hk107 _ (Array.getElem?_eq_some_iff.1 hDD1).1 (fun f => f)).trans hDD1
              refine OI_static 13 [(4, .pointer (some ⟨b2, 0, none⟩)), (97, .bool true)] (by kernel_rfl) ?_
              refine OI_set (m := 1) (kd := false) 4 (.tmp 4) (.tmp 97) 0 (.bool true) [.bool true] none (by kernel_rfl) (by kernel_rfl) (by kernel_rfl) jb2 (by kernel_rfl) (by kernel_rfl) (by kernel_rfl) (Nat.le_of_ble_eq_true (by kernel_rfl)) (by simp [Value.oneCell']) ?_
              intro w108 hb2_111 hk109 hz110
              replace hb2_111 : Blk w108 b2 [.bool true] 4 := hb2_111
              replace jb1 := jb1.keep hk109 (by show ¬ (_ = _); omega)
              have hb1lt := jb1.lt
              replace jbg61 := jbg61.keep hk109 (by show ¬ (_ = _); omega)
              have hbg61lt := jbg61.lt
              replace jbs62 := jbs62.keep hk109 (by show ¬ (_ = _); omega)
              have hbs62lt := jbs62.lt
              replace jbn63 := jbn63.keep hk109 (by show ¬ (_ = _); omega)
              have hbn63lt := jbn63.lt
              replace jbg66 := jbg66.keep hk109 (by show ¬ (_ = _); omega)
              have hbg66lt := jbg66.lt
              replace jbs67 := jbs67.keep hk109 (by show ¬ (_ = _); omega)
              have hbs67lt := jbs67.lt
              replace jbn68 := jbn68.keep hk109 (by show ¬ (_ = _); omega)
              have hbn68lt := jbn68.lt
              replace jb69 := jb69.keep hk109 (by show ¬ (_ = _); omega)
              have hb69lt := jb69.lt
              replace jb70 := jb70.keep hk109 (by show ¬ (_ = _); omega)
              have hb70lt := jb70.lt
              replace jg23 := jg23.keep hk109 (by show ¬ (_ = _); omega)
              have hg23lt := jg23.lt
              replace jA79 := SlT.keep jA79 hk109 (fun q hq hs => by have hs : q = b2 := hs; have g0 := owA79 q hq; have g1 := ltjA79 q hq; omega)
              replace jjhK0 := Keep.fresh jjhK0 hk109 (by intro i hi hs; first | exact hs | exact Or.inl hs | exact Or.inr hs | (exfalso; have hs2 : i = b2 := hs; omega)); have hzjjhK0 := Keep.size jjhK0
              replace jhDD := (Keep.block hk109 _ (Array.getElem?_eq_some_iff.1 jhDD).1 (by show ¬ (_ = _); omega)).trans jhDD
              replace hDD1 := (Keep.block hk109 _ (Array.getElem?_eq_some_iff.1 hDD1).1 (by show ¬ (_ = _); omega)).trans hDD1
              refine OI_end rfl ?_
              refine X_then ?_
              refine V_ret ?_
              exact leave2 (.bool true) (.inl rfl) (by omega) jhDD hDD1 (fun w' hk => ⟨res_cell1 (n1 := 1) rfl rfl (by kernel_rfl) (Blk.quiet hb2_111 hk) , ⟨rfl, Keep.quiet jjhK0 hk (by omega)⟩⟩)
          · skip
            intro D M1 k c W hD hM hkm h hDD
            obtain ⟨hc, jb1, jb2, jbg61, jbs62, jbn63, jbg66, jbs67, jbn68, jb70, jg23, jA79, jhK0, jb69, hke⟩ := h
            subst hc
            have hzjhK0 := Keep.size jhK0
            have hb1lt := jb1.lt
            have hb2lt := jb2.lt
            have hbg61lt := jbg61.lt
            have hbs62lt := jbs62.lt
            have hbn63lt := jbn63.lt
            have hbg66lt := jbg66.lt
            have hbs67lt := jbs67.lt
            have hbn68lt := jbn68.lt
            have hb69lt := jb69.lt
            have hb70lt := jb70.lt
            have hg23lt := jg23.lt
            have ltjA79 := SlT.lt jA79
            refine V_exit ?_
            refine X_exit_here ?_
            refine X_then ?_
            refine V_seq ?_
            refine V_seq ?_
            refine V_region ?_
            refine OI_static 1 [(0, .int .i64 ((n : Nat) : Int)), (3, .pointer (some ⟨b1, 0, none⟩)), (4, .pointer (some ⟨b2, 0, none⟩)), (9, .pointer (some ⟨b69, 0, none⟩)), (10, .pointer (some ⟨b70, 0, none⟩)), (70, .func (.func 47) #[] #[.pointer (some ⟨bg66, 0, none⟩), .pointer (some ⟨bs67, 0, none⟩), .pointer (some ⟨bn68, 0, none⟩)])] (by kernel_rfl) ?_
            refine OI_end rfl ?_
            refine X_then ?_
            refine V_block ?_
            have hXl1 : (colL 3 (stp n)).length = n := by rw [hcol]; exact hdl
            refine V_pick [(0, .int .i64 ((n : Nat) : Int)), (3, .pointer (some ⟨b1, 0, none⟩)), (4, .pointer (some ⟨b2, 0, none⟩)), (9, .pointer (some ⟨b69, 0, none⟩)), (10, .pointer (some ⟨b70, 0, none⟩)), (70, .func (.func 47) #[] #[.pointer (some ⟨bg66, 0, none⟩), .pointer (some ⟨bs67, 0, none⟩), .pointer (some ⟨bn68, 0, none⟩)])] rfl ?_
            have hlthDD := (Array.getElem?_eq_some_iff.1 hDD).1
            have hN02 : w.heap.size ≤ W.heap.size := hzjhK0
            refine V_range2 (gf := 47) (caps := #[.pointer (some ⟨bg66, 0, none⟩), .pointer (some ⟨bs67, 0, none⟩), .pointer (some ⟨bn68, 0, none⟩)]) (m := (colL 3 (stp n)).length) (by kernel_rfl) (by kernel_rfl) (by kernel_rfl) (along1_iter1 bg66 bs67 bn68 g23 cap79 A79 (stp n) 3 (by omega)) (⟨jbg66, ⟨jg23, jA79, hoff79⟩, ⟨jbs67, jbn68, jA79⟩⟩) (fun W W' h k => ⟨h.1.quiet k, h.2.1.quiet k, h.2.2.quiet k⟩) (enc2_size _) (fun M12 k2 W2 => (Blk W2 b1 [.int .i64 ((stop : Nat) : Int)] 3) ∧ (Blk W2 b2 [.bool false] 4) ∧ (Blk W2 bg61 [.pointer (some ⟨g23, 0, none⟩)] 22) ∧ (Blk W2 bs62 [.int .i64 0] 3) ∧ (Blk W2 bn63 [.int .i64 3] 3) ∧ (Blk W2 bg66 [.pointer (some ⟨g23, 0, none⟩)] 22) ∧ (Blk W2 bs67 [.int .i64 1] 3) ∧ (Blk W2 bn68 [.int .i64 3] 3) ∧ (Blk W2 b69 [.int .i64 ((k : Nat) : Int)] 3) ∧ (Blk W2 g23 [.slice A79 ((stp n).length) cap79] 66) ∧ (SlT W2 3 Ci.cells A79 cap79 (stp n)) ∧ (Keep none_ w W2) ∧ (W2.heap[D]? = some (.deferred (some []))) ∧ (Blk W2 b70 [.int .i64 ((k2 : Nat) : Int)] 3) ∧ (k2 < stop)) (fun M12 c k2 W2 => (c = .exit 4 ∧ (Blk W2 b1 [.int .i64 ((stop : Nat) : Int)] 3) ∧ (Blk W2 b2 [.bool false] 4) ∧ (Blk W2 bg61 [.pointer (some ⟨g23, 0, none⟩)] 22) ∧ (Blk W2 bs62 [.int .i64 0] 3) ∧ (Blk W2 bn63 [.int .i64 3] 3) ∧ (Blk W2 bg66 [.pointer (some ⟨g23, 0, none⟩)] 22) ∧ (Blk W2 bs67 [.int .i64 1] 3) ∧ (Blk W2 bn68 [.int .i64 3] 3) ∧ (Blk W2 b69 [.int .i64 ((k : Nat) : Int)] 3) ∧ (Blk W2 g23 [.slice A79 ((stp n).length) cap79] 66) ∧ (SlT W2 3 Ci.cells A79 cap79 (stp n)) ∧ (Keep none_ w W2) ∧ (W2.heap[D]? = some (.deferred (some []))) ∧ (Blk W2 b70 [.int .i64 ((k2 : Nat) : Int)] 3) ∧ (k2 = stop))) (fun M12 k2 W W' h hk => by obtain ⟨jb1, jb2, jbg61, jbs62, jbn63, jbg66, jbs67, jbn68, jb69, jg23, jA79, jjhK0, jhDD, jb70, hks⟩ := h; exact ⟨jb1.quiet hk, jb2.quiet hk, jbg61.quiet hk, jbs62.quiet hk, jbn63.quiet hk, jbg66.quiet hk, jbs67.quiet hk, jbn68.quiet hk, jb69.quiet hk, jg23.quiet hk, jA79.quiet hk, jjhK0.quiet hk (by omega), ((Keep.block hk _ (Array.getElem?_eq_some_iff.1 jhDD).1 (fun hs => absurd hs.1 (by omega))).trans jhDD), jb70.quiet hk, hks⟩) (fun M12 c k2 W W' h hk => by obtain ⟨hc, jb1, jb2, jbg61, jbs62, jbn63, jbg66, jbs67, jbn68, jb69, jg23, jA79, jjhK0, jhDD, jb70, hke⟩ := h; exact ⟨hc, jb1.quiet hk, jb2.quiet hk, jbg61.quiet hk, jbs62.quiet hk, jbn63.quiet hk, jbg66.quiet hk, jbs67.quiet hk, jbn68.quiet hk, jb69.quiet hk, jg23.quiet hk, jA79.quiet hk, jjhK0.quiet hk (by omega), ((Keep.block hk _ (Array.getElem?_eq_some_iff.1 jhDD).1 (fun hs => absurd hs.1 (by omega))).trans jhDD), jb70.quiet hk, hke⟩) (fun M12 hM1 => ⟨jb1, jb2, jbg61, jbs62, jbn63, jbg66, jbs67, jbn68, jb69, jg23, jA79, jhK0, hDD, jb70, by omega⟩) (fun M12 k2 W2 h => by obtain ⟨jb1, jb2, jbg61, jbs62, jbn63, jbg66, jbs67, jbn68, jb69, jg23, jA79, jjhK0, jhDD, jb70, hks⟩ := h; exact ⟨jbs67, jbn68, jA79⟩) ?_ ?_ ?_
            · skip
              intro lp2 D2 M12 k2 W2 hD2 hl2 hM2 hMW2 hkm ⟨jb1, jb2, jbg61, jbs62, jbn63, jbg66, jbs67, jbn68, jb69, jg23, jA79, jjhK0, jhDD, jb70, hks⟩ ⟨rr2, hrr2⟩ hDD2
              have hzjjhK0 := Keep.size jjhK0
              have hb1lt := jb1.lt
              have hb2lt := jb2.lt
              have hbg61lt := jbg61.lt
              have hbs62lt := jbs62.lt
              have hbn63lt := jbn63.lt
              have hbg66lt := jbg66.lt
              have hbs67lt := jbs67.lt
              have hbn68lt := jbn68.lt
              have hb69lt := jb69.lt
              have hb70lt := jb70.lt
              have hg23lt := jg23.lt
              have ltjA79 := SlT.lt jA79
              replace hkm : k2 < n := by omega
              rw [hcol, enc2_at (diag_at hkm)]
              refine V_pick [(3, .pointer (some ⟨b1, 0, none⟩)), (4, .pointer (some ⟨b2, 0, none⟩)), (10, .pointer (some ⟨b70, 0, none⟩)), (71, .int .i64 ((k2 : Nat) : Int)), (72, .int .i64 ((k2 : Nat) : Int))] rfl ?_
              have hfen2 : Keep (fen W.heap.size M12) W2 W2 := Keep.refl _ _
              have hzhfen2 := Keep.size hfen2
              refine V_seq ?_
              refine V_region ?_
              refine OI_static 1 [(3, .pointer (some ⟨b1, 0, none⟩)), (4, .pointer (some ⟨b2, 0, none⟩)), (10, .pointer (some ⟨b70, 0, none⟩)), (13, .int .i64 ((k2 : Nat) : Int)), (72, .int .i64 ((k2 : Nat) : Int))] (by kernel_rfl) ?_
              refine OI_end rfl ?_
              refine X_then ?_
              refine V_region ?_
              refine OI_static 1 [(3, .pointer (some ⟨b1, 0, none⟩)), (4, .pointer (some ⟨b2, 0, none⟩)), (10, .pointer (some ⟨b70, 0, none⟩)), (13, .int .i64 ((k2 : Nat) : Int)), (14, .int .i64 ((k2 : Nat) : Int))] (by kernel_rfl) ?_
              refine OI_end rfl ?_
              refine X_begin2 hfen2 ?_
              intro W22 hk22 ⟨r22, hr22⟩ hD22
              replace jb1 := Blk.quiet jb1 hk22
              have hb1lt := jb1.lt
              replace jb2 := Blk.quiet jb2 hk22
              have hb2lt := jb2.lt
              replace jbg61 := Blk.quiet jbg61 hk22
              have hbg61lt := jbg61.lt
              replace jbs62 := Blk.quiet jbs62 hk22
              have hbs62lt := jbs62.lt
              replace jbn63 := Blk.quiet jbn63 hk22
              have hbn63lt := jbn63.lt
              replace jbg66 := Blk.quiet jbg66 hk22
              have hbg66lt := jbg66.lt
              replace jbs67 := Blk.quiet jbs67 hk22
              have hbs67lt := jbs67.lt
              replace jbn68 := Blk.quiet jbn68 hk22
              have hbn68lt := jbn68.lt
              replace jb69 := Blk.quiet jb69 hk22
              have hb69lt := jb69.lt
              replace jb70 := Blk.quiet jb70 hk22
              have hb70lt := jb70.lt
              replace jg23 := Blk.quiet jg23 hk22
              have hg23lt := jg23.lt
              replace jA79 := SlT.quiet jA79 hk22
              replace jjhK0 := Keep.quiet jjhK0 hk22 (by omega); have hzjjhK0 := Keep.size jjhK0
              replace jhDD := (Keep.block hk22 _ (Array.getElem?_eq_some_iff.1 jhDD).1 (fun hs => absurd hs.1 (by omega))).trans jhDD
              have hzhk22 := Keep.size hk22
              have hfen2b : Keep (fen W.heap.size M12) W22 W22 := Keep.refl _ _
              have hzhfen2b := Keep.size hfen2b
              refine V_block ?_
              refine V_seq ?_
              refine V_seq ?_
              refine V_region ?_
              refine OI_static 1 [(3, .pointer (some ⟨b1, 0, none⟩)), (4, .pointer (some ⟨b2, 0, none⟩)), (10, .pointer (some ⟨b70, 0, none⟩)), (14, .int .i64 ((k2 : Nat) : Int)), (73, .int .i64 ((k2 : Nat) : Int))] (by kernel_rfl) ?_
              refine OI_cell 3 (.tmp 10) 0 (.int .i64 ((k2 : Nat) : Int)) (some 74) (by kernel_rfl) (by kernel_rfl) jb70 (m := 1) (by kernel_rfl) rfl ?_
              refine OI_static 4 [(3, .pointer (some ⟨b1, 0, none⟩)), (4, .pointer (some ⟨b2, 0, none⟩)), (10, .pointer (some ⟨b70, 0, none⟩)), (14, .int .i64 ((k2 : Nat) : Int)), (76, .bool (!(decide (((k2 : Nat) : Int) = ((k2 : Nat) : Int)))))] (by kernel_rfl) ?_
              refine OI_eq [(3, .pointer (some ⟨b1, 0, none⟩)), (4, .pointer (some ⟨b2, 0, none⟩)), (10, .pointer (some ⟨b70, 0, none⟩)), (14, .int .i64 ((k2 : Nat) : Int)), (76, .bool false)] (by rw [decide_eq_true (rfl : ((k2 : Nat) : Int) = ((k2 : Nat) : Int))]; rfl) ?_
              refine OI_static 7 [(3, .pointer (some ⟨b1, 0, none⟩)), (4, .pointer (some ⟨b2, 0, none⟩)), (10, .pointer (some ⟨b70, 0, none⟩)), (79, .bool (decide (((k2 : Nat) : Int) < 0)))] (by kernel_rfl) ?_
              refine OI_end rfl ?_
              refine X_then ?_
              refine V_eq [(3, .pointer (some ⟨b1, 0, none⟩)), (4, .pointer (some ⟨b2, 0, none⟩)), (10, .pointer (some ⟨b70, 0, none⟩)), (79, .bool false)] (by rw [decide_eq_false (by omega : ¬ ((k2 : Nat) : Int) < 0)]) ?_
              refine V_false rfl ?_
              refine V_skip ?_
              refine X_then ?_
              refine V_seq ?_
              refine V_region ?_
              refine OI_cell 3 (.tmp 10) 0 (.int .i64 ((k2 : Nat) : Int)) (some 80) (by kernel_rfl) (by kernel_rfl) jb70 (m := 1) (by kernel_rfl) rfl ?_
              have hw114 : IntKind.i64.wrap (((k2 : Nat) : Int) + 1) = ((k2 + 1 : Nat) : Int) := (wrap64_id (by omega) (by omega)).trans (by omega)
              refine OI_static 2 [(3, .pointer (some ⟨b1, 0, none⟩)), (10, .pointer (some ⟨b70, 0, none⟩)), (81, .int .i64 (IntKind.i64.wrap (((k2 : Nat) : Int) + 1)))] (by kernel_rfl) ?_
              refine OI_eq [(3, .pointer (some ⟨b1, 0, none⟩)), (10, .pointer (some ⟨b70, 0, none⟩)), (81, .int .i64 ((k2 + 1 : Nat) : Int))] (by rw [hw114]) ?_
              refine OI_set (m := 1) (kd := false) 3 (.tmp 10) (.tmp 81) 0 (.int .i64 ((k2 + 1 : Nat) : Int)) [.int .i64 ((k2 + 1 : Nat) : Int)] none (by kernel_rfl) (by kernel_rfl) (by kernel_rfl) jb70 (by kernel_rfl) (by kernel_rfl) (by kernel_rfl) (Nat.le_of_ble_eq_true (by kernel_rfl)) (by simp [Value.oneCell']) ?_
              intro w115 hb70_118 hk116 hz117
              replace hb70_118 : Blk w115 b70 [.int .i64 ((k2 + 1 : Nat) : Int)] 3 := hb70_118
              replace jb1 := jb1.keep hk116 (by show ¬ (_ = _); omega)
              have hb1lt := jb1.lt
              replace jb2 := jb2.keep hk116 (by show ¬ (_ = _); omega)
              have hb2lt := jb2.lt
              replace jbg61 := jbg61.keep hk116 (by show ¬ (_ = _); omega)
              have hbg61lt := jbg61.lt
              replace jbs62 := jbs62.keep hk116 (by show ¬ (_ = _); omega)
              have hbs62lt := jbs62.lt
              replace jbn63 := jbn63.keep hk116 (by show ¬ (_ = _); omega)
              have hbn63lt := jbn63.lt
              replace jbg66 := jbg66.keep hk116 (by show ¬ (_ = _); omega)
              have hbg66lt := jbg66.lt
              replace jbs67 := jbs67.keep hk116 (by show ¬ (_ = _); omega)
              have hbs67lt := jbs67.lt
              replace jbn68 := jbn68.keep hk116 (by show ¬ (_ = _); omega)
              have hbn68lt := jbn68.lt
              replace jb69 := jb69.keep hk116 (by show ¬ (_ = _); omega)
              have hb69lt := jb69.lt
              replace jg23 := jg23.keep hk116 (by show ¬ (_ = _); omega)
              have hg23lt := jg23.lt
              replace jA79 := SlT.keep jA79 hk116 (fun q hq hs => by have hs : q = b70 := hs; have g0 := owA79 q hq; have g1 := ltjA79 q hq; omega)
              replace jjhK0 := Keep.fresh jjhK0 hk116 (by intro i hi hs; first | exact hs | exact Or.inl hs | exact Or.inr hs | (exfalso; have hs2 : i = b70 := hs; omega)); have hzjjhK0 := Keep.size jjhK0
              replace jhDD := (Keep.block hk116 _ (Array.getElem?_eq_some_iff.1 jhDD).1 (by show ¬ (_ = _); omega)).trans jhDD
              replace hfen2b := Keep.fresh hfen2b hk116 (by intro i hi hs; have hs2 : i = b70 := hs; show _ ∨ _; omega); have hzhfen2b := Keep.size hfen2b
              refine OI_end rfl ?_
              refine X_then ?_
              refine V_seq ?_
              refine V_region ?_
              refine OI_cell 3 (.tmp 10) 0 (.int .i64 ((k2 + 1 : Nat) : Int)) (some 82) (by kernel_rfl) (by kernel_rfl) hb70_118 (m := 1) (by kernel_rfl) rfl ?_
              refine OI_cell 3 (.tmp 3) 0 (.int .i64 ((stop : Nat) : Int)) (some 83) (by kernel_rfl) (by kernel_rfl) jb1 (m := 1) (by kernel_rfl) rfl ?_
              refine OI_static 3 [(84, .bool (decide (((k2 + 1 : Nat) : Int) ≥ ((stop : Nat) : Int))))] (by kernel_rfl) ?_
              refine OI_end rfl ?_
              refine X_then ?_
              refine V_if (((k2 + 1 : Nat) : Int) ≥ ((stop : Nat) : Int)) (by kernel_rfl) (fun hc119 => ?_) (fun hc119 => ?_)
              · skip
                refine V_exit ?_
                refine X_exit_out (by decide) ?_
                exact fun a _ => ⟨hfen2b, ⟨rfl, jb1, jb2, jbg61, jbs62, jbn63, jbg66, jbs67, jbn68, jb69, jg23, jA79, jjhK0, jhDD, hb70_118, by omega⟩⟩
              · skip
                refine V_skip ?_
                refine X_block ?_
                exact fun a _ => ⟨hfen2b, jb1, jb2, jbg61, jbs62, jbn63, jbg66, jbs67, jbn68, jb69, jg23, jA79, jjhK0, jhDD, hb70_118, by omega⟩
            · skip
              intro D2 M12 W2 hD2 hM2 ⟨jb1, jb2, jbg61, jbs62, jbn63, jbg66, jbs67, jbn68, jb69, jg23, jA79, jjhK0, jhDD, jb70, hks⟩ hDD2
              have hzjjhK0 := Keep.size jjhK0
              have hb1lt := jb1.lt
              have hb2lt := jb2.lt
              have hbg61lt := jbg61.lt
              have hbs62lt := jbs62.lt
              have hbn63lt := jbn63.lt
              have hbg66lt := jbg66.lt
              have hbs67lt := jbs67.lt
              have hbn68lt := jbn68.lt
              have hb69lt := jb69.lt
              have hb70lt := jb70.lt
              have hg23lt := jg23.lt
              have ltjA79 := SlT.lt jA79
              refine X_block ?_
              refine X_then ?_
              refine V_seq ?_
              refine V_region ?_
              refine OI_cell 3 (.tmp 9) 0 (.int .i64 ((k : Nat) : Int)) (some 85) (by kernel_rfl) (by kernel_rfl) jb69 (m := 1) (by kernel_rfl) rfl ?_
              refine OI_static 2 [(3, .pointer (some ⟨b1, 0, none⟩)), (4, .pointer (some ⟨b2, 0, none⟩)), (9, .pointer (some ⟨b69, 0, none⟩)), (10, .pointer (some ⟨b70, 0, none⟩)), (85, .int .i64 ((k : Nat) : Int)), (86, .int .i64 ((n : Nat) : Int))] (by kernel_rfl) ?_
              refine OI_cell 3 (.tmp 3) 0 (.int .i64 ((stop : Nat) : Int)) (some 87) (by kernel_rfl) (by kernel_rfl) jb1 (m := 1) (by kernel_rfl) rfl ?_
              refine OI_static 6 [(4, .pointer (some ⟨b2, 0, none⟩)), (9, .pointer (some ⟨b69, 0, none⟩)), (10, .pointer (some ⟨b70, 0, none⟩)), (90, .bool (decide (((k : Nat) : Int) = if ((stop : Nat) : Int) < ((n : Nat) : Int) then ((stop : Nat) : Int) else ((n : Nat) : Int))))] (by kernel_rfl) ?_
              refine OI_eq [(4, .pointer (some ⟨b2, 0, none⟩)), (9, .pointer (some ⟨b69, 0, none⟩)), (10, .pointer (some ⟨b70, 0, none⟩)), (90, .bool true)] (by rw [decide_eq_true (by first | omega | (split <;> omega))]) ?_
              refine OI_cell 3 (.tmp 10) 0 (.int .i64 (((colL 3 (stp n)).length : Nat) : Int)) (some 91) (by kernel_rfl) (by kernel_rfl) jb70 (m := 1) (by kernel_rfl) rfl ?_
              refine OI_cell 3 (.tmp 9) 0 (.int .i64 ((k : Nat) : Int)) (some 92) (by kernel_rfl) (by kernel_rfl) jb69 (m := 1) (by kernel_rfl) rfl ?_
              refine OI_static 11 [(4, .pointer (some ⟨b2, 0, none⟩)), (95, .bool (decide ((((colL 3 (stp n)).length : Nat) : Int) = ((k : Nat) : Int))))] (by kernel_rfl) ?_
              refine OI_eq [(4, .pointer (some ⟨b2, 0, none⟩)), (95, .bool true)] (by rw [decide_eq_true (by first | omega | (split <;> omega))]) ?_
              refine OI_call { callee := (Callee.value (Operand.func 14)), args := #[], argTypes := #[] } 14 #[] (some 96) (by kernel_rfl) (by kernel_rfl) (by kernel_rfl) (known_spec _) ?_
              rintro _ w122 ⟨rfl, hk123⟩
              refine ⟨_, rfl, ?_⟩
              replace jb1 := jb1.keep hk123 (fun f => f)
              have hb1lt := jb1.lt
              replace jb2 := jb2.keep hk123 (fun f => f)
              have hb2lt := jb2.lt
              replace jbg61 := jbg61.keep hk123 (fun f => f)
              have hbg61lt := jbg61.lt
              replace jbs62 := jbs62.keep hk123 (fun f => f)
              have hbs62lt := jbs62.lt
              replace jbn63 := jbn63.keep hk123 (fun f => f)
              have hbn63lt := jbn63.lt
              replace jbg66 := jbg66.keep hk123 (fun f => f)
              have hbg66lt := jbg66.lt
              replace jbs67 := jbs67.keep hk123 (fun f => f)
              have hbs67lt := jbs67.lt
              replace jbn68 := jbn68.keep hk123 (fun f => f)
              have hbn68lt := jbn68.lt
              replace jb69 := jb69.keep hk123 (fun f => f)
              have hb69lt := jb69.lt
              replace jb70 := jb70.keep hk123 (fun f => f)
              have hb70lt := jb70.lt
              replace jg23 := jg23.keep hk123 (fun f => f)
              have hg23lt := jg23.lt
              replace jA79 := SlT.keep0 jA79 hk123
              replace jjhK0 := Keep.tr jjhK0 (Keep.ofNone hk123); have hzjjhK0 := Keep.size jjhK0
              replace jhDD := (Keep.block hk123 _ (Array.getElem?_eq_some_iff.1 jhDD).1 (fun f => f)).trans jhDD
              replace hDD2 := (Keep.block hk123 _ (Array.getElem?_eq_some_iff.1 hDD2).1 (fun f => f)).trans hDD2
              refine OI_static 13 [(4, .pointer (some ⟨b2, 0, none⟩)), (97, .bool true)] (by kernel_rfl) ?_
              refine OI_set (m := 1) (kd := false) 4 (.tmp 4) (.tmp 97) 0 (.bool true) [.bool true] none (by kernel_rfl) (by kernel_rfl) (by kernel_rfl) jb2 (by kernel_rfl) (by kernel_rfl) (by kernel_rfl) (Nat.le_of_ble_eq_true (by kernel_rfl)) (by simp [Value.oneCell']) ?_
              intro w124 hb2_127 hk125 hz126
              replace hb2_127 : Blk w124 b2 [.bool true] 4 := hb2_127
              replace jb1 := jb1.keep hk125 (by show ¬ (_ = _); omega)
              have hb1lt := jb1.lt
              replace jbg61 := jbg61.keep hk125 (by show ¬ (_ = _); omega)
              have hbg61lt := jbg61.lt
              replace jbs62 := jbs62.keep hk125 (by show ¬ (_ = _); omega)
              have hbs62lt := jbs62.lt
              replace jbn63 := jbn63.keep hk125 (by show ¬ (_ = _); omega)
              have hbn63lt := jbn63.lt
              replace jbg66 := jbg66.keep hk125 (by show ¬ (_ = _); omega)
              have hbg66lt := jbg66.lt
              replace jbs67 := jbs67.keep hk125 (by show ¬ (_ = _); omega)
              have hbs67lt := jbs67.lt
              replace jbn68 := jbn68.keep hk125 (by show ¬ (_ = _); omega)
              have hbn68lt := jbn68.lt
              replace jb69 := jb69.keep hk125 (by show ¬ (_ = _); omega)
              have hb69lt := jb69.lt
              replace jb70 := jb70.keep hk125 (by show ¬ (_ = _); omega)
              have hb70lt := jb70.lt
              replace jg23 := jg23.keep hk125 (by show ¬ (_ = _); omega)
              have hg23lt := jg23.lt
              replace jA79 := SlT.keep jA79 hk125 (fun q hq hs => by have hs : q = b2 := hs; have g0 := owA79 q hq; have g1 := ltjA79 q hq; omega)
              replace jjhK0 := Keep.fresh jjhK0 hk125 (by intro i hi hs; first | exact hs | exact Or.inl hs | exact Or.inr hs | (exfalso; have hs2 : i = b2 := hs; omega)); have hzjjhK0 := Keep.size jjhK0
              replace jhDD := (Keep.block hk125 _ (Array.getElem?_eq_some_iff.1 jhDD).1 (by show ¬ (_ = _); omega)).trans jhDD
              replace hDD2 := (Keep.block hk125 _ (Array.getElem?_eq_some_iff.1 hDD2).1 (by show ¬ (_ = _); omega)).trans hDD2
              refine OI_end rfl ?_
              refine X_then ?_
              refine V_ret ?_
              exact leave2 (.bool true) (.inl rfl) (by omega) jhDD hDD2 (fun w' hk => ⟨res_cell1 (n1 := 1) rfl rfl (by kernel_rfl) (Blk.quiet hb2_127 hk) , ⟨rfl, Keep.quiet jjhK0 hk (by omega)⟩⟩)
            · skip
              intro D2 M12 k2 c W2 hD2 hM2 hkm h hDD2
              obtain ⟨hc, jb1, jb2, jbg61, jbs62, jbn63, jbg66, jbs67, jbn68, jb69, jg23, jA79, jjhK0, jhDD, jb70, hke⟩ := h
              subst hc
              have hzjjhK0 := Keep.size jjhK0
              have hb1lt := jb1.lt
              have hb2lt := jb2.lt
              have hbg61lt := jbg61.lt
              have hbs62lt := jbs62.lt
              have hbn63lt := jbn63.lt
              have hbg66lt := jbg66.lt
              have hbs67lt := jbs67.lt
              have hbn68lt := jbn68.lt
              have hb69lt := jb69.lt
              have hb70lt := jb70.lt
              have hg23lt := jg23.lt
              have ltjA79 := SlT.lt jA79
              refine V_exit ?_
              refine X_exit_here ?_
              refine X_then ?_
              refine V_seq ?_
              refine V_region ?_
              refine OI_cell 3 (.tmp 9) 0 (.int .i64 ((k : Nat) : Int)) (some 85) (by kernel_rfl) (by kernel_rfl) jb69 (m := 1) (by kernel_rfl) rfl ?_
              refine OI_static 2 [(3, .pointer (some ⟨b1, 0, none⟩)), (4, .pointer (some ⟨b2, 0, none⟩)), (9, .pointer (some ⟨b69, 0, none⟩)), (10, .pointer (some ⟨b70, 0, none⟩)), (85, .int .i64 ((k : Nat) : Int)), (86, .int .i64 ((n : Nat) : Int))] (by kernel_rfl) ?_
              refine OI_cell 3 (.tmp 3) 0 (.int .i64 ((stop : Nat) : Int)) (some 87) (by kernel_rfl) (by kernel_rfl) jb1 (m := 1) (by kernel_rfl) rfl ?_
              refine OI_static 6 [(4, .pointer (some ⟨b2, 0, none⟩)), (9, .pointer (some ⟨b69, 0, none⟩)), (10, .pointer (some ⟨b70, 0, none⟩)), (90, .bool (decide (((k : Nat) : Int) = if ((stop : Nat) : Int) < ((n : Nat) : Int) then ((stop : Nat) : Int) else ((n : Nat) : Int))))] (by kernel_rfl) ?_
              refine OI_eq [(4, .pointer (some ⟨b2, 0, none⟩)), (9, .pointer (some ⟨b69, 0, none⟩)), (10, .pointer (some ⟨b70, 0, none⟩)), (90, .bool true)] (by rw [decide_eq_true (by first | omega | (split <;> omega))]) ?_
              refine OI_cell 3 (.tmp 10) 0 (.int .i64 ((k2 : Nat) : Int)) (some 91) (by kernel_rfl) (by kernel_rfl) jb70 (m := 1) (by kernel_rfl) rfl ?_
              refine OI_cell 3 (.tmp 9) 0 (.int .i64 ((k : Nat) : Int)) (some 92) (by kernel_rfl) (by kernel_rfl) jb69 (m := 1) (by kernel_rfl) rfl ?_
              refine OI_static 11 [(4, .pointer (some ⟨b2, 0, none⟩)), (95, .bool (decide (((k2 : Nat) : Int) = ((k : Nat) : Int))))] (by kernel_rfl) ?_
              refine OI_eq [(4, .pointer (some ⟨b2, 0, none⟩)), (95, .bool true)] (by rw [decide_eq_true (by first | omega | (split <;> omega))]) ?_
              refine OI_call { callee := (Callee.value (Operand.func 14)), args := #[], argTypes := #[] } 14 #[] (some 96) (by kernel_rfl) (by kernel_rfl) (by kernel_rfl) (known_spec _) ?_
              rintro _ w130 ⟨rfl, hk131⟩
              refine ⟨_, rfl, ?_⟩
              replace jb1 := jb1.keep hk131 (fun f => f)
              have hb1lt := jb1.lt
              replace jb2 := jb2.keep hk131 (fun f => f)
              have hb2lt := jb2.lt
              replace jbg61 := jbg61.keep hk131 (fun f => f)
              have hbg61lt := jbg61.lt
              replace jbs62 := jbs62.keep hk131 (fun f => f)
              have hbs62lt := jbs62.lt
              replace jbn63 := jbn63.keep hk131 (fun f => f)
              have hbn63lt := jbn63.lt
              replace jbg66 := jbg66.keep hk131 (fun f => f)
              have hbg66lt := jbg66.lt
              replace jbs67 := jbs67.keep hk131 (fun f => f)
              have hbs67lt := jbs67.lt
              replace jbn68 := jbn68.keep hk131 (fun f => f)
              have hbn68lt := jbn68.lt
              replace jb69 := jb69.keep hk131 (fun f => f)
              have hb69lt := jb69.lt
              replace jb70 := jb70.keep hk131 (fun f => f)
              have hb70lt := jb70.lt
              replace jg23 := jg23.keep hk131 (fun f => f)
              have hg23lt := jg23.lt
              replace jA79 := SlT.keep0 jA79 hk131
              replace jjhK0 := Keep.tr jjhK0 (Keep.ofNone hk131); have hzjjhK0 := Keep.size jjhK0
              replace jhDD := (Keep.block hk131 _ (Array.getElem?_eq_some_iff.1 jhDD).1 (fun f => f)).trans jhDD
              replace hDD2 := (Keep.block hk131 _ (Array.getElem?_eq_some_iff.1 hDD2).1 (fun f => f)).trans hDD2
              refine OI_static 13 [(4, .pointer (some ⟨b2, 0, none⟩)), (97, .bool true)] (by kernel_rfl) ?_
              refine OI_set (m := 1) (kd := false) 4 (.tmp 4) (.tmp 97) 0 (.bool true) [.bool true] none (by kernel_rfl) (by kernel_rfl) (by kernel_rfl) jb2 (by kernel_rfl) (by kernel_rfl) (by kernel_rfl) (Nat.le_of_ble_eq_true (by kernel_rfl)) (by simp [Value.oneCell']) ?_
              intro w132 hb2_135 hk133 hz134
              replace hb2_135 : Blk w132 b2 [.bool true] 4 := hb2_135
              replace jb1 := jb1.keep hk133 (by show ¬ (_ = _); omega)
              have hb1lt := jb1.lt
              replace jbg61 := jbg61.keep hk133 (by show ¬ (_ = _); omega)
              have hbg61lt := jbg61.lt
              replace jbs62 := jbs62.keep hk133 (by show ¬ (_ = _); omega)
              have hbs62lt := jbs62.lt
              replace jbn63 := jbn63.keep hk133 (by show ¬ (_ = _); omega)
              have hbn63lt := jbn63.lt
              replace jbg66 := jbg66.keep hk133 (by show ¬ (_ = _); omega)
              have hbg66lt := jbg66.lt
              replace jbs67 := jbs67.keep hk133 (by show ¬ (_ = _); omega)
              have hbs67lt := jbs67.lt
              replace jbn68 := jbn68.keep hk133 (by show ¬ (_ = _); omega)
              have hbn68lt := jbn68.lt
              replace jb69 := jb69.keep hk133 (by show ¬ (_ = _); omega)
              have hb69lt := jb69.lt
              replace jb70 := jb70.keep hk133 (by show ¬ (_ = _); omega)
              have hb70lt := jb70.lt
              replace jg23 := jg23.keep hk133 (by show ¬ (_ = _); omega)
              have hg23lt := jg23.lt
              replace jA79 := SlT.keep jA79 hk133 (fun q hq hs => by have hs : q = b2 := hs; have g0 := owA79 q hq; have g1 := ltjA79 q hq; omega)
              replace jjhK0 := Keep.fresh jjhK0 hk133 (by intro i hi hs; first | exact hs | exact Or.inl hs | exact Or.inr hs | (exfalso; have hs2 : i = b2 := hs; omega)); have hzjjhK0 := Keep.size jjhK0
              replace jhDD := (Keep.block hk133 _ (Array.getElem?_eq_some_iff.1 jhDD).1 (by show ¬ (_ = _); omega)).trans jhDD
              replace hDD2 := (Keep.block hk133 _ (Array.getElem?_eq_some_iff.1 hDD2).1 (by show ¬ (_ = _); omega)).trans hDD2
              refine OI_end rfl ?_
              refine X_then ?_
              refine V_ret ?_
              exact leave2 (.bool true) (.inl rfl) (by omega) jhDD hDD2 (fun w' hk => ⟨res_cell1 (n1 := 1) rfl rfl (by kernel_rfl) (Blk.quiet hb2_135 hk) , ⟨rfl, Keep.quiet jjhK0 hk (by omega)⟩⟩)

theorem walk_GridStops_neg (a b : Int) (h : a < 0 ∨ b < 0) (w : World) : Calls Try.prog 3 #[.int .i64 a, .int .i64 b] w fun e w' => e = .returned (.bool true) ∧ Keep none_ w w' := by
  have hK0 : Keep none_ w w := Keep.refl _ _
  have hzhK0 := Keep.size hK0
  refine enterM Try.func3 rfl [.int .i64 a, .int .i64 b] 98 rfl rfl rfl ?_
  refine V_pick [(0, .int .i64 a), (1, .int .i64 b)] rfl ?_
  refine V_seq ?_
  refine V_region ?_
  refine OI_box 3 (.tmp 1) (.int .i64 b) [.int .i64 b] (some 3) (by kernel_rfl) (by kernel_rfl) (by kernel_rfl) ?_
  intro b1 w1 e1 hb1 k1 z1
  replace hK0 := Keep.tr hK0 (Keep.ofNone k1); have hzhK0 := Keep.size hK0
  have hb1lt := hb1.lt
  refine OI_alloc 4 (.bool false) [.bool false] (some 4) (by kernel_rfl) (by kernel_rfl) (by kernel_rfl) ?_
  intro b2 w2 e2 hb2 k2 z2
  replace hb1 := hb1.keep k2 (fun f => f)
  have hb1lt := hb1.lt
  replace hK0 := Keep.tr hK0 (Keep.ofNone k2); have hzhK0 := Keep.size hK0
  have hb2lt := hb2.lt
  refine OI_end rfl ?_
  refine X_then ?_
  refine V_seq ?_
  refine V_seq ?_
  refine V_region ?_
  refine OI_static 3 [(0, .int .i64 a), (3, .pointer (some ⟨b1, 0, none⟩)), (4, .pointer (some ⟨b2, 0, none⟩)), (17, .bool (decide (a < 0)))] (by kernel_rfl) ?_
  by_cases hg3 : a < 0
  · skip
    refine OI_eq [(0, .int .i64 a), (3, .pointer (some ⟨b1, 0, none⟩)), (4, .pointer (some ⟨b2, 0, none⟩)), (17, .bool true)] (by simp [hg3]) ?_
    refine OI_static 14 [(0, .int .i64 a), (3, .pointer (some ⟨b1, 0, none⟩)), (4, .pointer (some ⟨b2, 0, none⟩)), (28, .bool true)] (by kernel_rfl) ?_
    refine OI_end rfl ?_
    refine X_then ?_
    refine V_true rfl ?_
    refine V_seq ?_
    refine V_region ?_
    refine OI_set (m := 1) (kd := false) 4 (.tmp 4) (.const (Value.bool true)) 0 (.bool true) [.bool true] none (by kernel_rfl) (by kernel_rfl) (by kernel_rfl) hb2 (by kernel_rfl) (by kernel_rfl) (by kernel_rfl) (Nat.le_of_ble_eq_true (by kernel_rfl)) (by simp [Value.oneCell']) ?_
    intro w4 hb2_7 hk5 hz6
    replace hb2_7 : Blk w4 b2 [.bool true] 4 := hb2_7
    replace hb1 := hb1.keep hk5 (by show ¬ (_ = _); omega)
    have hb1lt := hb1.lt
    replace hK0 := Keep.fresh hK0 hk5 (by intro i hi hs; first | exact hs | exact Or.inl hs | exact Or.inr hs | (exfalso; have hs2 : i = b2 := hs; omega)); have hzhK0 := Keep.size hK0
    refine OI_end rfl ?_
    refine X_then ?_
    refine V_ret ?_
    refine X_ret_then ?_
    exact leave0 (.bool true) (.inl rfl) (res_cell1 (n1 := 1) rfl rfl (by kernel_rfl) hb2_7 ) (⟨rfl, hK0⟩)
  · skip
    refine OI_eq [(0, .int .i64 a), (3, .pointer (some ⟨b1, 0, none⟩)), (4, .pointer (some ⟨b2, 0, none⟩)), (17, .bool false)] (by simp [hg3]) ?_
    refine OI_static 7 [(0, .int .i64 a), (3, .pointer (some ⟨b1, 0, none⟩)), (4, .pointer (some ⟨b2, 0, none⟩)), (21, .bool (decide (a > 60)))] (by kernel_rfl) ?_
    by_cases hg8 : a > 60
    · skip
      refine OI_eq [(0, .int .i64 a), (3, .pointer (some ⟨b1, 0, none⟩)), (4, .pointer (some ⟨b2, 0, none⟩)), (21, .bool true)] (by simp [hg8]) ?_
      refine OI_static 14 [(0, .int .i64 a), (3, .pointer (some ⟨b1, 0, none⟩)), (4, .pointer (some ⟨b2, 0, none⟩)), (28, .bool true)] (by kernel_rfl) ?_
      refine OI_end rfl ?_
      refine X_then ?_
      refine V_true rfl ?_
      refine V_seq ?_
      refine V_region ?_
      refine OI_set (m := 1) (kd := false) 4 (.tmp 4) (.const (Value.bool true)) 0 (.bool true) [.bool true] none (by kernel_rfl) (by kernel_rfl) (by kernel_rfl) hb2 (by kernel_rfl) (by kernel_rfl) (by kernel_rfl) (Nat.le_of_ble_eq_true (by kernel_rfl)) (by simp [Value.oneCell']) ?_
      intro w9 hb2_12 hk10 hz11
      replace hb2_12 : Blk w9 b2 [.bool true] 4 := hb2_12
      replace hb1 := hb1.keep hk10 (by show ¬ (_ = _); omega)
      have hb1lt := hb1.lt
      replace hK0 := Keep.fresh hK0 hk10 (by intro i hi hs; first | exact hs | exact Or.inl hs | exact Or.inr hs | (exfalso; have hs2 : i = b2 := hs; omega)); have hzhK0 := Keep.size hK0
      refine OI_end rfl ?_
      refine X_then ?_
      refine V_ret ?_
      refine X_ret_then ?_
      exact leave0 (.bool true) (.inl rfl) (res_cell1 (n1 := 1) rfl rfl (by kernel_rfl) hb2_12 ) (⟨rfl, hK0⟩)
    · skip
      refine OI_eq [(0, .int .i64 a), (3, .pointer (some ⟨b1, 0, none⟩)), (4, .pointer (some ⟨b2, 0, none⟩)), (21, .bool false)] (by simp [hg8]) ?_
      refine OI_cell 3 (.tmp 3) 0 (.int .i64 b) (some 22) (by kernel_rfl) (by kernel_rfl) hb1 (m := 1) (by kernel_rfl) rfl ?_
      refine OI_static 11 [(0, .int .i64 a), (3, .pointer (some ⟨b1, 0, none⟩)), (4, .pointer (some ⟨b2, 0, none⟩)), (25, .bool (decide (b < 1)))] (by kernel_rfl) ?_
      by_cases hg13 : b < 1
      · skip
        refine OI_eq [(0, .int .i64 a), (3, .pointer (some ⟨b1, 0, none⟩)), (4, .pointer (some ⟨b2, 0, none⟩)), (25, .bool true)] (by simp [hg13]) ?_
        refine OI_static 14 [(0, .int .i64 a), (3, .pointer (some ⟨b1, 0, none⟩)), (4, .pointer (some ⟨b2, 0, none⟩)), (28, .bool true)] (by kernel_rfl) ?_
        refine OI_end rfl ?_
        refine X_then ?_
        refine V_true rfl ?_
        refine V_seq ?_
        refine V_region ?_
        refine OI_set (m := 1) (kd := false) 4 (.tmp 4) (.const (Value.bool true)) 0 (.bool true) [.bool true] none (by kernel_rfl) (by kernel_rfl) (by kernel_rfl) hb2 (by kernel_rfl) (by kernel_rfl) (by kernel_rfl) (Nat.le_of_ble_eq_true (by kernel_rfl)) (by simp [Value.oneCell']) ?_
        intro w14 hb2_17 hk15 hz16
        replace hb2_17 : Blk w14 b2 [.bool true] 4 := hb2_17
        replace hb1 := hb1.keep hk15 (by show ¬ (_ = _); omega)
        have hb1lt := hb1.lt
        replace hK0 := Keep.fresh hK0 hk15 (by intro i hi hs; first | exact hs | exact Or.inl hs | exact Or.inr hs | (exfalso; have hs2 : i = b2 := hs; omega)); have hzhK0 := Keep.size hK0
        refine OI_end rfl ?_
        refine X_then ?_
        refine V_ret ?_
        refine X_ret_then ?_
        exact leave0 (.bool true) (.inl rfl) (res_cell1 (n1 := 1) rfl rfl (by kernel_rfl) hb2_17 ) (⟨rfl, hK0⟩)
      · skip
        exact (by omega : False).elim

theorem said_GridStops (a b : Int) (w : World) : Calls Try.prog 3 #[.int .i64 a, .int .i64 b] w fun e w' => e = .returned (.bool true) ∧ Keep none_ w w' := by
  by_cases h : a < 0 ∨ b < 0
  · exact walk_GridStops_neg a b h w
  · obtain ⟨n, rfl⟩ : ∃ x : Nat, a = x := ⟨a.toNat, by omega⟩
    obtain ⟨m, rfl⟩ : ∃ x : Nat, b = x := ⟨b.toNat, by omega⟩
    exact walk_GridStops n m w
end Go.Al
