/-
  Put together out of 6 texts: Walks of the laws of refer: New. Walks of the laws of refer: the document's answers. Walks of the laws of refer: a beginning. Walks of the laws of refer: states; one that nobody backs. The laws of refer: one that finds no room. Walks of the laws of refer: one that finds no room.
-/
import Derived.Test.YtjjfimbihdoknaaGreatReferTimesB4
namespace Go.Al
open Go Go.RowKit Go.Proofs
set_option maxRecDepth 10000 in
theorem r4In_spec (n lo hi : Int) (w : World) : Calls Tryz.prog 168 #[.int .i64 n, .int .i64 lo, .int .i64 hi] w fun e w' => e = .returned (.bool (decide (lo ≤ n ∧ n ≤ hi))) ∧ w' = w := by
 refine enterV Tryz.func168 rfl [nt n, nt lo, nt hi] 15 rfl rfl rfl ?_
 refine V_pick [(0, nt n), (1, nt lo), (2, nt hi)] rfl ?_
 refine Vr ?_
 refine Os 1 [(0, nt n), (1, nt lo), (2, nt hi)] ?_
 refine Oer ?_
 refine Os 4 [(0, nt n), (2, nt hi), (10, .bool (decide (n ≥ lo)))] ?_
 by_cases hg1 : n ≥ lo
 ·
  refine OI_eq [(0, nt n), (2, nt hi), (10, .bool true)] (by first | simp [hg1] | rfl) ?_
  refine Os 9 [(6, .bool (decide (n ≤ hi)))] ?_
  refine Oe ?_
  refine V_ret ?_
  exact X_return (.bool (decide (n ≤ hi))) rfl ⟨by congr 2; simp only [Bool.decide_and]; by_cases h1 : lo ≤ n <;> simp [h1] <;> omega, rfl⟩
 refine OI_eq [(0, nt n), (2, nt hi), (10, .bool false)] (by first | simp [hg1] | rfl) ?_
 refine Os 9 [(6, .bool false)] ?_
 refine Oe ?_
 refine V_ret ?_
 exact X_return (.bool false) rfl ⟨by congr 2; simp only [Bool.decide_and]; by_cases h1 : lo ≤ n <;> simp [h1] <;> omega, rfl⟩

set_option maxRecDepth 10000 in
theorem r10In_spec (n lo hi : Int) (w : World) : Calls Tryz.prog 118 #[.int .i64 n, .int .i64 lo, .int .i64 hi] w fun e w' => e = .returned (.bool (decide (lo ≤ n ∧ n ≤ hi))) ∧ w' = w := by
 refine enterV Tryz.func118 rfl [nt n, nt lo, nt hi] 15 rfl rfl rfl ?_
 refine V_pick [(0, nt n), (1, nt lo), (2, nt hi)] rfl ?_
 refine Vr ?_
 refine Os 1 [(0, nt n), (1, nt lo), (2, nt hi)] ?_
 refine Oer ?_
 refine Os 4 [(0, nt n), (2, nt hi), (10, .bool (decide (n ≥ lo)))] ?_
 by_cases hg1 : n ≥ lo
 ·
  refine OI_eq [(0, nt n), (2, nt hi), (10, .bool true)] (by first | simp [hg1] | rfl) ?_
  refine Os 9 [(6, .bool (decide (n ≤ hi)))] ?_
  refine Oe ?_
  refine V_ret ?_
  exact X_return (.bool (decide (n ≤ hi))) rfl ⟨by congr 2; simp only [Bool.decide_and]; by_cases h1 : lo ≤ n <;> simp [h1] <;> omega, rfl⟩
 refine OI_eq [(0, nt n), (2, nt hi), (10, .bool false)] (by first | simp [hg1] | rfl) ?_
 refine Os 9 [(6, .bool false)] ?_
 refine Oe ?_
 refine V_ret ?_
 exact X_return (.bool false) rfl ⟨by congr 2; simp only [Bool.decide_and]; by_cases h1 : lo ≤ n <;> simp [h1] <;> omega, rfl⟩

set_option maxRecDepth 10000 in
theorem r4Is_spec (c : Crv) (w : World) : Calls Tryz.prog 119 #[.agg c.cells.toArray] w fun e w' => e = .returned (.bool (decide (okCrv c))) ∧ Keep none_ w w' := by
 have hK0 : Keep none_ w w := Keep.refl _ _
 have hzhK0 := Keep.size hK0
 refine enterV Tryz.func119 rfl [.agg (Crv.cells c).toArray] 69 rfl rfl rfl ?_
 refine V_pick [(0, .agg (Crv.cells c).toArray)] rfl ?_
 refine Vr ?_
 refine OI_box 25 (.tmp 0) (.agg (Crv.cells c).toArray) (Crv.cells c) (some 1) (by kernel_rfl) (by kernel_rfl) rfl ?_
 intro b1 w1 e1 hb1 k1 z1
 have hsz2 := Keep.size k1
 replace hK0 := Keep.tr hK0 (Keep.ofNone k1)
 have hb1lt := hb1.lt
 refine Os 2 [(1, pt b1)] ?_
 refine Oe ?_
 refine V_seq ?_
 refine Vr ?_
 refine Os 1 [(1, pt b1), (3, pt b1)] ?_
 refine Oc 3 (.tmp 3) 0 (nt c.k) (some 4) hb1 rfl ?_
 refine Oe ?_
 refine V_block ?_
 refine Vr ?_
 refine Os 2 [(1, pt b1), (4, nt c.k), (5, .bool (decide (c.k = 1)))] ?_
 refine Oe ?_
 refine V_if (c.k = 1) (by kernel_rfl) (fun hc3 => ?_) (fun hc3 => ?_)
 ·
  refine Vr ?_
  refine Os 1 [(1, pt b1), (7, .pointer (some ⟨b1, 1, none⟩))] ?_
  refine Oc 3 (.tmp 7) 1 (nt c.a) (some 8) hb1 rfl ?_
  refine Ok { callee := (Callee.value (Operand.func 168)), args := #[(Operand.tmp 8), (Operand.const (Value.int IntKind.i64 0)), (Operand.const (Value.int IntKind.i64 1000000000))], argTypes := #[3, 3, 3] } 168 #[nt c.a, nt 0, nt 1000000000] (some 9) (r4In_spec c.a 0 1000000000 _) ?_
  rintro _ w1 ⟨rfl, rfl⟩
  refine ⟨_, rfl, ?_⟩
  refine Os 4 [(1, pt b1), (10, .bool (decide ((0 : Int) ≤ c.a ∧ c.a ≤ 1000000000)))] ?_
  by_cases hg7 : (0 : Int) ≤ c.a ∧ c.a ≤ 1000000000
  ·
   refine OI_eq [(1, pt b1), (10, .bool true)] (by first | simp [hg7] | rfl) ?_
   refine Os 5 [(1, pt b1), (10, .bool true), (11, .pointer (some ⟨b1, 2, none⟩))] ?_
   refine Oc 3 (.tmp 11) 2 (nt c.b) (some 12) hb1 rfl ?_
   refine Os 7 [(1, pt b1), (10, .bool true), (12, nt c.b), (13, .pointer (some ⟨b1, 1, none⟩))] ?_
   refine Oc 3 (.tmp 13) 1 (nt c.a) (some 14) hb1 rfl ?_
   refine Ok { callee := (Callee.value (Operand.func 168)), args := #[(Operand.tmp 12), (Operand.const (Value.int IntKind.i64 0)), (Operand.tmp 14)], argTypes := #[3, 3, 3] } 168 #[nt c.b, nt 0, nt c.a] (some 15) (r4In_spec c.b 0 c.a _) ?_
   rintro _ w1 ⟨rfl, rfl⟩
   refine ⟨_, rfl, ?_⟩
   refine Os 11 [(1, pt b1), (17, .bool (decide ((0 : Int) ≤ c.b ∧ c.b ≤ c.a)))] ?_
   by_cases hg11 : (0 : Int) ≤ c.b ∧ c.b ≤ c.a
   ·
    refine OI_eq [(1, pt b1), (17, .bool true)] (by first | simp [hg11] | rfl) ?_
    refine Os 12 [(1, pt b1), (17, .bool true), (18, .pointer (some ⟨b1, 3, none⟩))] ?_
    refine Oc 3 (.tmp 18) 3 (nt c.c) (some 19) hb1 rfl ?_
    refine Ok { callee := (Callee.value (Operand.func 168)), args := #[(Operand.tmp 19), (Operand.const (Value.int IntKind.i64 1)), (Operand.const (Value.int IntKind.i64 1000000000))], argTypes := #[3, 3, 3] } 168 #[nt c.c, nt 1, nt 1000000000] (some 20) (r4In_spec c.c 1 1000000000 _) ?_
    rintro _ w1 ⟨rfl, rfl⟩
    refine ⟨_, rfl, ?_⟩
    refine Os 16 [(1, pt b1), (22, .bool (decide ((1 : Int) ≤ c.c ∧ c.c ≤ 1000000000)))] ?_
    by_cases hg15 : (1 : Int) ≤ c.c ∧ c.c ≤ 1000000000
    ·
     refine OI_eq [(1, pt b1), (22, .bool true)] (by first | simp [hg15] | rfl) ?_
     refine Os 17 [(22, .bool true), (23, .pointer (some ⟨b1, 4, none⟩))] ?_
     refine Oc 3 (.tmp 23) 4 (nt c.d) (some 24) hb1 rfl ?_
     refine Os 21 [(2, .bool (decide (c.d = 0)))] ?_
     refine Oe ?_
     refine V_ret ?_
     refine X_ret_block ?_
     refine X_ret_then ?_
     exact X_return (.bool (decide (c.d = 0))) rfl ⟨by congr 2; first | (apply Eq.symm; (try simp only [decide_eq_true_eq]); (try simp only [decide_eq_false_iff_not]); unfold okCrv fallsC; simp_all <;> omega) | (rw [decide_eq_decide]; unfold okCrv fallsC; simp_all <;> omega), hK0⟩
    refine OI_eq [(1, pt b1), (22, .bool false)] (by first | simp [hg15] | rfl) ?_
    refine Os 21 [(2, .bool false)] ?_
    refine Oe ?_
    refine V_ret ?_
    refine X_ret_block ?_
    refine X_ret_then ?_
    exact X_return (.bool false) rfl ⟨by congr 2; first | (apply Eq.symm; (try simp only [decide_eq_true_eq]); (try simp only [decide_eq_false_iff_not]); unfold okCrv fallsC; simp_all <;> omega) | (rw [decide_eq_decide]; unfold okCrv fallsC; simp_all <;> omega), hK0⟩
   refine OI_eq [(1, pt b1), (17, .bool false)] (by first | simp [hg11] | rfl) ?_
   refine Os 21 [(2, .bool false)] ?_
   refine Oe ?_
   refine V_ret ?_
   refine X_ret_block ?_
   refine X_ret_then ?_
   exact X_return (.bool false) rfl ⟨by congr 2; first | (apply Eq.symm; (try simp only [decide_eq_true_eq]); (try simp only [decide_eq_false_iff_not]); unfold okCrv fallsC; simp_all <;> omega) | (rw [decide_eq_decide]; unfold okCrv fallsC; simp_all <;> omega), hK0⟩
  refine OI_eq [(1, pt b1), (10, .bool false)] (by first | simp [hg7] | rfl) ?_
  refine Os 21 [(2, .bool false)] ?_
  refine Oe ?_
  refine V_ret ?_
  refine X_ret_block ?_
  refine X_ret_then ?_
  exact X_return (.bool false) rfl ⟨by congr 2; first | (apply Eq.symm; (try simp only [decide_eq_true_eq]); (try simp only [decide_eq_false_iff_not]); unfold okCrv fallsC; simp_all <;> omega) | (rw [decide_eq_decide]; unfold okCrv fallsC; simp_all <;> omega), hK0⟩
 refine Vr ?_
 refine Os 2 [(1, pt b1), (4, nt c.k), (27, .bool (decide (c.k = 2)))] ?_
 refine Oe ?_
 refine V_if (c.k = 2) (by kernel_rfl) (fun hc16 => ?_) (fun hc16 => ?_)
 ·
  refine Vr ?_
  refine Os 1 [(1, pt b1), (29, .pointer (some ⟨b1, 1, none⟩))] ?_
  refine Oc 3 (.tmp 29) 1 (nt c.a) (some 30) hb1 rfl ?_
  refine Ok { callee := (Callee.value (Operand.func 168)), args := #[(Operand.tmp 30), (Operand.const (Value.int IntKind.i64 0)), (Operand.const (Value.int IntKind.i64 1000000000))], argTypes := #[3, 3, 3] } 168 #[nt c.a, nt 0, nt 1000000000] (some 31) (r4In_spec c.a 0 1000000000 _) ?_
  rintro _ w1 ⟨rfl, rfl⟩
  refine ⟨_, rfl, ?_⟩
  refine Os 4 [(1, pt b1), (32, .bool (decide ((0 : Int) ≤ c.a ∧ c.a ≤ 1000000000)))] ?_
  by_cases hg20 : (0 : Int) ≤ c.a ∧ c.a ≤ 1000000000
  ·
   refine OI_eq [(1, pt b1), (32, .bool true)] (by first | simp [hg20] | rfl) ?_
   refine Os 5 [(1, pt b1), (32, .bool true), (33, .pointer (some ⟨b1, 2, none⟩))] ?_
   refine Oc 3 (.tmp 33) 2 (nt c.b) (some 34) hb1 rfl ?_
   refine Os 7 [(1, pt b1), (32, .bool true), (34, nt c.b), (35, .pointer (some ⟨b1, 1, none⟩))] ?_
   refine Oc 3 (.tmp 35) 1 (nt c.a) (some 36) hb1 rfl ?_
   refine Ok { callee := (Callee.value (Operand.func 168)), args := #[(Operand.tmp 34), (Operand.const (Value.int IntKind.i64 0)), (Operand.tmp 36)], argTypes := #[3, 3, 3] } 168 #[nt c.b, nt 0, nt c.a] (some 37) (r4In_spec c.b 0 c.a _) ?_
   rintro _ w1 ⟨rfl, rfl⟩
   refine ⟨_, rfl, ?_⟩
   refine Os 11 [(1, pt b1), (39, .bool (decide ((0 : Int) ≤ c.b ∧ c.b ≤ c.a)))] ?_
   by_cases hg24 : (0 : Int) ≤ c.b ∧ c.b ≤ c.a
   ·
    refine OI_eq [(1, pt b1), (39, .bool true)] (by first | simp [hg24] | rfl) ?_
    refine Os 12 [(1, pt b1), (39, .bool true), (40, .pointer (some ⟨b1, 3, none⟩))] ?_
    refine Oc 3 (.tmp 40) 3 (nt c.c) (some 41) hb1 rfl ?_
    refine Ok { callee := (Callee.value (Operand.func 168)), args := #[(Operand.tmp 41), (Operand.const (Value.int IntKind.i64 1)), (Operand.const (Value.int IntKind.i64 1000000000))], argTypes := #[3, 3, 3] } 168 #[nt c.c, nt 1, nt 1000000000] (some 42) (r4In_spec c.c 1 1000000000 _) ?_
    rintro _ w1 ⟨rfl, rfl⟩
    refine ⟨_, rfl, ?_⟩
    refine Os 16 [(1, pt b1), (44, .bool (decide ((1 : Int) ≤ c.c ∧ c.c ≤ 1000000000)))] ?_
    by_cases hg28 : (1 : Int) ≤ c.c ∧ c.c ≤ 1000000000
    ·
     refine OI_eq [(1, pt b1), (44, .bool true)] (by first | simp [hg28] | rfl) ?_
     refine Os 17 [(44, .bool true), (45, .pointer (some ⟨b1, 4, none⟩))] ?_
     refine Oc 3 (.tmp 45) 4 (nt c.d) (some 46) hb1 rfl ?_
     refine Ok { callee := (Callee.value (Operand.func 168)), args := #[(Operand.tmp 46), (Operand.const (Value.int IntKind.i64 1)), (Operand.const (Value.int IntKind.i64 1000000000))], argTypes := #[3, 3, 3] } 168 #[nt c.d, nt 1, nt 1000000000] (some 47) (r4In_spec c.d 1 1000000000 _) ?_
     rintro _ w1 ⟨rfl, rfl⟩
     refine ⟨_, rfl, ?_⟩
     refine Os 21 [(2, .bool (decide ((1 : Int) ≤ c.d ∧ c.d ≤ 1000000000)))] ?_
     refine Oe ?_
     refine V_ret ?_
     refine X_ret_block ?_
     refine X_ret_then ?_
     exact X_return (.bool (decide ((1 : Int) ≤ c.d ∧ c.d ≤ 1000000000))) rfl ⟨by congr 2; first | (apply Eq.symm; (try simp only [decide_eq_true_eq]); (try simp only [decide_eq_false_iff_not]); unfold okCrv fallsC; simp_all <;> omega) | (rw [decide_eq_decide]; unfold okCrv fallsC; simp_all <;> omega), hK0⟩
    refine OI_eq [(1, pt b1), (44, .bool false)] (by first | simp [hg28] | rfl) ?_
    refine Os 21 [(2, .bool false)] ?_
    refine Oe ?_
    refine V_ret ?_
    refine X_ret_block ?_
    refine X_ret_then ?_
    exact X_return (.bool false) rfl ⟨by congr 2; first | (apply Eq.symm; (try simp only [decide_eq_true_eq]); (try simp only [decide_eq_false_iff_not]); unfold okCrv fallsC; simp_all <;> omega) | (rw [decide_eq_decide]; unfold okCrv fallsC; simp_all <;> omega), hK0⟩
   refine OI_eq [(1, pt b1), (39, .bool false)] (by first | simp [hg24] | rfl) ?_
   refine Os 21 [(2, .bool false)] ?_
   refine Oe ?_
   refine V_ret ?_
   refine X_ret_block ?_
   refine X_ret_then ?_
   exact X_return (.bool false) rfl ⟨by congr 2; first | (apply Eq.symm; (try simp only [decide_eq_true_eq]); (try simp only [decide_eq_false_iff_not]); unfold okCrv fallsC; simp_all <;> omega) | (rw [decide_eq_decide]; unfold okCrv fallsC; simp_all <;> omega), hK0⟩
  refine OI_eq [(1, pt b1), (32, .bool false)] (by first | simp [hg20] | rfl) ?_
  refine Os 21 [(2, .bool false)] ?_
  refine Oe ?_
  refine V_ret ?_
  refine X_ret_block ?_
  refine X_ret_then ?_
  exact X_return (.bool false) rfl ⟨by congr 2; first | (apply Eq.symm; (try simp only [decide_eq_true_eq]); (try simp only [decide_eq_false_iff_not]); unfold okCrv fallsC; simp_all <;> omega) | (rw [decide_eq_decide]; unfold okCrv fallsC; simp_all <;> omega), hK0⟩
 refine Vr ?_
 refine Os 2 [(1, pt b1), (49, .bool (decide (c.k = 3)))] ?_
 refine Oe ?_
 refine V_if (c.k = 3) (by kernel_rfl) (fun hc32 => ?_) (fun hc32 => ?_)
 ·
  refine Vr ?_
  refine Os 1 [(1, pt b1), (51, .pointer (some ⟨b1, 1, none⟩))] ?_
  refine Oc 3 (.tmp 51) 1 (nt c.a) (some 52) hb1 rfl ?_
  refine Ok { callee := (Callee.value (Operand.func 168)), args := #[(Operand.tmp 52), (Operand.const (Value.int IntKind.i64 0)), (Operand.const (Value.int IntKind.i64 1000000000))], argTypes := #[3, 3, 3] } 168 #[nt c.a, nt 0, nt 1000000000] (some 53) (r4In_spec c.a 0 1000000000 _) ?_
  rintro _ w1 ⟨rfl, rfl⟩
  refine ⟨_, rfl, ?_⟩
  refine Os 4 [(1, pt b1), (54, .bool (decide ((0 : Int) ≤ c.a ∧ c.a ≤ 1000000000)))] ?_
  by_cases hg36 : (0 : Int) ≤ c.a ∧ c.a ≤ 1000000000
  ·
   refine OI_eq [(1, pt b1), (54, .bool true)] (by first | simp [hg36] | rfl) ?_
   refine Os 5 [(1, pt b1), (54, .bool true), (55, .pointer (some ⟨b1, 2, none⟩))] ?_
   refine Oc 3 (.tmp 55) 2 (nt c.b) (some 56) hb1 rfl ?_
   refine Ok { callee := (Callee.value (Operand.func 168)), args := #[(Operand.tmp 56), (Operand.const (Value.int IntKind.i64 1)), (Operand.const (Value.int IntKind.i64 1000000000))], argTypes := #[3, 3, 3] } 168 #[nt c.b, nt 1, nt 1000000000] (some 57) (r4In_spec c.b 1 1000000000 _) ?_
   rintro _ w1 ⟨rfl, rfl⟩
   refine ⟨_, rfl, ?_⟩
   refine Os 9 [(1, pt b1), (59, .bool (decide ((1 : Int) ≤ c.b ∧ c.b ≤ 1000000000)))] ?_
   by_cases hg40 : (1 : Int) ≤ c.b ∧ c.b ≤ 1000000000
   ·
    refine OI_eq [(1, pt b1), (59, .bool true)] (by first | simp [hg40] | rfl) ?_
    refine Os 10 [(1, pt b1), (59, .bool true), (60, .pointer (some ⟨b1, 3, none⟩))] ?_
    refine Oc 3 (.tmp 60) 3 (nt c.c) (some 61) hb1 rfl ?_
    refine Ok { callee := (Callee.value (Operand.func 168)), args := #[(Operand.tmp 61), (Operand.const (Value.int IntKind.i64 0)), (Operand.const (Value.int IntKind.i64 1000000000))], argTypes := #[3, 3, 3] } 168 #[nt c.c, nt 0, nt 1000000000] (some 62) (r4In_spec c.c 0 1000000000 _) ?_
    rintro _ w1 ⟨rfl, rfl⟩
    refine ⟨_, rfl, ?_⟩
    refine Os 14 [(1, pt b1), (64, .bool (decide ((0 : Int) ≤ c.c ∧ c.c ≤ 1000000000)))] ?_
    by_cases hg44 : (0 : Int) ≤ c.c ∧ c.c ≤ 1000000000
    ·
     refine OI_eq [(1, pt b1), (64, .bool true)] (by first | simp [hg44] | rfl) ?_
     refine Os 15 [(64, .bool true), (65, .pointer (some ⟨b1, 4, none⟩))] ?_
     refine Oc 3 (.tmp 65) 4 (nt c.d) (some 66) hb1 rfl ?_
     refine Os 19 [(2, .bool (decide (c.d = 0)))] ?_
     refine Oe ?_
     refine V_ret ?_
     refine X_ret_block ?_
     refine X_ret_then ?_
     exact X_return (.bool (decide (c.d = 0))) rfl ⟨by congr 2; first | (apply Eq.symm; (try simp only [decide_eq_true_eq]); (try simp only [decide_eq_false_iff_not]); unfold okCrv fallsC; simp_all <;> omega) | (rw [decide_eq_decide]; unfold okCrv fallsC; simp_all <;> omega), hK0⟩
    refine OI_eq [(1, pt b1), (64, .bool false)] (by first | simp [hg44] | rfl) ?_
    refine Os 19 [(2, .bool false)] ?_
    refine Oe ?_
    refine V_ret ?_
    refine X_ret_block ?_
    refine X_ret_then ?_
    exact X_return (.bool false) rfl ⟨by congr 2; first | (apply Eq.symm; (try simp only [decide_eq_true_eq]); (try simp only [decide_eq_false_iff_not]); unfold okCrv fallsC; simp_all <;> omega) | (rw [decide_eq_decide]; unfold okCrv fallsC; simp_all <;> omega), hK0⟩
   refine OI_eq [(1, pt b1), (59, .bool false)] (by first | simp [hg40] | rfl) ?_
   refine Os 19 [(2, .bool false)] ?_
   refine Oe ?_
   refine V_ret ?_
   refine X_ret_block ?_
   refine X_ret_then ?_
   exact X_return (.bool false) rfl ⟨by congr 2; first | (apply Eq.symm; (try simp only [decide_eq_true_eq]); (try simp only [decide_eq_false_iff_not]); unfold okCrv fallsC; simp_all <;> omega) | (rw [decide_eq_decide]; unfold okCrv fallsC; simp_all <;> omega), hK0⟩
  refine OI_eq [(1, pt b1), (54, .bool false)] (by first | simp [hg36] | rfl) ?_
  refine Os 19 [(2, .bool false)] ?_
  refine Oe ?_
  refine V_ret ?_
  refine X_ret_block ?_
  refine X_ret_then ?_
  exact X_return (.bool false) rfl ⟨by congr 2; first | (apply Eq.symm; (try simp only [decide_eq_true_eq]); (try simp only [decide_eq_false_iff_not]); unfold okCrv fallsC; simp_all <;> omega) | (rw [decide_eq_decide]; unfold okCrv fallsC; simp_all <;> omega), hK0⟩
 refine V_skip ?_
 refine X_block ?_
 refine X_then ?_
 refine Vr ?_
 refine Os 1 [(2, .bool false)] ?_
 refine Oe ?_
 refine V_ret ?_
 exact X_return (.bool false) rfl ⟨by congr 2; first | (apply Eq.symm; (try simp only [decide_eq_true_eq]); (try simp only [decide_eq_false_iff_not]); unfold okCrv fallsC; simp_all <;> omega) | (rw [decide_eq_decide]; unfold okCrv fallsC; simp_all <;> omega), hK0⟩

set_option maxRecDepth 10000 in
theorem r10Is_spec (x : Trk) (w : World) : Calls Tryz.prog 78 #[.agg x.cells.toArray] w fun e w' => e = .returned (.bool (decide (okTrk x))) ∧ Keep none_ w w' := by
 have hK0 : Keep none_ w w := Keep.refl _ _
 have hzhK0 := Keep.size hK0
 refine enterV Tryz.func78 rfl [.agg (Trk.cells x).toArray] 51 rfl rfl rfl ?_
 refine V_pick [(0, .agg (Trk.cells x).toArray)] rfl ?_
 refine Vr ?_
 refine OI_box 27 (.tmp 0) (.agg (Trk.cells x).toArray) (Trk.cells x) (some 1) (by kernel_rfl) (by kernel_rfl) rfl ?_
 intro b1 w1 e1 hb1 k1 z1
 have hsz2 := Keep.size k1
 replace hK0 := Keep.tr hK0 (Keep.ofNone k1)
 have hb1lt := hb1.lt
 refine Os 2 [(1, pt b1)] ?_
 refine Oer ?_
 refine Os 1 [(1, pt b1), (3, pt b1)] ?_
 refine Oc 3 (.tmp 3) 0 (nt x.most) (some 4) hb1 rfl ?_
 refine Ok { callee := (Callee.value (Operand.func 118)), args := #[(Operand.tmp 4), (Operand.const (Value.int IntKind.i64 1)), (Operand.const (Value.int IntKind.i64 12))], argTypes := #[3, 3, 3] } 118 #[nt x.most, nt 1, nt 12] (some 5) (r10In_spec x.most 1 12 _) ?_
 rintro _ w1 ⟨rfl, rfl⟩
 refine ⟨_, rfl, ?_⟩
 refine Os 4 [(1, pt b1), (6, .bool (decide ((1 : Int) ≤ x.most ∧ x.most ≤ 12)))] ?_
 by_cases hg6 : (1 : Int) ≤ x.most ∧ x.most ≤ 12
 ·
  refine OI_eq [(1, pt b1), (6, .bool true)] (by first | simp [hg6] | rfl) ?_
  refine Os 5 [(1, pt b1), (6, .bool true), (7, .pointer (some ⟨b1, 1, none⟩))] ?_
  refine Oc 3 (.tmp 7) 1 (nt x.deposit) (some 8) hb1 rfl ?_
  refine Ok { callee := (Callee.value (Operand.func 118)), args := #[(Operand.tmp 8), (Operand.const (Value.int IntKind.i64 0)), (Operand.const (Value.int IntKind.i64 1073741824))], argTypes := #[3, 3, 3] } 118 #[nt x.deposit, nt 0, nt 1073741824] (some 9) (r10In_spec x.deposit 0 1073741824 _) ?_
  rintro _ w1 ⟨rfl, rfl⟩
  refine ⟨_, rfl, ?_⟩
  refine Os 9 [(1, pt b1), (11, .bool (decide ((0 : Int) ≤ x.deposit ∧ x.deposit ≤ 1073741824)))] ?_
  by_cases hg10 : (0 : Int) ≤ x.deposit ∧ x.deposit ≤ 1073741824
  ·
   refine OI_eq [(1, pt b1), (11, .bool true)] (by first | simp [hg10] | rfl) ?_
   refine Os 10 [(1, pt b1), (11, .bool true), (12, .pointer (some ⟨b1, 16, none⟩))] ?_
   refine Oc 3 (.tmp 12) 16 (nt x.cap) (some 13) hb1 rfl ?_
   refine Ok { callee := (Callee.value (Operand.func 118)), args := #[(Operand.tmp 13), (Operand.const (Value.int IntKind.i64 0)), (Operand.const (Value.int IntKind.i64 1073741824))], argTypes := #[3, 3, 3] } 118 #[nt x.cap, nt 0, nt 1073741824] (some 14) (r10In_spec x.cap 0 1073741824 _) ?_
   rintro _ w1 ⟨rfl, rfl⟩
   refine ⟨_, rfl, ?_⟩
   refine Os 14 [(1, pt b1), (16, .bool (decide ((0 : Int) ≤ x.cap ∧ x.cap ≤ 1073741824)))] ?_
   by_cases hg14 : (0 : Int) ≤ x.cap ∧ x.cap ≤ 1073741824
   ·
    refine OI_eq [(1, pt b1), (16, .bool true)] (by first | simp [hg14] | rfl) ?_
    refine Os 15 [(1, pt b1), (16, .bool true), (17, .pointer (some ⟨b1, 2, none⟩))] ?_
    refine Oc 3 (.tmp 17) 2 (nt x.prepare) (some 18) hb1 rfl ?_
    refine Ok { callee := (Callee.value (Operand.func 118)), args := #[(Operand.tmp 18), (Operand.const (Value.int IntKind.i64 0)), (Operand.const (Value.int IntKind.i64 1000))], argTypes := #[3, 3, 3] } 118 #[nt x.prepare, nt 0, nt 1000] (some 19) (r10In_spec x.prepare 0 1000 _) ?_
    rintro _ w1 ⟨rfl, rfl⟩
    refine ⟨_, rfl, ?_⟩
    refine Os 19 [(1, pt b1), (21, .bool (decide ((0 : Int) ≤ x.prepare ∧ x.prepare ≤ 1000)))] ?_
    by_cases hg18 : (0 : Int) ≤ x.prepare ∧ x.prepare ≤ 1000
    ·
     refine OI_eq [(1, pt b1), (21, .bool true)] (by first | simp [hg18] | rfl) ?_
     refine Os 20 [(1, pt b1), (21, .bool true), (22, .pointer (some ⟨b1, 4, none⟩))] ?_
     refine Oc 3 (.tmp 22) 4 (nt x.confirm) (some 23) hb1 rfl ?_
     refine Ok { callee := (Callee.value (Operand.func 118)), args := #[(Operand.tmp 23), (Operand.const (Value.int IntKind.i64 0)), (Operand.const (Value.int IntKind.i64 1000))], argTypes := #[3, 3, 3] } 118 #[nt x.confirm, nt 0, nt 1000] (some 24) (r10In_spec x.confirm 0 1000 _) ?_
     rintro _ w1 ⟨rfl, rfl⟩
     refine ⟨_, rfl, ?_⟩
     refine Os 24 [(1, pt b1), (26, .bool (decide ((0 : Int) ≤ x.confirm ∧ x.confirm ≤ 1000)))] ?_
     by_cases hg22 : (0 : Int) ≤ x.confirm ∧ x.confirm ≤ 1000
     ·
      refine OI_eq [(1, pt b1), (26, .bool true)] (by first | simp [hg22] | rfl) ?_
      refine Os 25 [(1, pt b1), (26, .bool true), (27, .pointer (some ⟨b1, 5, none⟩))] ?_
      refine Oc 3 (.tmp 27) 5 (nt x.enact) (some 28) hb1 rfl ?_
      refine Ok { callee := (Callee.value (Operand.func 118)), args := #[(Operand.tmp 28), (Operand.const (Value.int IntKind.i64 0)), (Operand.const (Value.int IntKind.i64 1000))], argTypes := #[3, 3, 3] } 118 #[nt x.enact, nt 0, nt 1000] (some 29) (r10In_spec x.enact 0 1000 _) ?_
      rintro _ w1 ⟨rfl, rfl⟩
      refine ⟨_, rfl, ?_⟩
      refine Os 29 [(1, pt b1), (31, .bool (decide ((0 : Int) ≤ x.enact ∧ x.enact ≤ 1000)))] ?_
      by_cases hg26 : (0 : Int) ≤ x.enact ∧ x.enact ≤ 1000
      ·
       refine OI_eq [(1, pt b1), (31, .bool true)] (by first | simp [hg26] | rfl) ?_
       refine Os 30 [(1, pt b1), (31, .bool true), (32, .pointer (some ⟨b1, 3, none⟩))] ?_
       refine Oc 3 (.tmp 32) 3 (nt x.decision) (some 33) hb1 rfl ?_
       refine Ok { callee := (Callee.value (Operand.func 118)), args := #[(Operand.tmp 33), (Operand.const (Value.int IntKind.i64 1)), (Operand.const (Value.int IntKind.i64 1000))], argTypes := #[3, 3, 3] } 118 #[nt x.decision, nt 1, nt 1000] (some 34) (r10In_spec x.decision 1 1000 _) ?_
       rintro _ w1 ⟨rfl, rfl⟩
       refine ⟨_, rfl, ?_⟩
       refine Os 34 [(1, pt b1), (36, .bool (decide ((1 : Int) ≤ x.decision ∧ x.decision ≤ 1000)))] ?_
       by_cases hg30 : (1 : Int) ≤ x.decision ∧ x.decision ≤ 1000
       ·
        refine OI_eq [(1, pt b1), (36, .bool true)] (by first | simp [hg30] | rfl) ?_
        refine Os 35 [(1, pt b1), (36, .bool true), (37, .pointer (some ⟨b1, 6, none⟩))] ?_
        refine Oa 25 (.tmp 37) 6 (Crv.cells x.app) (some 38) 5 hb1 rfl rfl ?_
        refine Ok { callee := (Callee.value (Operand.func 119)), args := #[(Operand.tmp 38)], argTypes := #[25] } 119 #[.agg (Crv.cells x.app).toArray] (some 39) (r4Is_spec x.app _) ?_
        rintro _ w31 ⟨rfl, hk32⟩
        refine ⟨_, rfl, ?_⟩
        have hsz33 := Keep.size hk32
        replace hb1 := hb1.keep hk32 (fun f => f)
        replace hK0 := Keep.tr hK0 (Keep.ofNone hk32)
        refine Os 39 [(1, pt b1), (41, .bool (decide (okCrv x.app)))] ?_
        by_cases hg34 : okCrv x.app
        ·
         refine OI_eq [(1, pt b1), (41, .bool true)] (by first | simp [hg34] | rfl) ?_
         refine Os 40 [(1, pt b1), (41, .bool true), (42, .pointer (some ⟨b1, 11, none⟩))] ?_
         refine Oa 25 (.tmp 42) 11 (Crv.cells x.sup) (some 43) 5 hb1 rfl rfl ?_
         refine Ok { callee := (Callee.value (Operand.func 119)), args := #[(Operand.tmp 43)], argTypes := #[25] } 119 #[.agg (Crv.cells x.sup).toArray] (some 44) (r4Is_spec x.sup _) ?_
         rintro _ w35 ⟨rfl, hk36⟩
         refine ⟨_, rfl, ?_⟩
         have hsz37 := Keep.size hk36
         replace hb1 := hb1.keep hk36 (fun f => f)
         replace hK0 := Keep.tr hK0 (Keep.ofNone hk36)
         refine Os 44 [(1, pt b1), (46, .bool (decide (okCrv x.sup)))] ?_
         by_cases hg38 : okCrv x.sup
         ·
          refine OI_eq [(1, pt b1), (46, .bool true)] (by first | simp [hg38] | rfl) ?_
          refine Os 45 [(46, .bool true), (47, .pointer (some ⟨b1, 17, none⟩))] ?_
          refine Oc 3 (.tmp 47) 17 (nt x.rank) (some 48) hb1 rfl ?_
          refine Ok { callee := (Callee.value (Operand.func 118)), args := #[(Operand.tmp 48), (Operand.const (Value.int IntKind.i64 0)), (Operand.const (Value.int IntKind.i64 2))], argTypes := #[3, 3, 3] } 118 #[nt x.rank, nt 0, nt 2] (some 49) (r10In_spec x.rank 0 2 _) ?_
          rintro _ w35 ⟨rfl, rfl⟩
          refine ⟨_, rfl, ?_⟩
          refine Os 49 [(2, .bool (decide ((0 : Int) ≤ x.rank ∧ x.rank ≤ 2)))] ?_
          refine Oe ?_
          refine V_ret ?_
          exact X_return (.bool (decide ((0 : Int) ≤ x.rank ∧ x.rank ≤ 2))) rfl ⟨by congr 2; first | (apply Eq.symm; (try simp only [decide_eq_true_eq]); (try simp only [decide_eq_false_iff_not]); unfold okTrk; simp_all <;> omega) | (rw [decide_eq_decide]; unfold okTrk; simp_all <;> omega), hK0⟩
         refine OI_eq [(1, pt b1), (46, .bool false)] (by first | simp [hg38] | rfl) ?_
         refine Os 49 [(2, .bool false)] ?_
         refine Oe ?_
         refine V_ret ?_
         exact X_return (.bool false) rfl ⟨by congr 2; first | (apply Eq.symm; (try simp only [decide_eq_true_eq]); (try simp only [decide_eq_false_iff_not]); unfold okTrk; simp_all <;> omega) | (rw [decide_eq_decide]; unfold okTrk; simp_all <;> omega), hK0⟩
        refine OI_eq [(1, pt b1), (41, .bool false)] (by first | simp [hg34] | rfl) ?_
        refine Os 49 [(2, .bool false)] ?_
        refine Oe ?_
        refine V_ret ?_
        exact X_return (.bool false) rfl ⟨by congr 2; first | (apply Eq.symm; (try simp only [decide_eq_true_eq]); (try simp only [decide_eq_false_iff_not]); unfold okTrk; simp_all <;> omega) | (rw [decide_eq_decide]; unfold okTrk; simp_all <;> omega), hK0⟩
       refine OI_eq [(1, pt b1), (36, .bool false)] (by first | simp [hg30] | rfl) ?_
       refine Os 49 [(2, .bool false)] ?_
       refine Oe ?_
       refine V_ret ?_
       exact X_return (.bool false) rfl ⟨by congr 2; first | (apply Eq.symm; (try simp only [decide_eq_true_eq]); (try simp only [decide_eq_false_iff_not]); unfold okTrk; simp_all <;> omega) | (rw [decide_eq_decide]; unfold okTrk; simp_all <;> omega), hK0⟩
      refine OI_eq [(1, pt b1), (31, .bool false)] (by first | simp [hg26] | rfl) ?_
      refine Os 49 [(2, .bool false)] ?_
      refine Oe ?_
      refine V_ret ?_
      exact X_return (.bool false) rfl ⟨by congr 2; first | (apply Eq.symm; (try simp only [decide_eq_true_eq]); (try simp only [decide_eq_false_iff_not]); unfold okTrk; simp_all <;> omega) | (rw [decide_eq_decide]; unfold okTrk; simp_all <;> omega), hK0⟩
     refine OI_eq [(1, pt b1), (26, .bool false)] (by first | simp [hg22] | rfl) ?_
     refine Os 49 [(2, .bool false)] ?_
     refine Oe ?_
     refine V_ret ?_
     exact X_return (.bool false) rfl ⟨by congr 2; first | (apply Eq.symm; (try simp only [decide_eq_true_eq]); (try simp only [decide_eq_false_iff_not]); unfold okTrk; simp_all <;> omega) | (rw [decide_eq_decide]; unfold okTrk; simp_all <;> omega), hK0⟩
    refine OI_eq [(1, pt b1), (21, .bool false)] (by first | simp [hg18] | rfl) ?_
    refine Os 49 [(2, .bool false)] ?_
    refine Oe ?_
    refine V_ret ?_
    exact X_return (.bool false) rfl ⟨by congr 2; first | (apply Eq.symm; (try simp only [decide_eq_true_eq]); (try simp only [decide_eq_false_iff_not]); unfold okTrk; simp_all <;> omega) | (rw [decide_eq_decide]; unfold okTrk; simp_all <;> omega), hK0⟩
   refine OI_eq [(1, pt b1), (16, .bool false)] (by first | simp [hg14] | rfl) ?_
   refine Os 49 [(2, .bool false)] ?_
   refine Oe ?_
   refine V_ret ?_
   exact X_return (.bool false) rfl ⟨by congr 2; first | (apply Eq.symm; (try simp only [decide_eq_true_eq]); (try simp only [decide_eq_false_iff_not]); unfold okTrk; simp_all <;> omega) | (rw [decide_eq_decide]; unfold okTrk; simp_all <;> omega), hK0⟩
  refine OI_eq [(1, pt b1), (11, .bool false)] (by first | simp [hg10] | rfl) ?_
  refine Os 49 [(2, .bool false)] ?_
  refine Oe ?_
  refine V_ret ?_
  exact X_return (.bool false) rfl ⟨by congr 2; first | (apply Eq.symm; (try simp only [decide_eq_true_eq]); (try simp only [decide_eq_false_iff_not]); unfold okTrk; simp_all <;> omega) | (rw [decide_eq_decide]; unfold okTrk; simp_all <;> omega), hK0⟩
 refine OI_eq [(1, pt b1), (6, .bool false)] (by first | simp [hg6] | rfl) ?_
 refine Os 49 [(2, .bool false)] ?_
 refine Oe ?_
 refine V_ret ?_
 exact X_return (.bool false) rfl ⟨by congr 2; first | (apply Eq.symm; (try simp only [decide_eq_true_eq]); (try simp only [decide_eq_false_iff_not]); unfold okTrk; simp_all <;> omega) | (rw [decide_eq_decide]; unfold okTrk; simp_all <;> omega), hK0⟩

def okTs (ts : List Trk) : Prop := 1 ≤ ts.length ∧ ts.length ≤ 4 ∧ ∀ t ∈ ts, okTrk t
instance (ts : List Trk) : Decidable (okTs ts) := by unfold okTs; infer_instance

set_option maxRecDepth 10000 in
theorem rbad_spec (x : Trk) (w : World) : Calls Tryz.prog 79 #[.agg x.cells.toArray] w fun e w' => e = .returned (.bool (!decide (okTrk x))) ∧ Keep none_ w w' := by
 have hK0 : Keep none_ w w := Keep.refl _ _
 have hzhK0 := Keep.size hK0
 refine enterV Tryz.func79 rfl [.agg (Trk.cells x).toArray] 6 rfl rfl rfl ?_
 refine V_pick [(0, .agg (Trk.cells x).toArray)] rfl ?_
 refine Vr ?_
 refine OI_box 27 (.tmp 0) (.agg (Trk.cells x).toArray) (Trk.cells x) (some 1) (by kernel_rfl) (by kernel_rfl) rfl ?_
 intro b1 w1 e1 hb1 k1 z1
 have hsz2 := Keep.size k1
 replace hK0 := Keep.tr hK0 (Keep.ofNone k1)
 have hb1lt := hb1.lt
 refine Os 2 [(1, pt b1)] ?_
 refine Oer ?_
 refine Oa 27 (.tmp 1) 0 (Trk.cells x) (some 3) 18 hb1 (take_all (Trk.len _)) (Trk.len _) ?_
 refine Ok { callee := (Callee.value (Operand.func 80)), args := #[(Operand.tmp 3)], argTypes := #[27] } 80 #[.agg (Trk.cells x).toArray] (some 4) (trkIs_spec x _) ?_
 rintro _ w3 ⟨rfl, hk4⟩
 refine ⟨_, rfl, ?_⟩
 have hsz5 := Keep.size hk4
 replace hb1 := hb1.keep hk4 (fun f => f)
 replace hK0 := Keep.tr hK0 (Keep.ofNone hk4)
 refine Os 4 [(2, .bool (!(decide (okTrk x))))] ?_
 refine Oe ?_
 refine V_ret ?_
 exact X_return (.bool (!(decide (okTrk x)))) rfl ⟨rfl, hK0⟩

set_option maxRecDepth 10000 in
theorem ixf_spec (A : Option Addr) (cap : Nat) (ts : List Trk) (w : World) (hA : SlT w 18 Trk.cells A cap ts) (hok : ∀ t ∈ ts, okTrk t) (hn4 : ts.length ≤ 4) : Calls Tryz.prog 122 #[.slice A ts.length cap, .func (.func 79) #[] #[]] w fun e w' => e = .returned (.int .i64 (-1)) ∧ Keep none_ w w' := by
 have hAlt := SlT.lt hA
 have hK0 : Keep none_ w w := Keep.refl _ _
 have hzhK0 := Keep.size hK0
 refine enterV Tryz.func122 rfl [.slice A ts.length cap, .func (.func 79) #[] #[]] 19 rfl rfl rfl ?_
 refine V_pick [(0, .slice A ts.length cap), (1, .func (.func 79) #[] #[])] rfl ?_
 refine Vr ?_
 refine Os 1 [(0, .slice A ts.length cap), (1, .func (.func 79) #[] #[])] ?_
 refine Oe ?_
 refine V_seq ?_
 refine Vr ?_
 refine Os 3 [(0, .slice A ts.length cap), (1, .func (.func 79) #[] #[]), (7, nt ((ts.length : Nat) : Int)), (8, nt 0)] ?_
 refine Oe ?_
 refine V_block ?_
 refine V_pick [(0, .slice A ts.length cap), (1, .func (.func 79) #[] #[]), (7, nt ((ts.length : Nat) : Int)), (8, nt 0)] rfl ?_
 refine V_loop (fun k wI e => ∃ i : Nat, (k + i = ts.length) ∧ Keep none_ w wI ∧ e = [(0, .slice A ts.length cap), (1, .func (.func 79) #[] #[]), (7, nt ((ts.length : Nat) : Int)), (8, nt ((i : Nat) : Int))]) ts.length ⟨0, rfl, Keep.refl _ _, rfl⟩ ?_
 rintro k2 w1 _ ⟨i, hki, hk3, rfl⟩
 have hsz4 := Keep.size hk3
 replace hA := SlT.keep0 hA hk3
 replace hK0 := Keep.tr hK0 (Keep.ofNone hk3)
 have hzhk3 := Keep.size hk3
 refine Vr ?_
 refine Os 1 [(0, .slice A ts.length cap), (1, .func (.func 79) #[] #[]), (7, nt ((ts.length : Nat) : Int)), (8, nt ((i : Nat) : Int)), (9, .bool (decide (((i : Nat) : Int) < ((ts.length : Nat) : Int))))] ?_
 refine Oe ?_
 refine V_seq ?_
 refine V_if (((i : Nat) : Int) < ((ts.length : Nat) : Int)) (by kernel_rfl) (fun hc5 => ?_) (fun hc5 => ?_)
 ·
  refine V_skip ?_
  refine X_then ?_
  refine V_seq ?_
  refine V_block ?_
  refine Vr ?_
  refine Os 2 [(0, .slice A ts.length cap), (1, .func (.func 79) #[] #[]), (5, nt ((i : Nat) : Int)), (7, nt ((ts.length : Nat) : Int)), (8, nt ((i : Nat) : Int))] ?_
  refine Oer ?_
  refine Os 3 [(0, .slice A ts.length cap), (1, .func (.func 79) #[] #[]), (5, nt ((i : Nat) : Int)), (7, nt ((ts.length : Nat) : Int)), (8, nt ((i : Nat) : Int)), (11, .func (.func 79) #[] #[]), (12, .slice A ts.length cap), (13, nt ((i : Nat) : Int))] ?_
  obtain ⟨b6, o6, L6, T6, rfl, hat6⟩ := SlT.open_ hA (by first | omega | (simp only [List.length_map]; omega) | (simp; done) | (simp; omega))
  have hb6lt := hat6.blk.lt
  have hob7 := hAlt b6 ⟨_, rfl, rfl⟩
  refine OI_pure (some 14) (.indexAddr 29 (.tmp 12) (.tmp 13)) (by kernel_rfl) (pure_idxN (b := b6) (o := o6) (len := ts.length) (cap := cap) (kd := .i64) (j := i) (E := 27) (sz := 18) (by_ := 144) (by kernel_rfl) (by kernel_rfl) (by kernel_rfl) (by omega)) ?_
  obtain ⟨x8, hx9⟩ : ∃ x, ts[i]? = some x := ⟨_, List.getElem?_eq_getElem (by first | omega | (simp only [List.length_map]; omega))⟩
  have hokx : okTrk x8 := hok x8 (List.mem_of_getElem? hx9)
  refine Oa 27 (.tmp 14) (o6 + i * 18) (Trk.cells x8) (some 15) 18 hat6.blk (At.elem' hat6 (es_at hx9)) (At.len hat6 (es_at hx9)) ?_
  refine Ok { callee := (Callee.value (Operand.tmp 11)), args := #[(Operand.tmp 15)], argTypes := #[27] } 79 #[.agg (Trk.cells x8).toArray] (some 16) (rbad_spec x8 _) ?_
  rintro _ w10 ⟨rfl, hk11⟩
  refine ⟨_, rfl, ?_⟩
  have hsz12 := Keep.size hk11
  replace hat6 := hat6.keep hk11 (fun f => f)
  replace hK0 := Keep.tr hK0 (Keep.ofNone hk11)
  replace hk3 := Keep.tr hk3 (Keep.ofNone hk11)
  refine Oe ?_
  refine V_pick [(0, .slice (some ⟨b6, o6, none⟩) ts.length cap), (1, .func (.func 79) #[] #[]), (5, nt ((i : Nat) : Int)), (7, nt ((ts.length : Nat) : Int)), (8, nt ((i : Nat) : Int)), (16, .bool (!(decide (okTrk x8))))] rfl ?_
  refine V_eq [(0, .slice (some ⟨b6, o6, none⟩) ts.length cap), (1, .func (.func 79) #[] #[]), (5, nt ((i : Nat) : Int)), (7, nt ((ts.length : Nat) : Int)), (8, nt ((i : Nat) : Int)), (16, .bool false)] (by rw [decide_eq_true hokx]; rfl) ?_
  refine V_false rfl ?_
  refine V_skip ?_
  refine X_block ?_
  refine X_then ?_
  refine V_region ?_
  have hw14 : IntKind.i64.wrap (((i : Nat) : Int) + 1) = ((i + 1 : Nat) : Int) := (wrap64_id (by omega) (by omega)).trans (by omega)
  refine Os 1 [(0, .slice (some ⟨b6, o6, none⟩) ts.length cap), (1, .func (.func 79) #[] #[]), (7, nt ((ts.length : Nat) : Int)), (18, nt (IntKind.i64.wrap (((i : Nat) : Int) + 1)))] ?_
  refine OI_eq [(0, .slice (some ⟨b6, o6, none⟩) ts.length cap), (1, .func (.func 79) #[] #[]), (7, nt ((ts.length : Nat) : Int)), (18, nt ((i + 1 : Nat) : Int))] (by rw [hw14]) ?_
  refine Os 2 [(0, .slice (some ⟨b6, o6, none⟩) ts.length cap), (1, .func (.func 79) #[] #[]), (7, nt ((ts.length : Nat) : Int)), (8, nt ((i + 1 : Nat) : Int))] ?_
  refine OI_end rfl ?_
  exact V_again (k2 - 1) (by omega) [(0, .slice (some ⟨b6, o6, none⟩) ts.length cap), (1, .func (.func 79) #[] #[]), (7, nt ((ts.length : Nat) : Int)), (8, nt ((i + 1 : Nat) : Int))] rfl ⟨i + 1, by omega, hk3, rfl⟩
 refine V_exit ?_
 refine X_exit_then ?_
 refine X_exit_then ?_
 refine X_exit_here ?_
 refine X_then ?_
 refine Vr ?_
 refine Os 1 [(4, nt (-1))] ?_
 refine Oe ?_
 refine V_ret ?_
 exact X_return (nt (-1)) rfl ⟨rfl, hK0⟩

set_option maxRecDepth 10000 in
theorem ctf_spec (A : Option Addr) (cap : Nat) (ts : List Trk) (w : World) (hA : SlT w 18 Trk.cells A cap ts) (hok : ∀ t ∈ ts, okTrk t) (hn4 : ts.length ≤ 4) : Calls Tryz.prog 81 #[.slice A ts.length cap, .func (.func 79) #[] #[]] w fun e w' => e = .returned (.bool false) ∧ Keep none_ w w' := by
 have hAlt := SlT.lt hA
 have hK0 : Keep none_ w w := Keep.refl _ _
 have hzhK0 := Keep.size hK0
 refine enterV Tryz.func81 rfl [.slice A ts.length cap, .func (.func 79) #[] #[]] 9 rfl rfl rfl ?_
 refine V_pick [(0, .slice A ts.length cap), (1, .func (.func 79) #[] #[])] rfl ?_
 refine Vr ?_
 refine Os 1 [(0, .slice A ts.length cap), (1, .func (.func 79) #[] #[])] ?_
 refine Oer ?_
 refine Os 2 [(5, .slice A ts.length cap), (6, .func (.func 79) #[] #[])] ?_
 refine Ok { callee := (Callee.value (Operand.func 122)), args := #[(Operand.tmp 5), (Operand.tmp 6)], argTypes := #[29, 150] } 122 #[.slice A ts.length cap, .func (.func 79) #[] #[]] (some 7) (ixf_spec A cap ts _ hA hok hn4) ?_
 rintro _ w1 ⟨rfl, hk2⟩
 refine ⟨_, rfl, ?_⟩
 have hsz3 := Keep.size hk2
 replace hA := SlT.keep0 hA hk2
 replace hK0 := Keep.tr hK0 (Keep.ofNone hk2)
 refine Os 5 [(4, .bool false)] ?_
 refine Oe ?_
 refine V_ret ?_
 exact X_return (.bool false) rfl ⟨rfl, hK0⟩

set_option maxRecDepth 10000 in
theorem tclone_nil (w : World) : Calls Tryz.prog 82 #[.slice none 0 0] w fun e w' => e = .returned (.slice none 0 0) ∧ w' = w := by
 refine enterV Tryz.func82 rfl [.slice none 0 0] 8 rfl rfl rfl ?_
 refine V_pick [(0, .slice none 0 0)] rfl ?_
 refine Vr ?_
 refine Os 1 [(0, .slice none 0 0)] ?_
 refine Oe ?_
 refine V_seq ?_
 refine Vr ?_
 refine Os 2 [(0, .slice none 0 0), (4, .bool true)] ?_
 refine Oe ?_
 refine V_true rfl ?_
 refine Vr ?_
 refine Os 1 [(2, .slice none 0 0)] ?_
 refine Oe ?_
 refine V_ret ?_
 refine X_ret_then ?_
 exact X_return _ rfl ⟨rfl, rfl⟩

set_option maxRecDepth 10000 in
theorem tclone_at (b o cap : Nat) (L : List Value) (T : TypeId) (xs : List Trk) (w : World) (h : At w b o L T 18 cap (xs.map Trk.cells)) (hn : xs.length ≤ 1000000) : Calls Tryz.prog 82 #[.slice (some ⟨b, o, none⟩) xs.length cap] w fun e w' => ∃ A' cap', e = .returned (.slice A' xs.length cap') ∧ SlT w' 18 Trk.cells A' cap' xs ∧ Keep none_ w w' ∧ (∀ k, inA A' k → w.heap.size ≤ k) := by
 have hblt := h.blk.lt
 have hK0 : Keep none_ w w := Keep.refl _ _
 have hzhK0 := Keep.size hK0
 refine enterV Tryz.func82 rfl [.slice (some ⟨b, o, none⟩) xs.length cap] 8 rfl rfl rfl ?_
 refine V_pick [(0, .slice (some ⟨b, o, none⟩) xs.length cap)] rfl ?_
 refine Vr ?_
 refine Os 1 [(0, .slice (some ⟨b, o, none⟩) xs.length cap)] ?_
 refine Oe ?_
 refine V_seq ?_
 refine Vr ?_
 refine Os 2 [(0, .slice (some ⟨b, o, none⟩) xs.length cap), (4, .bool false)] ?_
 refine Oe ?_
 refine V_false rfl ?_
 refine V_skip ?_
 refine X_then ?_
 refine Vr ?_
 refine OI_slit (E := 27) (zv := .agg #[nt 0, nt 0, nt 0, nt 0, nt 0, nt 0, nt 0, nt 0, nt 0, nt 0, nt 0, nt 0, nt 0, nt 0, nt 0, nt 0, nt 0, nt 0]) (sz := 18) (by_ := 144) 29 0 #[] [] [] (some 5) (by kernel_rfl) (by kernel_rfl) (by kernel_rfl) (by omega) rfl (by omega) (by intro v hv; cases hv) (by kernel_rfl) rfl ?_
 intro b1 w1 e1 hb1 k1 z1
 have hsz2 := Keep.size k1
 replace h := h.keep k1 (fun f => f)
 replace hK0 := Keep.tr hK0 (Keep.ofNone k1)
 have hb1lt := hb1.lt
 refine Os 2 [(5, .slice (some ⟨b1, 0, none⟩) 0 0), (6, .slice (some ⟨b, o, none⟩) xs.length cap)] ?_
 refine OI_append (t := 29) (at2 := 29) (E := 27) (E2 := 27) (sz := 18) (by_ := 144) (zv := .agg #[nt 0, nt 0, nt 0, nt 0, nt 0, nt 0, nt 0, nt 0, nt 0, nt 0, nt 0, nt 0, nt 0, nt 0, nt 0, nt 0, nt 0, nt 0]) (m := 0) (k := xs.length) (.tmp 5) (.tmp 6) (.slice (some ⟨b1, 0, none⟩) 0 0) (.slice (some ⟨b, o, none⟩) xs.length cap) (some 7) (by kernel_rfl) (by kernel_rfl) (by kernel_rfl) (by kernel_rfl) (by kernel_rfl) (by kernel_rfl) (by kernel_rfl) (SlT.slr (slt_blk (f := Trk.cells) (xs := []) hb1 Trk.len rfl)) (SlT.slr (At.slt h)) (one_flat Trk.one) (by omega) (by omega) (by omega) (by omega) ?_
 intro v w9 hap
 obtain ⟨A9, cap9, rfl, h9, hin⟩ := SlT.of (xs := xs) hap.holds (by omega) (by simp) (fun x _ => Trk.len x)
 have hk9 : Keep (only b1) w1 w9 := hap.keep
 have hown : ∀ k, inA A9 k → w.heap.size ≤ k := fun k hk => by rcases hap.own k (hin k hk) with h | h; (have h : k = b1 := h; omega); omega
 have hsz3 := Keep.size hk9
 replace h := h.keep hk9 (by show ¬ (_ = _); omega)
 replace hK0 := Keep.fresh hK0 hk9 (by intro i hi hs; first | exact hs | exact Or.inl hs | exact Or.inr hs | (exfalso; have hs2 : i = b1 := hs; omega))
 refine Op_ [(7, .slice A9 (0 + xs.length) cap9)] ?_
 refine OI_eq [(7, .slice A9 xs.length cap9)] (by rw [Nat.zero_add]) ?_
 refine Os 4 [(2, .slice A9 xs.length cap9)] ?_
 refine Oe ?_
 refine V_ret ?_
 exact X_return _ rfl ⟨A9, cap9, rfl, h9, hK0, hown⟩

theorem tclone_spec (A : Option Addr) (cap : Nat) (xs : List Trk) (w : World) (hA : SlT w 18 Trk.cells A cap xs) (hn : xs.length ≤ 1000000) : Calls Tryz.prog 82 #[.slice A xs.length cap] w fun e w' => ∃ A' cap', e = .returned (.slice A' xs.length cap') ∧ SlT w' 18 Trk.cells A' cap' xs ∧ Keep none_ w w' ∧ (∀ k, inA A' k → w.heap.size ≤ k) := by
  rcases Nat.eq_zero_or_pos xs.length with h0 | h0
  · obtain rfl := List.length_eq_zero_iff.1 h0
    rcases hA with ⟨rfl, rfl, _⟩ | ⟨b, o, L, T, rfl, h1, h2, h3, h4, h5⟩
    · exact (tclone_nil w).mono (by rintro e w' ⟨rfl, rfl⟩; exact ⟨none, 0, rfl, SlT.nil _ _ _, Keep.refl _ _, fun k hk => (inA_none hk).elim⟩)
    · exact tclone_at b o cap L T [] w ⟨h1, h2, h3, h4, h5⟩ hn
  · obtain ⟨b, o, L, T, rfl, h⟩ := hA.open_ h0
    exact tclone_at b o cap L T xs w h hn

set_option maxRecDepth 10000 in
theorem rnw_spec (A : Option Addr) (cap : Nat) (ts : List Trk) (w : World) (hA : SlT w 18 Trk.cells A cap ts) (hok : okTs ts) : Calls Tryz.prog 35 #[.slice A ts.length cap] w fun e w' => ∃ r g H, e = .returned (.tuple #[.pointer (some ⟨r, 0, none⟩), .int .i64 0]) ∧ Rfr H w' r g ts [] ∧ Keep none_ w w' ∧ (∀ q, H q → w.heap.size ≤ q) := by
 have hAlt := SlT.lt hA
 have hok1 := hok.1
 have hok2 := hok.2.1
 have hK0 : Keep none_ w w := Keep.refl _ _
 have hzhK0 := Keep.size hK0
 refine enterV Tryz.func35 rfl [.slice A ts.length cap] 23 rfl rfl rfl ?_
 refine V_pick [(0, .slice A ts.length cap)] rfl ?_
 refine Vr ?_
 refine Os 2 [(0, .slice A ts.length cap)] ?_
 refine Oer ?_
 refine Os 1 [(0, .slice A ts.length cap), (4, .func (.func 79) #[] #[])] ?_
 refine Oe ?_
 refine V_seq ?_
 refine Vr ?_
 refine Os 4 [(0, .slice A ts.length cap), (4, .func (.func 79) #[] #[]), (8, .bool (decide (((ts.length : Nat) : Int) = 0)))] ?_
 refine OI_eq [(0, .slice A ts.length cap), (4, .func (.func 79) #[] #[]), (8, .bool false)] (by rw [decide_eq_false (by omega : ¬ (((ts.length : Nat) : Int) = 0))]) ?_
 refine Os 9 [(0, .slice A ts.length cap), (4, .func (.func 79) #[] #[]), (13, .bool (decide (((ts.length : Nat) : Int) > 4)))] ?_
 refine OI_eq [(0, .slice A ts.length cap), (4, .func (.func 79) #[] #[]), (13, .bool false)] (by rw [decide_eq_false (by omega : ¬ (((ts.length : Nat) : Int) > 4))]) ?_
 refine Os 11 [(0, .slice A ts.length cap), (13, .bool false), (14, .slice A ts.length cap), (15, .func (.func 79) #[] #[])] ?_
 refine Ok { callee := (Callee.value (Operand.func 81)), args := #[(Operand.tmp 14), (Operand.tmp 15)], argTypes := #[29, 150] } 81 #[.slice A ts.length cap, .func (.func 79) #[] #[]] (some 16) (ctf_spec A cap ts _ hA hok.2.2 (by omega)) ?_
 rintro _ w3 ⟨rfl, hk4⟩
 refine ⟨_, rfl, ?_⟩
 have hsz5 := Keep.size hk4
 replace hA := SlT.keep0 hA hk4
 replace hK0 := Keep.tr hK0 (Keep.ofNone hk4)
 refine Os 13 [(0, .slice A ts.length cap), (17, .bool false)] ?_
 refine Oe ?_
 refine V_false rfl ?_
 refine V_skip ?_
 refine X_then ?_
 refine Vr ?_
 refine Os 1 [(18, .slice A ts.length cap)] ?_
 refine Ok { callee := (Callee.value (Operand.func 82)), args := #[(Operand.tmp 18)], argTypes := #[29] } 82 #[.slice A ts.length cap] (some 19) (tclone_spec A cap ts _ hA (by omega)) ?_
 rintro _ w6 ⟨A8, cap8, rfl, hA8, hk7, ow8⟩
 refine ⟨_, rfl, ?_⟩
 have hsz9 := Keep.size hk7
 replace hA := SlT.keep0 hA hk7
 replace hK0 := Keep.tr hK0 (Keep.ofNone hk7)
 have lt8 := SlT.lt hA8
 refine Ok { callee := (Callee.value (Operand.func 83)), args := #[], argTypes := #[] } 83 #[] (some 20) (GQ.new_grd _) ?_
 rintro _ w12 ⟨g14, F15, rfl, ho16, hk13, hge17⟩
 refine ⟨_, rfl, ?_⟩
 have hsz18 := Keep.size hk13
 replace hA := SlT.keep0 hA hk13
 replace hA8 := SlT.keep0 hA8 hk13
 replace hK0 := Keep.tr hK0 (Keep.ofNone hk13)
 have own19 : ∀ q, F15 q → w6.heap.size ≤ q := fun q hq => by have h1 := hge17 q hq; omega
 have lt20 := GQ.Grd.lt ho16
 have dis21 : ∀ q, F15 q → ¬ inA A q := fun q h1 h2 => by have h3 := hge17 q h1; have h4 := hAlt q h2; omega
 have dis22 : ∀ q, F15 q → ¬ inA A8 q := fun q h1 h2 => by have h3 := hge17 q h1; have h4 := lt8 q h2; omega
 have hg14lt : g14 < w12.heap.size := GQ.Grd.lt ho16 _ (GQ.Grd.at_ ho16)
 have hg14ge := hge17 _ (GQ.Grd.at_ ho16)
 refine Os 4 [(21, .agg #[.slice A8 ts.length cap8, pt g14])] ?_
 refine OI_box 97 (.tmp 21) (.agg #[.slice A8 ts.length cap8, pt g14]) [.slice A8 ts.length cap8, pt g14] (some 22) (by kernel_rfl) (by kernel_rfl) (by kernel_rfl) ?_
 intro b23 w23 e23 hb23 k23 z23
 have hsz24 := Keep.size k23
 replace hA := SlT.keep0 hA k23
 replace hA8 := SlT.keep0 hA8 k23
 replace hK0 := Keep.tr hK0 (Keep.ofNone k23)
 replace ho16 := GQ.Grd.keep ho16 k23 (fun _ _ f => f)
 have hb23lt := hb23.lt
 refine Os 7 [(2, pt b23), (3, nt 0)] ?_
 refine Oe ?_
 refine V_ret ?_
 exact X_return _ rfl ⟨b23, g14, (fun q => F15 q ∨ inA A8 q ∨ q = b23), rfl, ⟨⟨by omega, hok.2.2, by simp, fun x hx => by cases hx⟩, fun q hq => by rcases hq with h | h | h; (have h1 := lt20 q h; omega); (have h1 := lt8 q h; omega); omega, F15, A8, cap8, ⟨hb23, hA8, ho16, (fun q h1 h2 => dis22 q h2 h1), (fun q h => by have h1 := ow8 q h; have h2 := lt8 q h; omega), (fun q h => by have h1 := lt20 q h; omega)⟩, .inr (.inr rfl), fun q h => .inl h, fun q h => .inr (.inl h)⟩, hK0, fun q hq => by rcases hq with h | h | h; (have h1 := own19 q h; omega); (have h1 := ow8 q h; omega); omega⟩
end Go.Al


namespace Go.Al
open Go Go.RowKit Go.Proofs
set_option maxRecDepth 10000 in
theorem rnew6_weak (A : Option Addr) (cap : Nat) (fs : List Int) (w : World) (hA0 : ArgT w 1 intc A cap fs) (hn : fs.length ≤ 100000) : Calls Tryz.prog 39 #[.slice A fs.length cap] w fun e w' => ∃ pv n, e = .returned (.tuple #[.pointer pv, .int .i64 n]) ∧ Keep none_ w w' := by
 have hA := hA0
 have hK0 : Keep none_ w w := Keep.refl _ _
 have hzhK0 := Keep.size hK0
 refine enterV Tryz.func39 rfl [.slice A fs.length cap] 51 rfl rfl rfl ?_
 refine V_pick [(0, .slice A fs.length cap)] rfl ?_
 refine Vr ?_
 refine Os 2 [(0, .slice A fs.length cap)] ?_
 refine Oe ?_
 refine V_seq ?_
 refine Vr ?_
 refine Os 3 [(0, .slice A fs.length cap), (9, .bool (decide (((fs.length : Nat) : Int) > 10)))] ?_
 refine Oe ?_
 refine V_if (((fs.length : Nat) : Int) > 10) (by kernel_rfl) (fun hc1 => ?_) (fun hc1 => ?_)
 ·
  refine Vr ?_
  refine Os 2 [(2, .pointer none), (3, nt 1)] ?_
  refine Oe ?_
  refine V_ret ?_
  refine X_ret_then ?_
  exact X_return (.tuple #[.pointer none, nt 1]) rfl ⟨_, _, rfl, hK0⟩
 refine V_skip ?_
 refine X_then ?_
 refine Vr ?_
 refine OI_make (E := 171) (sz := 3) (by_ := 40) (m := 10) (kd := .i64) (zv := .agg #[nt 0, nt 0, .slice none 0 0]) 166 (.const (Value.int IntKind.i64 10)) (.const (Value.int IntKind.i64 10)) ((List.replicate 10 [nt 0, nt 0, .slice none 0 0]).flatten) (some 10) (by kernel_rfl) (by kernel_rfl) (by kernel_rfl) (by kernel_rfl) (by kernel_rfl) (by decide) (by decide) (by kernel_rfl) ?_
 intro b2 w2 e2 hb2 k2 z2
 have hsz3 := Keep.size k2
 replace hA := ArgT.keep0 hA k2
 replace hK0 := Keep.tr hK0 (Keep.ofNone k2)
 have hb2lt := hb2.lt
 refine Os 2 [(0, .slice A fs.length cap), (11, .agg #[.slice (some ⟨b2, 0, none⟩) 10 10])] ?_
 refine OI_box 168 (.tmp 11) (.agg #[.slice (some ⟨b2, 0, none⟩) 10 10]) [.slice (some ⟨b2, 0, none⟩) 10 10] (some 12) (by kernel_rfl) (by kernel_rfl) (by kernel_rfl) ?_
 intro b4 w4 e4 hb4 k4 z4
 have hsz5 := Keep.size k4
 replace hb2 := hb2.keep k4 (fun f => f)
 replace hA := ArgT.keep0 hA k4
 replace hK0 := Keep.tr hK0 (Keep.ofNone k4)
 have hb4lt := hb4.lt
 refine Os 4 [(0, .slice A fs.length cap), (4, pt b4)] ?_
 refine Oer ?_
 refine Os 1 [(0, .slice A fs.length cap), (4, pt b4), (5, nt 0)] ?_
 refine Oe ?_
 refine V_seq ?_
 refine Vr ?_
 refine Os 1 [(0, .slice A fs.length cap), (4, pt b4), (5, nt 0), (6, nt 0)] ?_
 refine Oe ?_
 refine V_block ?_
 refine V_pick [(0, .slice A fs.length cap), (4, pt b4), (5, nt 0), (6, nt 0)] rfl ?_
 refine V_loop (fun k wI e => ∃ i : Nat, ∃ s5 : Int, ∃ Lx : List Value, (k + i = fs.length) ∧ (Blk wI b2 Lx 171) ∧ (Lx.length = 30) ∧ Keep (only b2) w4 wI ∧ e = [(0, .slice A fs.length cap), (4, pt b4), (5, nt s5), (6, nt ((i : Nat) : Int))]) fs.length ⟨0, 0, (List.replicate 10 [nt 0, nt 0, .slice none 0 0]).flatten, by omega, hb2, by decide, Keep.refl _ _, rfl⟩ ?_
 rintro k7 w6 _ ⟨i, s5, Lx, hki, hB, hLx, hk8, rfl⟩
 have hsz9 := Keep.size hk8
 replace hb4 := hb4.keep hk8 (by show ¬ (_ = _); omega)
 replace hA := ArgT.keep hA hk8 hA0 (fun k hk hs => by have hs : k = b2 := hs; omega)
 replace hK0 := Keep.fresh hK0 hk8 (by intro i hi hs; first | exact hs | exact Or.inl hs | exact Or.inr hs | (exfalso; have hs2 : i = b2 := hs; omega))
 have hzhk8 := Keep.size hk8
 have hb2lt := hB.lt
 refine V_seq ?_
 refine Vr ?_
 refine Os 4 [(0, .slice A fs.length cap), (4, pt b4), (5, nt s5), (6, nt ((i : Nat) : Int)), (16, .bool (decide (((i : Nat) : Int) < ((fs.length : Nat) : Int))))] ?_
 refine Oe ?_
 refine V_if (((i : Nat) : Int) < ((fs.length : Nat) : Int)) (by kernel_rfl) (fun hc10 => ?_) (fun hc10 => ?_)
 ·
  refine V_skip ?_
  refine X_then ?_
  refine V_seq ?_
  refine V_block ?_
  refine V_seq ?_
  refine Vr ?_
  refine Os 2 [(0, .slice A fs.length cap), (4, pt b4), (5, nt s5), (6, nt ((i : Nat) : Int)), (19, .slice A fs.length cap), (20, nt ((i : Nat) : Int))] ?_
  obtain ⟨b11, o11, L11, rfl, hat11⟩ := ArgT.open_ hA (by first | omega | (simp only [List.length_map]; omega) | (simp; done) | (simp; omega))
  have hb11lt0 := ArgT.lt hA0 (by first | omega | (simp only [List.length_map]; omega) | (simp; done) | (simp; omega))
  have hb11lt := hat11.blk.lt
  refine OI_pure (some 21) (.indexAddr 72 (.tmp 19) (.tmp 20)) (by kernel_rfl) (pure_idxN (b := b11) (o := o11) (len := fs.length) (cap := cap) (kd := .i64) (j := i) (E := 3) (sz := 1) (by_ := 8) (by kernel_rfl) (by kernel_rfl) (by kernel_rfl) (by omega)) ?_
  obtain ⟨x12, hx13⟩ : ∃ x, fs[i]? = some x := ⟨_, List.getElem?_eq_getElem (by first | omega | (simp only [List.length_map]; omega))⟩
  refine OI_cellR 3 (.tmp 21) (o11 + i * 1) (nt x12) (some 22) (by kernel_rfl) (by kernel_rfl) hat11.blk (m := 1) (by kernel_rfl) (AtR.cell0 hat11 (es_at hx13) rfl) ?_
  refine Os 6 [(0, .slice (some ⟨b11, o11, none⟩) fs.length cap), (4, pt b4), (5, nt s5), (6, nt ((i : Nat) : Int)), (24, .bool (decide (x12 < 0)))] ?_
  by_cases hg14 : x12 < 0
  ·
   refine OI_eq [(0, .slice (some ⟨b11, o11, none⟩) fs.length cap), (4, pt b4), (5, nt s5), (6, nt ((i : Nat) : Int)), (24, .bool true)] (by first | simp [hg14] | rfl) ?_
   refine Os 12 [(0, .slice (some ⟨b11, o11, none⟩) fs.length cap), (4, pt b4), (5, nt s5), (6, nt ((i : Nat) : Int)), (25, undef), (26, undef), (27, undef), (28, undef), (29, undef), (30, .bool true)] ?_
   refine Oe ?_
   refine V_true rfl ?_
   refine Vr ?_
   refine Os 2 [(2, .pointer none), (3, nt 1)] ?_
   refine Oe ?_
   refine V_ret ?_
   refine X_ret_then ?_
   refine X_ret_block ?_
   refine X_ret_then ?_
   refine X_ret_then ?_
   refine X_ret_block ?_
   refine X_ret_then ?_
   exact X_return (.tuple #[.pointer none, nt 1]) rfl ⟨_, _, rfl, hK0⟩
  refine OI_eq [(0, .slice (some ⟨b11, o11, none⟩) fs.length cap), (4, pt b4), (5, nt s5), (6, nt ((i : Nat) : Int)), (24, .bool false)] (by first | simp [hg14] | rfl) ?_
  refine Os 8 [(0, .slice (some ⟨b11, o11, none⟩) fs.length cap), (4, pt b4), (5, nt s5), (6, nt ((i : Nat) : Int)), (24, .bool false), (25, .slice (some ⟨b11, o11, none⟩) fs.length cap), (26, nt ((i : Nat) : Int))] ?_
  refine OI_pure (some 27) (.indexAddr 72 (.tmp 25) (.tmp 26)) (by kernel_rfl) (pure_idxN (b := b11) (o := o11) (len := fs.length) (cap := cap) (kd := .i64) (j := i) (E := 3) (sz := 1) (by_ := 8) (by kernel_rfl) (by kernel_rfl) (by kernel_rfl) (by omega)) ?_
  refine OI_cellR 3 (.tmp 27) (o11 + i * 1) (nt x12) (some 28) (by kernel_rfl) (by kernel_rfl) hat11.blk (m := 1) (by kernel_rfl) (AtR.cell0 hat11 (es_at hx13) rfl) ?_
  refine Os 12 [(0, .slice (some ⟨b11, o11, none⟩) fs.length cap), (4, pt b4), (5, nt s5), (6, nt ((i : Nat) : Int)), (25, .slice (some ⟨b11, o11, none⟩) fs.length cap), (26, nt ((i : Nat) : Int)), (27, .pointer (some ⟨b11, o11 + i * 1, none⟩)), (28, nt x12), (29, .bool (decide (x12 > 1073741824))), (30, .bool (decide (x12 > 1073741824)))] ?_
  refine Oe ?_
  refine V_if (x12 > 1073741824) (by kernel_rfl) (fun hc15 => ?_) (fun hc15 => ?_)
  ·
   refine Vr ?_
   refine Os 2 [(2, .pointer none), (3, nt 1)] ?_
   refine Oe ?_
   refine V_ret ?_
   refine X_ret_then ?_
   refine X_ret_block ?_
   refine X_ret_then ?_
   refine X_ret_then ?_
   refine X_ret_block ?_
   refine X_ret_then ?_
   exact X_return (.tuple #[.pointer none, nt 1]) rfl ⟨_, _, rfl, hK0⟩
  refine V_skip ?_
  refine X_then ?_
  refine V_seq ?_
  refine V_draws (acts [11]) (only b2) [[0, 1, 2, 3, 4, 5, 6, 7, 8, 9, 10, 11]] (by kernel_rfl) (by repeat first | exact sure_body (by rintro _ _ ⟨_, _, h, _⟩; exact ⟨_, h⟩) | refine sure_then ?_ | refine sure_block ?_ | refine sure_join ?_) (by kernel_rfl) ?_
  intro w17 hk16 he18 L hL19
  have hsz20 := Keep.size hk16
  replace hB := hB.keep hk16 (fun f => f)
  replace hb4 := hb4.keep hk16 (fun f => f)
  replace hat11 := hat11.keep hk16 (fun f => f)
  replace hK0 := Keep.tr hK0 (Keep.ofNone hk16)
  replace hk8 := Keep.tr hk8 (Keep.ofNone hk16)
  have qhB := hB
  have qhb4 := hb4
  have qhat11 := hat11
  have K21 : Keep (only b2) w17 w17 := Keep.refl _ _
  obtain rfl := List.mem_singleton.1 hL19
  refine Gs [3, 4, 5, 6, 7, 8, 9, 10, 11] [(0, .slice (some ⟨b11, o11, none⟩) fs.length cap), (4, pt b4), (5, nt s5), (6, nt ((i : Nat) : Int)), (25, .slice (some ⟨b11, o11, none⟩) fs.length cap), (26, nt ((i : Nat) : Int)), (27, .pointer (some ⟨b11, o11 + i * 1, none⟩)), (28, nt x12), (29, .bool (decide (x12 > 1073741824))), (33, pt b4)] ?_
  refine Gc 166 (.tmp 33) 0 (.slice (some ⟨b2, 0, none⟩) 10 10) (some 34) qhb4 (by show ¬ (_ = _); omega) rfl ?_
  refine Gs [7, 8, 9, 10, 11] [(0, .slice (some ⟨b11, o11, none⟩) fs.length cap), (4, pt b4), (5, nt s5), (6, nt ((i : Nat) : Int)), (25, .slice (some ⟨b11, o11, none⟩) fs.length cap), (26, nt ((i : Nat) : Int)), (27, .pointer (some ⟨b11, o11 + i * 1, none⟩)), (28, nt x12), (29, .bool (decide (x12 > 1073741824))), (34, .slice (some ⟨b2, 0, none⟩) 10 10), (35, nt ((i : Nat) : Int)), (36, .slice (some ⟨b11, o11, none⟩) fs.length cap), (37, nt ((i : Nat) : Int))] ?_
  refine GI_pure (some 38) (.indexAddr 72 (.tmp 36) (.tmp 37)) (by kernel_rfl) (by kernel_rfl) (pure_idxN (b := b11) (o := o11) (len := fs.length) (cap := cap) (kd := .i64) (j := i) (E := 3) (sz := 1) (by_ := 8) (by kernel_rfl) (by kernel_rfl) (by kernel_rfl) (by omega)) ?_
  refine GI_cellR 3 (.tmp 38) (o11 + i * 1) (nt x12) (some 39) (by kernel_rfl) (by kernel_rfl) (by kernel_rfl) qhat11.blk (by show ¬ (_ = _); omega) (m := 1) (by kernel_rfl) (AtR.cell0 qhat11 (es_at hx13) rfl) ?_
  refine GI_pure (some 40) (.indexAddr 166 (.tmp 34) (.tmp 35)) (by kernel_rfl) (by kernel_rfl) (pure_idxN (b := b2) (o := 0) (len := 10) (cap := 10) (kd := .i64) (j := i) (E := 171) (sz := 3) (by_ := 40) (by kernel_rfl) (by kernel_rfl) (by kernel_rfl) (by omega)) ?_
  refine Gs [11] [(0, .slice (some ⟨b11, o11, none⟩) fs.length cap), (4, pt b4), (5, nt s5), (6, nt ((i : Nat) : Int)), (25, .slice (some ⟨b11, o11, none⟩) fs.length cap), (26, nt ((i : Nat) : Int)), (27, .pointer (some ⟨b11, o11 + i * 1, none⟩)), (28, nt x12), (29, .bool (decide (x12 > 1073741824))), (39, nt x12), (41, .pointer (some ⟨b2, 0 + i * 3, none⟩))] ?_
  refine GI_final 11 (by kernel_rfl) (by kernel_rfl) ?_
  refine OI_set (m := 1) (kd := false) 3 (.tmp 41) (.tmp 39) (0 + i * 3) (nt x12) [nt x12] none (by kernel_rfl) (by kernel_rfl) (by kernel_rfl) hB (by kernel_rfl) (by kernel_rfl) (by kernel_rfl) (by rw [hLx]; show 0 + i * 3 + 1 ≤ 30; omega) (by simp [Value.oneCell']) ?_
  intro w22 hb2_25 hk23 hz24
  replace hb2_25 : Blk w22 b2 (over Lx (0 + i * 3) [nt x12]) 171 := hb2_25
  have hsz26 := Keep.size hk23
  replace hb4 := hb4.keep hk23 (by show ¬ (_ = _); omega)
  replace hat11 := hat11.keep hk23 (by show ¬ (_ = _); omega)
  replace hK0 := Keep.fresh hK0 hk23 (by intro i hi hs; first | exact hs | exact Or.inl hs | exact Or.inr hs | (exfalso; have hs2 : i = b2 := hs; omega))
  replace hk8 := Keep.fresh hk8 hk23 (by intro i hi hs; first | exact hs | exact Or.inl hs | exact Or.inr hs | (exfalso; have hs2 : i = b2 := hs; omega))
  refine Oe ?_
  refine V_region ?_
  refine Os 3 [(0, .slice (some ⟨b11, o11, none⟩) fs.length cap), (4, pt b4), (6, nt ((i : Nat) : Int)), (25, .slice (some ⟨b11, o11, none⟩) fs.length cap), (26, nt ((i : Nat) : Int)), (27, .pointer (some ⟨b11, o11 + i * 1, none⟩)), (28, nt x12), (29, .bool (decide (x12 > 1073741824))), (42, nt s5), (43, .slice (some ⟨b11, o11, none⟩) fs.length cap), (44, nt ((i : Nat) : Int))] ?_
  refine OI_pure (some 45) (.indexAddr 72 (.tmp 43) (.tmp 44)) (by kernel_rfl) (pure_idxN (b := b11) (o := o11) (len := fs.length) (cap := cap) (kd := .i64) (j := i) (E := 3) (sz := 1) (by_ := 8) (by kernel_rfl) (by kernel_rfl) (by kernel_rfl) (by omega)) ?_
  refine OI_cellR 3 (.tmp 45) (o11 + i * 1) (nt x12) (some 46) (by kernel_rfl) (by kernel_rfl) hat11.blk (m := 1) (by kernel_rfl) (AtR.cell0 hat11 (es_at hx13) rfl) ?_
  refine Os 7 [(0, .slice (some ⟨b11, o11, none⟩) fs.length cap), (4, pt b4), (5, nt (IntKind.i64.wrap (s5 + x12))), (6, nt ((i : Nat) : Int)), (25, .slice (some ⟨b11, o11, none⟩) fs.length cap), (26, nt ((i : Nat) : Int)), (27, .pointer (some ⟨b11, o11 + i * 1, none⟩)), (28, nt x12), (29, .bool (decide (x12 > 1073741824)))] ?_
  refine OI_end rfl ?_
  refine X_block ?_
  refine X_then ?_
  refine V_region ?_
  have hw27 : IntKind.i64.wrap (((i : Nat) : Int) + 1) = ((i + 1 : Nat) : Int) := (wrap64_id (by omega) (by omega)).trans (by omega)
  refine Os 2 [(0, .slice (some ⟨b11, o11, none⟩) fs.length cap), (4, pt b4), (5, nt (IntKind.i64.wrap (s5 + x12))), (18, nt (IntKind.i64.wrap (((i : Nat) : Int) + 1))), (25, .slice (some ⟨b11, o11, none⟩) fs.length cap), (26, nt ((i : Nat) : Int)), (27, .pointer (some ⟨b11, o11 + i * 1, none⟩)), (28, nt x12), (29, .bool (decide (x12 > 1073741824)))] ?_
  refine OI_eq [(0, .slice (some ⟨b11, o11, none⟩) fs.length cap), (4, pt b4), (5, nt (IntKind.i64.wrap (s5 + x12))), (18, nt ((i + 1 : Nat) : Int)), (25, .slice (some ⟨b11, o11, none⟩) fs.length cap), (26, nt ((i : Nat) : Int)), (27, .pointer (some ⟨b11, o11 + i * 1, none⟩)), (28, nt x12), (29, .bool (decide (x12 > 1073741824)))] (by rw [hw27]) ?_
  refine Os 3 [(0, .slice (some ⟨b11, o11, none⟩) fs.length cap), (4, pt b4), (5, nt (IntKind.i64.wrap (s5 + x12))), (6, nt ((i + 1 : Nat) : Int)), (25, .slice (some ⟨b11, o11, none⟩) fs.length cap), (26, nt ((i : Nat) : Int)), (27, .pointer (some ⟨b11, o11 + i * 1, none⟩)), (28, nt x12), (29, .bool (decide (x12 > 1073741824)))] ?_
  refine OI_end rfl ?_
  exact V_again (k7 - 1) (by omega) [(0, .slice (some ⟨b11, o11, none⟩) fs.length cap), (4, pt b4), (5, nt (IntKind.i64.wrap (s5 + x12))), (6, nt ((i + 1 : Nat) : Int))] rfl ⟨i + 1, IntKind.i64.wrap (s5 + x12), (over Lx (0 + i * 3) [nt x12]), by omega, hb2_25, by rw [over_length (by rw [hLx]; show 0 + i * 3 + 1 ≤ 30; omega)]; exact hLx, hk8, rfl⟩
 refine V_exit ?_
 refine X_exit_then ?_
 refine X_exit_then ?_
 refine X_exit_here ?_
 refine X_then ?_
 refine V_seq ?_
 refine Vr ?_
 refine Os 2 [(4, pt b4), (49, .bool (decide (s5 > 1073741824)))] ?_
 refine Oe ?_
 refine V_if (s5 > 1073741824) (by kernel_rfl) (fun hc28 => ?_) (fun hc28 => ?_)
 ·
  refine Vr ?_
  refine Os 2 [(2, .pointer none), (3, nt 1)] ?_
  refine Oe ?_
  refine V_ret ?_
  refine X_ret_then ?_
  exact X_return (.tuple #[.pointer none, nt 1]) rfl ⟨_, _, rfl, hK0⟩
 refine V_skip ?_
 refine X_then ?_
 refine Vr ?_
 refine Os 3 [(2, pt b4), (3, nt 0)] ?_
 refine Oe ?_
 refine V_ret ?_
 exact X_return (.tuple #[pt b4, nt 0]) rfl ⟨_, _, rfl, hK0⟩

set_option maxRecDepth 10000 in
theorem rnew11_weak (w : World) : Calls Tryz.prog 40 #[] w fun e w' => ∃ pv, e = .returned (.pointer pv) ∧ Keep none_ w w' := by
 have hK0 : Keep none_ w w := Keep.refl _ _
 have hzhK0 := Keep.size hK0
 refine enterV Tryz.func40 rfl [] 5 rfl rfl rfl ?_
 refine V_pick [] rfl ?_
 refine Vr ?_
 refine Os 1 [] ?_
 refine Oe ?_
 refine V_seq ?_
 refine V_draws (acts [0, 1, 3]) none_ [[0, 1, 2, 3, 4], [1, 0, 2, 3, 4]] (by kernel_rfl) (by repeat first | exact sure_body (by rintro _ _ ⟨_, h, _⟩; exact ⟨_, h⟩) | refine sure_then ?_ | refine sure_block ?_ | refine sure_join ?_) (by kernel_rfl) ?_
 intro w2 hk1 he3 L hL4
 have hsz5 := Keep.size hk1
 replace hK0 := Keep.tr hK0 (Keep.ofNone hk1)
 have K6 : Keep none_ w2 w2 := Keep.refl _ _
 simp only [List.mem_cons, List.not_mem_nil, or_false] at hL4
 rcases hL4 with rfl | rfl
 ·
  refine GI_make (E := 222) (sz := 7) (by_ := 56) (m := 12) (kd := .i64) (zv := .agg #[.bool false, nt 0, nt 0, nt 0, nt 0, nt 0, nt 0]) 172 (.const (Value.int IntKind.i64 12)) (.const (Value.int IntKind.i64 12)) ((List.replicate 12 [.bool false, nt 0, nt 0, nt 0, nt 0, nt 0, nt 0]).flatten) (some 1) (by kernel_rfl) (by kernel_rfl) K6 (by kernel_rfl) (by kernel_rfl) (by kernel_rfl) (by kernel_rfl) (by decide) (by decide) (by kernel_rfl) ?_
  intro b7 w7 e7 hb7 k7 z7 K8
  have hsz9 := Keep.size k7
  replace hK0 := Keep.tr hK0 (Keep.ofNone k7)
  have hb7lt := hb7.lt
  refine GI_make (E := 228) (sz := 9) (by_ := 88) (m := 40) (kd := .i64) (zv := .agg #[.slice none 0 0, .bool false, nt 0, nt 0, nt 0, nt 0, nt 0, nt 0, nt 0]) 173 (.const (Value.int IntKind.i64 40)) (.const (Value.int IntKind.i64 40)) ((List.replicate 40 [.slice none 0 0, .bool false, nt 0, nt 0, nt 0, nt 0, nt 0, nt 0, nt 0]).flatten) (some 2) (by kernel_rfl) (by kernel_rfl) K8 (by kernel_rfl) (by kernel_rfl) (by kernel_rfl) (by kernel_rfl) (by decide) (by decide) (by kernel_rfl) ?_
  intro b10 w10 e10 hb10 k10 z10 K11
  have hsz12 := Keep.size k10
  replace hb7 := hb7.keep k10 (fun f => f)
  replace hK0 := Keep.tr hK0 (Keep.ofNone k10)
  have hb10lt := hb10.lt
  refine Gs [3, 4] [(3, .agg #[.slice (some ⟨b7, 0, none⟩) 12 12, .slice (some ⟨b10, 0, none⟩) 40 40])] ?_
  refine GI_box 175 (.tmp 3) (.agg #[.slice (some ⟨b7, 0, none⟩) 12 12, .slice (some ⟨b10, 0, none⟩) 40 40]) [.slice (some ⟨b7, 0, none⟩) 12 12, .slice (some ⟨b10, 0, none⟩) 40 40] (some 4) (by kernel_rfl) (by kernel_rfl) K11 (by kernel_rfl) (by kernel_rfl) ?_
  intro b13 w13 e13 hb13 k13 z13 K14
  have hsz15 := Keep.size k13
  replace hb7 := hb7.keep k13 (fun f => f)
  replace hb10 := hb10.keep k13 (fun f => f)
  replace hK0 := Keep.tr hK0 (Keep.ofNone k13)
  have hb13lt := hb13.lt
  refine Gs [] [(0, pt b13)] ?_
  refine GI_end ?_
  refine X_then ?_
  refine V_ret ?_
  exact X_return _ rfl ⟨_, rfl, hK0⟩
 ·
  refine GI_make (E := 228) (sz := 9) (by_ := 88) (m := 40) (kd := .i64) (zv := .agg #[.slice none 0 0, .bool false, nt 0, nt 0, nt 0, nt 0, nt 0, nt 0, nt 0]) 173 (.const (Value.int IntKind.i64 40)) (.const (Value.int IntKind.i64 40)) ((List.replicate 40 [.slice none 0 0, .bool false, nt 0, nt 0, nt 0, nt 0, nt 0, nt 0, nt 0]).flatten) (some 2) (by kernel_rfl) (by kernel_rfl) K6 (by kernel_rfl) (by kernel_rfl) (by kernel_rfl) (by kernel_rfl) (by decide) (by decide) (by kernel_rfl) ?_
  intro b16 w16 e16 hb16 k16 z16 K17
  have hsz18 := Keep.size k16
  replace hK0 := Keep.tr hK0 (Keep.ofNone k16)
  have hb16lt := hb16.lt
  refine GI_make (E := 222) (sz := 7) (by_ := 56) (m := 12) (kd := .i64) (zv := .agg #[.bool false, nt 0, nt 0, nt 0, nt 0, nt 0, nt 0]) 172 (.const (Value.int IntKind.i64 12)) (.const (Value.int IntKind.i64 12)) ((List.replicate 12 [.bool false, nt 0, nt 0, nt 0, nt 0, nt 0, nt 0]).flatten) (some 1) (by kernel_rfl) (by kernel_rfl) K17 (by kernel_rfl) (by kernel_rfl) (by kernel_rfl) (by kernel_rfl) (by decide) (by decide) (by kernel_rfl) ?_
  intro b19 w19 e19 hb19 k19 z19 K20
  have hsz21 := Keep.size k19
  replace hb16 := hb16.keep k19 (fun f => f)
  replace hK0 := Keep.tr hK0 (Keep.ofNone k19)
  have hb19lt := hb19.lt
  refine Gs [3, 4] [(3, .agg #[.slice (some ⟨b19, 0, none⟩) 12 12, .slice (some ⟨b16, 0, none⟩) 40 40])] ?_
  refine GI_box 175 (.tmp 3) (.agg #[.slice (some ⟨b19, 0, none⟩) 12 12, .slice (some ⟨b16, 0, none⟩) 40 40]) [.slice (some ⟨b19, 0, none⟩) 12 12, .slice (some ⟨b16, 0, none⟩) 40 40] (some 4) (by kernel_rfl) (by kernel_rfl) K20 (by kernel_rfl) (by kernel_rfl) ?_
  intro b22 w22 e22 hb22 k22 z22 K23
  have hsz24 := Keep.size k22
  replace hb16 := hb16.keep k22 (fun f => f)
  replace hb19 := hb19.keep k22 (fun f => f)
  replace hK0 := Keep.tr hK0 (Keep.ofNone k22)
  have hb22lt := hb22.lt
  refine Gs [] [(0, pt b22)] ?_
  refine GI_end ?_
  refine X_then ?_
  refine V_ret ?_
  exact X_return _ rfl ⟨_, rfl, hK0⟩

set_option maxRecDepth 10000 in
theorem rnew12_weak (A : Option Addr) (cap : Nat) (ts : List Trk) (w : World) (hA : SlT w 18 Trk.cells A cap ts) (hok : okTs ts) : Calls Tryz.prog 34 #[.slice A ts.length cap] w fun e w' => ∃ pv, e = .returned (.tuple #[.pointer pv, .int .i64 0]) ∧ Keep none_ w w' := by
 have hAlt := SlT.lt hA
 have hok1 := hok.1
 have hok2 := hok.2.1
 have hK0 : Keep none_ w w := Keep.refl _ _
 have hzhK0 := Keep.size hK0
 refine enterV Tryz.func34 rfl [.slice A ts.length cap] 30 rfl rfl rfl ?_
 refine V_pick [(0, .slice A ts.length cap)] rfl ?_
 refine Vr ?_
 refine Os 2 [(0, .slice A ts.length cap)] ?_
 refine Oe ?_
 refine V_seq ?_
 refine Vr ?_
 refine Os 4 [(0, .slice A ts.length cap), (8, .bool (decide (((ts.length : Nat) : Int) < 1)))] ?_
 refine OI_eq [(0, .slice A ts.length cap), (8, .bool false)] (by rw [decide_eq_false (by omega : ¬ (((ts.length : Nat) : Int) < 1))]) ?_
 refine Os 8 [(0, .slice A ts.length cap), (12, .bool (decide (((ts.length : Nat) : Int) > 4)))] ?_
 refine Oe ?_
 refine V_pick [(0, .slice A ts.length cap), (12, .bool (decide (((ts.length : Nat) : Int) > 4)))] rfl ?_
 refine V_eq [(0, .slice A ts.length cap), (12, .bool false)] (by rw [decide_eq_false (by omega : ¬ (((ts.length : Nat) : Int) > 4))]) ?_
 refine V_false rfl ?_
 refine V_skip ?_
 refine X_then ?_
 refine V_seq ?_
 refine Vr ?_
 refine Os 1 [(0, .slice A ts.length cap), (4, nt 0)] ?_
 refine Oe ?_
 refine V_block ?_
 refine V_pick [(0, .slice A ts.length cap), (4, nt 0)] rfl ?_
 refine V_loop (fun k wI e => ∃ i : Nat, (k + i = ts.length) ∧ Keep none_ w wI ∧ e = [(0, .slice A ts.length cap), (4, nt ((i : Nat) : Int))]) ts.length ⟨0, rfl, Keep.refl _ _, rfl⟩ ?_
 rintro k4 w3 _ ⟨i, hki, hk5, rfl⟩
 have hsz6 := Keep.size hk5
 replace hA := SlT.keep0 hA hk5
 replace hK0 := Keep.tr hK0 (Keep.ofNone hk5)
 have hzhk5 := Keep.size hk5
 refine V_seq ?_
 refine Vr ?_
 refine Os 4 [(0, .slice A ts.length cap), (4, nt ((i : Nat) : Int)), (16, .bool (decide (((i : Nat) : Int) < ((ts.length : Nat) : Int))))] ?_
 refine Oe ?_
 refine V_if (((i : Nat) : Int) < ((ts.length : Nat) : Int)) (by kernel_rfl) (fun hc7 => ?_) (fun hc7 => ?_)
 ·
  refine V_skip ?_
  refine X_then ?_
  refine V_seq ?_
  refine V_block ?_
  refine Vr ?_
  refine Os 2 [(0, .slice A ts.length cap), (4, nt ((i : Nat) : Int)), (19, .slice A ts.length cap), (20, nt ((i : Nat) : Int))] ?_
  obtain ⟨b8, o8, L8, T8, rfl, hat8⟩ := SlT.open_ hA (by first | omega | (simp only [List.length_map]; omega) | (simp; done) | (simp; omega))
  have hb8lt := hat8.blk.lt
  have hob9 := hAlt b8 ⟨_, rfl, rfl⟩
  refine OI_pure (some 21) (.indexAddr 29 (.tmp 19) (.tmp 20)) (by kernel_rfl) (pure_idxN (b := b8) (o := o8) (len := ts.length) (cap := cap) (kd := .i64) (j := i) (E := 27) (sz := 18) (by_ := 144) (by kernel_rfl) (by kernel_rfl) (by kernel_rfl) (by omega)) ?_
  obtain ⟨x10, hx11⟩ : ∃ x, ts[i]? = some x := ⟨_, List.getElem?_eq_getElem (by first | omega | (simp only [List.length_map]; omega))⟩
  have hokx : okTrk x10 := hok.2.2 x10 (List.mem_of_getElem? hx11)
  refine Oa 27 (.tmp 21) (o8 + i * 18) (Trk.cells x10) (some 22) 18 hat8.blk (At.elem' hat8 (es_at hx11)) (At.len hat8 (es_at hx11)) ?_
  refine Ok { callee := (Callee.value (Operand.func 78)), args := #[(Operand.tmp 22)], argTypes := #[27] } 78 #[.agg (Trk.cells x10).toArray] (some 23) (r10Is_spec x10 _) ?_
  rintro _ w12 ⟨rfl, hk13⟩
  refine ⟨_, rfl, ?_⟩
  have hsz14 := Keep.size hk13
  replace hat8 := hat8.keep hk13 (fun f => f)
  replace hK0 := Keep.tr hK0 (Keep.ofNone hk13)
  replace hk5 := Keep.tr hk5 (Keep.ofNone hk13)
  refine Os 6 [(0, .slice (some ⟨b8, o8, none⟩) ts.length cap), (4, nt ((i : Nat) : Int)), (24, .bool (!(decide (okTrk x10))))] ?_
  refine Oe ?_
  refine V_pick [(0, .slice (some ⟨b8, o8, none⟩) ts.length cap), (4, nt ((i : Nat) : Int)), (24, .bool (!(decide (okTrk x10))))] rfl ?_
  refine V_eq [(0, .slice (some ⟨b8, o8, none⟩) ts.length cap), (4, nt ((i : Nat) : Int)), (24, .bool false)] (by rw [decide_eq_true hokx]; rfl) ?_
  refine V_false rfl ?_
  refine V_skip ?_
  refine X_block ?_
  refine X_then ?_
  refine V_region ?_
  have hw16 : IntKind.i64.wrap (((i : Nat) : Int) + 1) = ((i + 1 : Nat) : Int) := (wrap64_id (by omega) (by omega)).trans (by omega)
  refine Os 2 [(0, .slice (some ⟨b8, o8, none⟩) ts.length cap), (18, nt (IntKind.i64.wrap (((i : Nat) : Int) + 1)))] ?_
  refine OI_eq [(0, .slice (some ⟨b8, o8, none⟩) ts.length cap), (18, nt ((i + 1 : Nat) : Int))] (by rw [hw16]) ?_
  refine Os 3 [(0, .slice (some ⟨b8, o8, none⟩) ts.length cap), (4, nt ((i + 1 : Nat) : Int))] ?_
  refine OI_end rfl ?_
  exact V_again (k4 - 1) (by omega) [(0, .slice (some ⟨b8, o8, none⟩) ts.length cap), (4, nt ((i + 1 : Nat) : Int))] rfl ⟨i + 1, by omega, hk5, rfl⟩
 refine V_exit ?_
 refine X_exit_then ?_
 refine X_exit_then ?_
 refine X_exit_here ?_
 refine X_then ?_
 refine Vr ?_
 refine OI_slit (E := 27) (zv := .agg #[nt 0, nt 0, nt 0, nt 0, nt 0, nt 0, nt 0, nt 0, nt 0, nt 0, nt 0, nt 0, nt 0, nt 0, nt 0, nt 0, nt 0, nt 0]) (sz := 18) (by_ := 144) 29 0 #[] [] [] (some 25) (by kernel_rfl) (by kernel_rfl) (by kernel_rfl) (by omega) rfl (by omega) (by intro v hv; cases hv) (by kernel_rfl) rfl ?_
 intro b17 w17 e17 hb17 k17 z17
 have hsz18 := Keep.size k17
 replace hA := SlT.keep0 hA k17
 replace hK0 := Keep.tr hK0 (Keep.ofNone k17)
 have hb17lt := hb17.lt
 refine Os 2 [(25, .slice (some ⟨b17, 0, none⟩) 0 0), (26, .slice A ts.length cap)] ?_
 have hl19 : ts.length = ts.length := rfl
 have hy19 := SlT.slr hA
 refine OI_append (t := 29) (at2 := 29) (E := 27) (E2 := 27) (sz := 18) (by_ := 144) (zv := .agg #[nt 0, nt 0, nt 0, nt 0, nt 0, nt 0, nt 0, nt 0, nt 0, nt 0, nt 0, nt 0, nt 0, nt 0, nt 0, nt 0, nt 0, nt 0]) (m := ([] : List Trk).length) (k := ts.length) (.tmp 25) (.tmp 26) (.slice (some ⟨b17, 0, none⟩) 0 0) (.slice A ts.length cap) (some 27) (by kernel_rfl) (by kernel_rfl) (by kernel_rfl) (by kernel_rfl) (by kernel_rfl) (by kernel_rfl) (by kernel_rfl) (SlT.slr (slt_blk (xs := ([] : List Trk)) (f := Trk.cells) (sz := 18) hb17 Trk.len rfl)) hy19 (fun u hu => by obtain ⟨z, _, hz⟩ := List.mem_flatMap.1 hu; exact Trk.one z u hz) (by first | omega | ((repeat first | rw [List.length_append] | rw [List.length_cons] | rw [List.length_nil] | rw [List.length_take] | rw [List.length_drop]) <;> omega)) (by omega) (by first | omega | ((repeat first | rw [List.length_append] | rw [List.length_cons] | rw [List.length_nil] | rw [List.length_take] | rw [List.length_drop]) <;> omega)) (by omega) ?_
 intro vv9 w19 hap
 obtain ⟨A19, cap19, rfl, hA19, hk19, own19x⟩ := app_many (f := Trk.cells) (xs := ([] : List Trk)) (ys := ts) (A := (some ⟨b17, 0, none⟩)) (cap := 0) hap hl19 Trk.len
 replace hk19 : Keep (only b17) w17 w19 := hk19.mono (fun i _ h => inA_some h)
 have own19 : ∀ q, inA A19 q → w.heap.size ≤ q := fun q hq => by rcases own19x q hq with h | h; (have h9 := inA_some h; show w.heap.size ≤ q; omega); (show w.heap.size ≤ q; omega)
 rw [List.nil_append] at hA19
 have hsz20 := Keep.size hk19
 replace hA := SlT.keep hA hk19 (fun q hq hs => by have hs : q = b17 := hs; have g1 := hAlt q hq; omega)
 replace hK0 := Keep.fresh hK0 hk19 (by intro i hi hs; first | exact hs | exact Or.inl hs | exact Or.inr hs | (exfalso; have hs2 : i = b17 := hs; omega))
 have lt19 := SlT.lt hA19
 have hcap19 := SlT.cap_le hA19
 refine Os 4 [(28, .agg #[.slice A19 ts.length cap19, .slice none 0 0])] ?_
 refine OI_box 152 (.tmp 28) (.agg #[.slice A19 ts.length cap19, .slice none 0 0]) [.slice A19 ts.length cap19, .slice none 0 0] (some 29) (by kernel_rfl) (by kernel_rfl) (by kernel_rfl) ?_
 intro b21 w21 e21 hb21 k21 z21
 have hsz22 := Keep.size k21
 replace hA := SlT.keep0 hA k21
 replace hA19 := SlT.keep0 hA19 k21
 replace hK0 := Keep.tr hK0 (Keep.ofNone k21)
 have hb21lt := hb21.lt
 refine Os 7 [(2, pt b21), (3, nt 0)] ?_
 refine Oe ?_
 refine V_ret ?_
 exact X_return _ rfl ⟨_, rfl, hK0⟩
end Go.Al


namespace Go.Al
open Go Go.RowKit Go.Proofs
theorem new_ok (A : Option Addr) (cap : Nat) (fs : List Int) (w : World) (hA : ArgT w 1 intc A cap fs) (hn : fs.length ≤ 100000) (hok : okP fs) : Calls Tryz.prog 26 #[.slice A fs.length cap] w fun e w' => ∃ l F, e = .returned (.tuple #[.pointer (some ⟨l, 0, none⟩), .int .i64 0]) ∧ Led F w' l (newX fs 10) [] ∧ Keep none_ w w' ∧ (∀ q, F q → w.heap.size ≤ q) :=
  (new_spec6 A cap fs w hA hn).mono (by
    rintro e w' (⟨_, h⟩ | ⟨h, _⟩)
    · exact h
    · exact absurd hok h)
def rfF : List Int := [1000, 1000, 1000, 1000, 1000, 1000, 1000, 1000, 1000, 1000]
theorem rfF_step {i : Nat} (h : i < 10) : rfF.take (i + 1) = rfF.take i ++ [1000] := by
  have h2 : i < rfF.length := h
  rw [List.take_succ_eq_append_getElem h2]
  congr 2
  exact (by decide : ∀ x ∈ rfF, x = 1000) _ (List.getElem_mem h2)
def rfX : List Acc := newX rfF 10
theorem rfF_ok : okP rfF := by
  refine ⟨by decide, by decide, ?_⟩
  have h : tot (newX rfF 10) = 10000 := by kernel_rfl
  omega

set_option maxRecDepth 10000 in
set_option maxHeartbeats 1000000 in
theorem begin_weak (A : Option Addr) (cap : Nat) (ts : List Trk) (w : World) (hA : SlT w 18 Trk.cells A cap ts) (hok : okTs ts) : Calls Tryz.prog 15 #[.slice A ts.length cap] w fun e w' => ∃ b r g v l H F G xv yv zv, e = .returned (.pointer (some ⟨b, 0, none⟩)) ∧ Blk w' b [.pointer (some ⟨l, 0, none⟩), .pointer (some ⟨v, 0, none⟩), .pointer (some ⟨r, 0, none⟩), .pointer xv, .pointer yv, .pointer zv, .int .i64 0] 39 ∧ Rfr H w' r g ts [] ∧ VotT F w' v VS.zero ∧ Led G w' l rfX [] ∧ Keep none_ w w' ∧ w.heap.size ≤ b ∧ (∀ q, H q → w.heap.size ≤ q ∧ q ≠ b) ∧ (∀ q, F q → w.heap.size ≤ q ∧ q ≠ b) ∧ (∀ q, G q → w.heap.size ≤ q ∧ q ≠ b) ∧ (∀ q, H q → ¬ F q) ∧ (∀ q, H q → ¬ G q) ∧ (∀ q, F q → ¬ G q) := by
 have hAlt := SlT.lt hA
 have hK0 : Keep none_ w w := Keep.refl _ _
 have hzhK0 := Keep.size hK0
 refine enterV Tryz.func15 rfl [.slice A ts.length cap] 76 rfl rfl rfl ?_
 refine V_pick [(0, .slice A ts.length cap)] rfl ?_
 refine Vr ?_
 refine Os 1 [(0, .slice A ts.length cap)] ?_
 refine Oer ?_
 refine Os 1 [(0, .slice A ts.length cap), (3, .slice none 0 0)] ?_
 refine Oe ?_
 refine V_seq ?_
 refine Vr ?_
 refine Os 1 [(0, .slice A ts.length cap), (3, .slice none 0 0), (4, nt 0)] ?_
 refine Oe ?_
 refine V_block ?_
 refine V_pick [(0, .slice A ts.length cap), (3, .slice none 0 0), (4, nt 0)] rfl ?_
 refine V_loop (fun k wI e => ∃ i : Nat, ∃ A2 : Option Addr, ∃ cap2 : Nat, ∃ ms : List Int, (k + i = 10) ∧ (i ≤ 10) ∧ (ms = rfF.take i) ∧ (SlT wI 1 intc A2 cap2 ms) ∧ (∀ q, inA A2 q → w.heap.size ≤ q) ∧ Keep none_ w wI ∧ e = [(0, .slice A ts.length cap), (3, .slice A2 ms.length cap2), (4, nt ((i : Nat) : Int))]) 10 ⟨0, none, 0, [], by omega, by omega, rfl, SlT.nil _ _ _, fun q h => (inA_none h).elim, Keep.refl _ _, rfl⟩ ?_
 rintro k2 w1 _ ⟨i, A2, cap2, ms, hki, hi10, hms, hA2, ow2, hk3, rfl⟩
 have hsz4 := Keep.size hk3
 replace hA := SlT.keep0 hA hk3
 replace hK0 := Keep.tr hK0 (Keep.ofNone hk3)
 have hzhk3 := Keep.size hk3
 have lt2 := SlT.lt hA2
 have hml : ms.length = i := by rw [hms, List.length_take]; show min i 10 = i; omega
 refine V_seq ?_
 refine Vr ?_
 refine Os 2 [(0, .slice A ts.length cap), (3, .slice A2 ms.length cap2), (4, nt ((i : Nat) : Int)), (15, .bool (decide (((i : Nat) : Int) < 10)))] ?_
 refine Oe ?_
 refine V_if (((i : Nat) : Int) < 10) (by kernel_rfl) (fun hc5 => ?_) (fun hc5 => ?_)
 ·
  refine V_skip ?_
  refine X_then ?_
  refine V_seq ?_
  refine V_block ?_
  refine V_region ?_
  refine Os 1 [(0, .slice A ts.length cap), (4, nt ((i : Nat) : Int)), (18, .slice A2 ms.length cap2)] ?_
  refine OI_slit (E := 3) (zv := nt 0) (sz := 1) (by_ := 8) 72 1 #[(0, (Operand.const (Value.int IntKind.i64 1000)))] [nt 1000] [nt 1000] (some 19) (by kernel_rfl) (by kernel_rfl) (by kernel_rfl) (by omega) rfl (by omega) (by intro v hv; simp only [List.mem_cons, List.not_mem_nil, or_false] at hv; rcases hv with rfl <;> rfl) (by kernel_rfl) rfl ?_
  intro b6 w6 e6 hb6 k6 z6
  have hsz7 := Keep.size k6
  replace hA := SlT.keep0 hA k6
  replace hA2 := SlT.keep0 hA2 k6
  replace hK0 := Keep.tr hK0 (Keep.ofNone k6)
  replace hk3 := Keep.tr hk3 (Keep.ofNone k6)
  have hb6lt := hb6.lt
  refine OI_append (t := 72) (at2 := 72) (E := 3) (E2 := 3) (sz := 1) (by_ := 8) (zv := nt 0) (m := ms.length) (k := 1) (.tmp 18) (.tmp 19) (.slice A2 ms.length cap2) (.slice (some ⟨b6, 0, none⟩) 1 1) (some 20) (by kernel_rfl) (by kernel_rfl) (by kernel_rfl) (by kernel_rfl) (by kernel_rfl) (by kernel_rfl) (by kernel_rfl) (SlT.slr hA2) (slr_one hb6 (intc_len 1000)) (intc_one 1000) (by first | omega | (simp only [List.length_nil]; omega)) (by omega) (by first | omega | (simp only [List.length_nil]; omega)) (by omega) ?_
  intro vv9 w8 hap
  obtain ⟨A8, cap8, rfl, hA8, hk8, own8x⟩ := app_one (f := intc) (xs := ms) (x := 1000) (A := A2) (cap := cap2) hap (fun x _ => intc_len x) (intc_len _)
  have own8 : ∀ q, inA A8 q → w.heap.size ≤ q := fun q hq => by rcases own8x q hq with h | h; exact ow2 q h; (show w.heap.size ≤ q; omega)
  have hsz9 := Keep.size hk8
  replace hA := SlT.keep hA hk8 (fun q hq hs => by have g1 := hAlt q hq; have h1 := ow2 q hs; have h2 := lt2 q hs; omega)
  replace hK0 := Keep.fresh hK0 hk8 (by intro i hi hs; first | exact hs | (exfalso; have h1 := ow2 i hs; have h2 := lt2 i hs; omega) | (have h1 := ow2 i hs; have h2 := lt2 i hs; show _ ∨ _; omega))
  replace hk3 := Keep.fresh hk3 hk8 (by intro i hi hs; first | exact hs | (exfalso; have h1 := ow2 i hs; have h2 := lt2 i hs; omega) | (have h1 := ow2 i hs; have h2 := lt2 i hs; show _ ∨ _; omega))
  have lt8 := SlT.lt hA8
  refine Os 4 [(0, .slice A ts.length cap), (3, .slice A8 ((ms ++ [1000]).length) cap8), (4, nt ((i : Nat) : Int))] ?_
  refine OI_end rfl ?_
  refine X_block ?_
  refine X_then ?_
  refine V_region ?_
  have hw10 : IntKind.i64.wrap (((i : Nat) : Int) + 1) = ((i + 1 : Nat) : Int) := (wrap64_id (by omega) (by omega)).trans (by omega)
  refine Os 2 [(0, .slice A ts.length cap), (3, .slice A8 ((ms ++ [1000]).length) cap8), (17, nt (IntKind.i64.wrap (((i : Nat) : Int) + 1)))] ?_
  refine OI_eq [(0, .slice A ts.length cap), (3, .slice A8 ((ms ++ [1000]).length) cap8), (17, nt ((i + 1 : Nat) : Int))] (by rw [hw10]) ?_
  refine Os 3 [(0, .slice A ts.length cap), (3, .slice A8 ((ms ++ [1000]).length) cap8), (4, nt ((i + 1 : Nat) : Int))] ?_
  refine OI_end rfl ?_
  exact V_again (k2 - 1) (by omega) [(0, .slice A ts.length cap), (3, .slice A8 ((ms ++ [1000]).length) cap8), (4, nt ((i + 1 : Nat) : Int))] rfl ⟨i + 1, A8, cap8, ms ++ [1000], by omega, by omega, by rw [rfF_step (by omega), ← hms], hA8, own8, hk3, rfl⟩
 refine V_exit ?_
 refine X_exit_then ?_
 refine X_exit_then ?_
 refine X_exit_here ?_
 refine X_then ?_
 refine Vr ?_
 refine Os 1 [(0, .slice A ts.length cap), (3, .slice A2 ms.length cap2), (22, .slice A2 ms.length cap2)] ?_
 have hie : i = 10 := by omega
 replace hms : ms = rfF := by rw [hms, hie]; rfl
 refine Ok { callee := (Callee.value (Operand.func 26)), args := #[(Operand.tmp 22)], argTypes := #[72] } 26 #[.slice A2 ms.length cap2] (some 23) (new_ok A2 cap2 ms _ (SlT.arg hA2) (by omega) (by rw [hms]; exact rfF_ok)) ?_
 rintro _ w11 ⟨l13, F14, rfl, ho15, hk12, hge16⟩
 refine ⟨_, rfl, ?_⟩
 have hsz17 := Keep.size hk12
 replace hA := SlT.keep0 hA hk12
 replace hA2 := SlT.keep0 hA2 hk12
 replace hK0 := Keep.tr hK0 (Keep.ofNone hk12)
 replace ho15 : Led F14 w11 l13 rfX [] := by rw [hms] at ho15; exact ho15
 have own18 : ∀ q, F14 q → w1.heap.size ≤ q := fun q hq => by have h1 := hge16 q hq; omega
 have lt19 := Led.lt ho15
 have dis20 : ∀ q, F14 q → ¬ inA A q := fun q h1 h2 => by have h3 := hge16 q h1; have h4 := hAlt q h2; omega
 have dis21 : ∀ q, F14 q → ¬ inA A2 q := fun q h1 h2 => by have h3 := hge16 q h1; have h4 := lt2 q h2; omega
 have hl13lt : l13 < w11.heap.size := Led.lt ho15 _ (Led.at_ ho15)
 have hl13ge := hge16 _ (Led.at_ ho15)
 refine Os 7 [(0, .slice A ts.length cap), (3, .slice A2 ms.length cap2), (5, pt l13), (6, nt 0)] ?_
 refine Oer ?_
 refine Os 1 [(0, .slice A ts.length cap), (5, pt l13), (6, nt 0), (27, .slice A2 ms.length cap2)] ?_
 refine Ok { callee := (Callee.value (Operand.func 39)), args := #[(Operand.tmp 27)], argTypes := #[72] } 39 #[.slice A2 ms.length cap2] (some 28) (rnew6_weak A2 cap2 ms _ (SlT.arg hA2) (by omega)) ?_
 rintro _ w22 ⟨pv24, n25, rfl, hk23⟩
 refine ⟨_, rfl, ?_⟩
 have hsz26 := Keep.size hk23
 replace hA := SlT.keep0 hA hk23
 replace hA2 := SlT.keep0 hA2 hk23
 replace hK0 := Keep.tr hK0 (Keep.ofNone hk23)
 replace ho15 := Led.keep ho15 hk23 (fun _ _ f => f)
 refine Os 7 [(0, .slice A ts.length cap), (5, pt l13), (6, nt 0), (7, .pointer pv24)] ?_
 refine Oer ?_
 refine Os 1 [(0, .slice A ts.length cap), (5, pt l13), (6, nt 0), (7, .pointer pv24), (32, .slice A ts.length cap)] ?_
 refine Ok { callee := (Callee.value (Operand.func 35)), args := #[(Operand.tmp 32)], argTypes := #[29] } 35 #[.slice A ts.length cap] (some 33) (rnw_spec A cap ts _ hA hok) ?_
 rintro _ w27 ⟨r29, gg33, H30, rfl, hR31, hk28, hge32⟩
 refine ⟨_, rfl, ?_⟩
 have hsz34 := Keep.size hk28
 replace hA := SlT.keep0 hA hk28
 replace hA2 := SlT.keep0 hA2 hk28
 replace hK0 := Keep.tr hK0 (Keep.ofNone hk28)
 replace ho15 := Led.keep ho15 hk28 (fun _ _ f => f)
 have own35 : ∀ q, H30 q → w22.heap.size ≤ q := fun q hq => by have h1 := hge32 q hq; omega
 have lt36 := Rfr.lt hR31
 have dis37 : ∀ q, H30 q → ¬ inA A q := fun q h1 h2 => by have h3 := hge32 q h1; have h4 := hAlt q h2; omega
 have dis38 : ∀ q, H30 q → ¬ inA A2 q := fun q h1 h2 => by have h3 := hge32 q h1; have h4 := lt2 q h2; omega
 have dis39 : ∀ q, H30 q → ¬ F14 q := fun q h1 h2 => by have h3 := hge32 q h1; have h4 := lt19 q h2; omega
 have hr29lt : r29 < w27.heap.size := Rfr.lt hR31 _ (Rfr.at_ hR31)
 have hr29ge := hge32 _ (Rfr.at_ hR31)
 refine Os 7 [(0, .slice A ts.length cap), (5, pt l13), (6, nt 0), (7, .pointer pv24), (9, pt r29), (10, nt 0)] ?_
 refine Oer ?_
 refine Os 1 [(5, pt l13), (6, nt 0), (7, .pointer pv24), (9, pt r29), (10, nt 0), (37, .slice A ts.length cap)] ?_
 refine Ok { callee := (Callee.value (Operand.func 34)), args := #[(Operand.tmp 37)], argTypes := #[29] } 34 #[.slice A ts.length cap] (some 38) (rnew12_weak A cap ts _ hA hok) ?_
 rintro _ w40 ⟨pv42, rfl, hk41⟩
 refine ⟨_, rfl, ?_⟩
 have hsz43 := Keep.size hk41
 replace hA := SlT.keep0 hA hk41
 replace hA2 := SlT.keep0 hA2 hk41
 replace hK0 := Keep.tr hK0 (Keep.ofNone hk41)
 replace ho15 := Led.keep ho15 hk41 (fun _ _ f => f)
 replace hR31 := Rfr.keep hR31 hk41 (fun _ _ f => f)
 refine Os 7 [(5, pt l13), (6, nt 0), (7, .pointer pv24), (9, pt r29), (10, nt 0), (11, .pointer pv42), (12, nt 0)] ?_
 refine Oer ?_
 refine Os 1 [(5, pt l13), (6, nt 0), (7, .pointer pv24), (9, pt r29), (10, nt 0), (11, .pointer pv42), (12, nt 0), (41, pt l13)] ?_
 refine Ok { callee := (Callee.value (Operand.func 27)), args := #[], argTypes := #[] } 27 #[] (some 42) (new_votT _) ?_
 rintro _ w46 ⟨g48, F49, rfl, ho50, hk47, hge51⟩
 refine ⟨_, rfl, ?_⟩
 have hsz52 := Keep.size hk47
 replace hA := SlT.keep0 hA hk47
 replace hA2 := SlT.keep0 hA2 hk47
 replace hK0 := Keep.tr hK0 (Keep.ofNone hk47)
 replace ho15 := Led.keep ho15 hk47 (fun _ _ f => f)
 replace hR31 := Rfr.keep hR31 hk47 (fun _ _ f => f)
 have own53 : ∀ q, F49 q → w40.heap.size ≤ q := fun q hq => by have h1 := hge51 q hq; omega
 have lt54 := VotT.lt ho50
 have dis55 : ∀ q, F49 q → ¬ inA A q := fun q h1 h2 => by have h3 := hge51 q h1; have h4 := hAlt q h2; omega
 have dis56 : ∀ q, F49 q → ¬ inA A2 q := fun q h1 h2 => by have h3 := hge51 q h1; have h4 := lt2 q h2; omega
 have dis57 : ∀ q, F49 q → ¬ F14 q := fun q h1 h2 => by have h3 := hge51 q h1; have h4 := lt19 q h2; omega
 have dis58 : ∀ q, F49 q → ¬ H30 q := fun q h1 h2 => by have h3 := hge51 q h1; have h4 := lt36 q h2; omega
 have hg48lt : g48 < w46.heap.size := VotT.lt ho50 _ (VotT.at_ ho50)
 have hg48ge := hge51 _ (VotT.at_ ho50)
 refine Os 4 [(5, pt l13), (6, nt 0), (9, pt r29), (10, nt 0), (11, .pointer pv42), (12, nt 0), (41, pt l13), (42, pt g48), (43, pt r29), (44, .pointer pv24)] ?_
 refine Ok { callee := (Callee.value (Operand.func 40)), args := #[], argTypes := #[] } 40 #[] (some 45) (rnew11_weak _) ?_
 rintro _ w59 ⟨pv61, rfl, hk60⟩
 refine ⟨_, rfl, ?_⟩
 have hsz62 := Keep.size hk60
 replace hA := SlT.keep0 hA hk60
 replace hA2 := SlT.keep0 hA2 hk60
 replace hK0 := Keep.tr hK0 (Keep.ofNone hk60)
 replace ho15 := Led.keep ho15 hk60 (fun _ _ f => f)
 replace hR31 := Rfr.keep hR31 hk60 (fun _ _ f => f)
 replace ho50 := VotT.keep ho50 hk60 (fun _ _ f => f)
 refine Os 7 [(5, pt l13), (6, nt 0), (9, pt r29), (10, nt 0), (12, nt 0), (47, .agg #[pt l13, pt g48, pt r29, .pointer pv24, .pointer pv61, .pointer pv42, nt 0])] ?_
 refine OI_box 39 (.tmp 47) (.agg #[pt l13, pt g48, pt r29, .pointer pv24, .pointer pv61, .pointer pv42, nt 0]) [pt l13, pt g48, pt r29, .pointer pv24, .pointer pv61, .pointer pv42, nt 0] (some 48) (by kernel_rfl) (by kernel_rfl) (by kernel_rfl) ?_
 intro b63 w63 e63 hb63 k63 z63
 have hsz64 := Keep.size k63
 replace hA := SlT.keep0 hA k63
 replace hA2 := SlT.keep0 hA2 k63
 replace hK0 := Keep.tr hK0 (Keep.ofNone k63)
 replace ho15 := Led.keep ho15 k63 (fun _ _ f => f)
 replace hR31 := Rfr.keep hR31 k63 (fun _ _ f => f)
 replace ho50 := VotT.keep ho50 k63 (fun _ _ f => f)
 have hb63lt := hb63.lt
 refine Os 9 [(5, pt l13), (6, nt 0), (9, pt r29), (10, nt 0), (12, nt 0), (13, pt b63)] ?_
 refine Oe ?_
 refine V_seq ?_
 refine Vr ?_
 refine Os 10 [(9, pt r29), (10, nt 0), (12, nt 0), (13, pt b63), (55, .bool false), (58, .pointer (some ⟨b63, 1, none⟩))] ?_
 refine Oc 33 (.tmp 58) 1 (pt g48) (some 59) hb63 rfl ?_
 refine Os 26 [(13, pt b63), (74, .bool false)] ?_
 refine Oe ?_
 refine V_false rfl ?_
 refine V_skip ?_
 refine X_then ?_
 refine Vr ?_
 refine Os 2 [(2, pt b63)] ?_
 refine Oe ?_
 refine V_ret ?_
 exact X_return _ rfl ⟨b63, r29, gg33, g48, l13, H30, F49, F14, pv24, pv61, pv42, rfl, hb63, hR31, ho50, ho15, hK0, by omega, (fun q hq => ⟨by have h1 := own35 q hq; omega, by have h1 := lt36 q hq; omega⟩), (fun q hq => ⟨by have h1 := own53 q hq; omega, by have h1 := lt54 q hq; omega⟩), (fun q hq => ⟨by have h1 := own18 q hq; omega, by have h1 := lt19 q hq; omega⟩), (fun q h1 h2 => dis58 q h2 h1), dis39, dis57⟩
end Go.Al


namespace Go.Al
open Go Go.RowKit Go.Proofs
/-! ### States, and what is done to them -/
structure RW where
  xs : List Acc
  cs : List Ci
  s : VS
  rs : List Rfm
def rwQ0 : RW := ⟨rfX, [], VS.zero, []⟩
def rwSub (ts : List Trk) (q : RW) (who of after : Int) (sum : Nat → Int) (now : Int) : RW := ⟨subX q.xs q.cs q.s ts q.rs who of after, q.cs, subS q.xs q.cs q.s ts q.rs who of after, subR q.xs q.cs q.s ts q.rs who of after sum now⟩
def rwDep (ts : List Trk) (q : RW) (who ref : Int) : RW := ⟨depX q.xs q.cs ts q.rs who ref, q.cs, q.s, depR q.xs q.cs ts q.rs who ref⟩
def rwSvc (ts : List Trk) (q : RW) (now : Int) : RW := ⟨q.xs, q.cs, (svcQ ts q.xs q.s q.rs now).s, (svcQ ts q.xs q.s q.rs now).rs⟩
def rwEvs (ts : List Trk) (q : RW) (now : Int) : List Evt := (svcQ ts q.xs q.s q.rs now).out
def RW.subE (ts : List Trk) (q : RW) (who of after : Int) : Int := _root_.Go.Al.subE q.xs q.cs q.s ts q.rs who of after
theorem SlT.ofE {α : Type} {w : World} {sz cap : Nat} {f : α → List Value} {A : Option Addr} {xs ys : List α} (h : SlT w sz f A cap xs) (e : xs = ys) : SlT w sz f A cap ys := e ▸ h
def plainT : Trk := ⟨1, 20, 2, 10, 3, 1, ⟨1, 500000000, 500000000, 1, 0⟩, ⟨1, 100000000, 100000000, 1, 0⟩, 50, 2⟩
theorem plain_ok : okTs [plainT] := ⟨by decide, by decide, by decide⟩

set_option maxRecDepth 10000 in
theorem plain_spec (w : World) : Calls Tryz.prog 16 #[] w fun e w' => e = .returned (.agg plainT.cells.toArray) ∧ Keep none_ w w' := by
 have hK0 : Keep none_ w w := Keep.refl _ _
 have hzhK0 := Keep.size hK0
 refine enterM Tryz.func16 rfl [] 4 rfl rfl rfl ?_
 refine V_pick [] rfl ?_
 refine Vr ?_
 refine OI_alloc 27 (.agg (Trk.cells Trk.zero).toArray) (Trk.cells Trk.zero) (some 0) (by kernel_rfl) (by kernel_rfl) (by kernel_rfl) ?_
 intro b1 w1 e1 hb1 k1 z1
 have hsz2 := Keep.size k1
 replace hK0 := Keep.tr hK0 (Keep.ofNone k1)
 have hb1lt := hb1.lt
 refine Oer ?_
 refine Os 3 [(0, pt b1), (3, .agg (Trk.cells plainT).toArray)] ?_
 refine OI_set (m := 18) (kd := true) 27 (.tmp 0) (.tmp 3) 0 (.agg (Trk.cells plainT).toArray) (Trk.cells plainT) none (by kernel_rfl) (by kernel_rfl) (by kernel_rfl) hb1 (by kernel_rfl) rfl (Trk.len _) (Nat.le_of_ble_eq_true (by kernel_rfl)) (Trk.one _) ?_
 intro w3 hb1_6 hk4 hz5
 replace hb1_6 : Blk w3 b1 (Trk.cells plainT) 27 := (Blk.eqL (Trk.over _ _) hb1_6)
 have hsz7 := Keep.size hk4
 replace hK0 := Keep.fresh hK0 hk4 (by intro i hi hs; first | exact hs | exact Or.inl hs | exact Or.inr hs | (exfalso; have hs2 : i = b1 := hs; omega))
 refine Oe ?_
 refine V_ret ?_
 exact leave0 (.agg (Trk.cells plainT).toArray) (.inl rfl) (res_agg1 (m := 18) rfl rfl (by kernel_rfl) hb1_6 rfl) ⟨rfl, hK0⟩

def kwQ1 : RW := rwSub [plainT] rwQ0 1 0 0 z0 0
def kwQ2 : RW := rwSvc [plainT] kwQ1 29
def kwQ3 : RW := rwSvc [plainT] kwQ2 30
theorem kw1 : RW.subE [plainT] rwQ0 1 0 0 = 0 := by kernel_rfl
theorem kw2 : rwEvs [plainT] kwQ1 29 = [] := by kernel_rfl
theorem kw3 : rwEvs [plainT] kwQ2 30 = [Evt.mk 1 0 4] := by kernel_rfl

set_option maxRecDepth 10000 in
set_option maxHeartbeats 1000000 in
theorem known_spec (w : World) : Calls Tryz.prog 18 #[] w fun e w' => e = .returned (.bool true) ∧ Keep none_ w w' := by
 have hK0 : Keep none_ w w := Keep.refl _ _
 have hzhK0 := Keep.size hK0
 refine enterV Tryz.func18 rfl [] 77 rfl rfl rfl ?_
 refine V_pick [] rfl ?_
 refine Vr ?_
 refine Os 1 [] ?_
 refine Oer ?_
 refine Ok { callee := (Callee.value (Operand.func 16)), args := #[], argTypes := #[] } 16 #[] (some 6) (plain_spec _) ?_
 rintro _ w1 ⟨rfl, hk2⟩
 refine ⟨_, rfl, ?_⟩
 have hsz3 := Keep.size hk2
 replace hK0 := Keep.tr hK0 (Keep.ofNone hk2)
 refine OI_slit (E := 27) (zv := .agg #[nt 0, nt 0, nt 0, nt 0, nt 0, nt 0, nt 0, nt 0, nt 0, nt 0, nt 0, nt 0, nt 0, nt 0, nt 0, nt 0, nt 0, nt 0]) (sz := 18) (by_ := 144) 29 1 #[(0, (Operand.tmp 6))] [.agg (Trk.cells plainT).toArray] (Trk.cells plainT) (some 7) (by kernel_rfl) (by kernel_rfl) (by kernel_rfl) (by omega) rfl (by omega) (by intro v hv; obtain rfl := List.mem_singleton.1 hv; show (Trk.cells plainT).toArray.size = 18; simp [Trk.len]) (by kernel_rfl) (by show (Trk.cells plainT).toArray.toList ++ [] = _; simp) ?_
 intro b4 w4 e4 hb4 k4 z4
 have hsz5 := Keep.size k4
 replace hK0 := Keep.tr hK0 (Keep.ofNone k4)
 have hb4lt := hb4.lt
 refine Ok { callee := (Callee.value (Operand.func 15)), args := #[(Operand.tmp 7)], argTypes := #[29] } 15 #[.slice (some ⟨b4, 0, none⟩) 1 1] (some 8) (begin_weak (some ⟨b4, 0, none⟩) 1 [(plainT)] _ (slt_blk (xs := [(plainT)]) (f := Trk.cells) hb4 Trk.len rfl) plain_ok) ?_
 rintro _ w8 ⟨b10, r11, gg12, v13, l14, H15, F16, G17, xv18, yv19, zv20, rfl, hb21, hR22, hV23, hL24, hk9, hge25, oH26, oF27, oG28, dHF29, dHG30, dFG31⟩
 refine ⟨_, rfl, ?_⟩
 have hsz32 := Keep.size hk9
 replace hb4 := hb4.keep hk9 (fun f => f)
 replace hK0 := Keep.tr hK0 (Keep.ofNone hk9)
 have hb10lt := hb21.lt
 have own33 : ∀ q, H15 q → w4.heap.size ≤ q ∧ q ≠ b4 ∧ q ≠ b10 := fun q hq => by have h1 := oH26 q hq; omega
 have lt34 := Rfr.lt hR22
 have own35 : ∀ q, F16 q → w4.heap.size ≤ q ∧ q ≠ b4 ∧ q ≠ b10 := fun q hq => by have h1 := oF27 q hq; omega
 have lt36 := VotT.lt hV23
 have own37 : ∀ q, G17 q → w4.heap.size ≤ q ∧ q ≠ b4 ∧ q ≠ b10 := fun q hq => by have h1 := oG28 q hq; omega
 have lt38 := Led.lt hL24
 replace hR22 : Rfr H15 w8 r11 gg12 [(plainT)] rwQ0.rs := hR22
 replace hV23 : VotT F16 w8 v13 rwQ0.s := hV23
 replace hL24 : Led G17 w8 l14 rwQ0.xs rwQ0.cs := hL24
 refine Os 4 [(1, pt b10)] ?_
 refine Oe ?_
 refine V_seq ?_
 refine Vr ?_
 refine Os 2 [(1, pt b10), (10, .bool false)] ?_
 refine Oe ?_
 refine V_false rfl ?_
 refine V_skip ?_
 refine X_then ?_
 refine V_seq ?_
 refine V_draws (acts [13]) none_ [[0, 1, 2, 3, 4, 5, 6, 7, 8, 9, 10, 11, 12, 13, 14, 15, 16, 17, 18]] (by kernel_rfl) (by repeat first | exact (by first | exact sure_body (by rintro _ _ ⟨_, _, h, _⟩; exact ⟨_, h⟩) | exact sure_body (by rintro _ _ ⟨_, _, _, _, _, _, _, _, _, _, _, h, _⟩; exact ⟨_, h⟩) | exact sure_body (by rintro _ _ ⟨h, _⟩; exact ⟨_, h⟩)) | refine sure_then ?_ | refine sure_block ?_ | refine sure_join ?_) (by kernel_rfl) ?_
 intro w40 hk39 he41 L hL42
 have hsz43 := Keep.size hk39
 replace hb4 := hb4.keep hk39 (fun f => f)
 replace hb21 := hb21.keep hk39 (fun f => f)
 replace hK0 := Keep.tr hK0 (Keep.ofNone hk39)
 replace hR22 := Rfr.keep hR22 hk39 (fun _ _ f => f)
 replace hV23 := VotT.keep hV23 hk39 (fun _ _ f => f)
 replace hL24 := Led.keep hL24 hk39 (fun _ _ f => f)
 have qhb4 := hb4
 have qhb21 := hb21
 have K44 : Keep none_ w40 w40 := Keep.refl _ _
 obtain rfl := List.mem_singleton.1 hL42
 refine Gs [3, 4, 5, 6, 7, 8, 9, 10, 11, 12, 13, 14, 15, 16, 17, 18] [(1, pt b10), (14, .pointer (some ⟨b10, 2, none⟩))] ?_
 refine Gc0 34 (.tmp 14) 2 (pt r11) (some 15) qhb21 rfl ?_
 refine Gs [7, 8, 9, 10, 11, 12, 13, 14, 15, 16, 17, 18] [(1, pt b10), (15, pt r11), (18, pt b10)] ?_
 refine Gc0 32 (.tmp 18) 0 (pt l14) (some 19) qhb21 rfl ?_
 refine Gs [11, 12, 13, 14, 15, 16, 17, 18] [(1, pt b10), (15, pt r11), (19, pt l14), (22, .pointer (some ⟨b10, 1, none⟩))] ?_
 refine Gc0 33 (.tmp 22) 1 (pt v13) (some 23) qhb21 rfl ?_
 refine Gs [13, 14, 15, 16, 17, 18] [(1, pt b10), (15, pt r11), (19, pt l14), (23, pt v13), (24, .agg (hshc z0).toArray)] ?_
 refine Gk0 { callee := (Callee.value (Operand.func 17)), args := #[(Operand.tmp 15), (Operand.tmp 19), (Operand.tmp 23), (Operand.const (Value.int IntKind.i64 1)), (Operand.const (Value.int IntKind.i64 0)), (Operand.tmp 24), (Operand.const (Value.int IntKind.i64 0)), (Operand.const (Value.int IntKind.i64 0))], argTypes := #[34, 32, 33, 3, 3, 42, 3, 3] } 17 #[pt r11, pt l14, pt v13, nt 1, nt 0, .agg (hshc z0).toArray, nt 0, nt 0] (some 25) (submit_spec H15 r11 gg12 [(plainT)] rwQ0.rs F16 v13 rwQ0.s G17 l14 rwQ0.xs rwQ0.cs 1 0 z0 0 0 _ hR22 hV23 hL24 dHF29 dHG30 dFG31) ?_
 rintro _ w47 ⟨rfl, ⟨F49, F52, F55, ho50, ho53, ho56, hfr51, hfr54, hfr57, hdis58, hdis59, hdis60⟩, hk48⟩
 refine ⟨_, rfl, ?_⟩
 have hsz61 := Keep.size hk48
 replace hb4 := hb4.keep hk48 (fun hs => by rcases hs with hs | hs | hs; (have u9 : _ = gg12 := hs; have u0 := own33 _ (Rfr.atg hR22); have u1 := lt34 _ (Rfr.atg hR22); omega); (have u0 := own35 _ hs; have u1 := lt36 _ hs; omega); (have u0 := own37 _ hs; have u1 := lt38 _ hs; omega))
 replace hb21 := hb21.keep hk48 (fun hs => by rcases hs with hs | hs | hs; (have u9 : _ = gg12 := hs; have u0 := own33 _ (Rfr.atg hR22); have u1 := lt34 _ (Rfr.atg hR22); omega); (have u0 := own35 _ hs; have u1 := lt36 _ hs; omega); (have u0 := own37 _ hs; have u1 := lt38 _ hs; omega))
 replace hK0 := Keep.fresh hK0 hk48 (by intro i hi hs; first | exact hs | (rcases hs with hs | hs | hs; (have u9 : _ = gg12 := hs; have u0 := own33 _ (Rfr.atg hR22); have u1 := lt34 _ (Rfr.atg hR22); omega); (have u0 := own35 i hs; have u1 := lt36 i hs; omega); (have u0 := own37 i hs; have u1 := lt38 i hs; omega)))
 have own63 : ∀ q, F49 q → w4.heap.size ≤ q ∧ q ≠ b4 ∧ q ≠ b10 := fun q hq => by rcases hfr51 q hq with h | h; (have h1 := own33 q h; have h2 := lt34 q h; omega); omega
 have lt62 := Rfr.lt ho50
 have own65 : ∀ q, F52 q → w4.heap.size ≤ q ∧ q ≠ b4 ∧ q ≠ b10 := fun q hq => by rcases hfr54 q hq with h | h; (have h1 := own35 q h; have h2 := lt36 q h; omega); omega
 have lt64 := VotT.lt ho53
 have own67 : ∀ q, F55 q → w4.heap.size ≤ q ∧ q ≠ b4 ∧ q ≠ b10 := fun q hq => by rcases hfr57 q hq with h | h; (have h1 := own37 q h; have h2 := lt38 q h; omega); omega
 have lt66 := Led.lt ho56
 replace ho50 : Rfr F49 w47 r11 gg12 [(plainT)] kwQ1.rs := ho50
 replace ho53 : VotT F52 w47 v13 kwQ1.s := ho53
 replace ho56 : Led F55 w47 l14 kwQ1.xs kwQ1.cs := ho56
 refine Gp_ [(1, pt b10), (25, .tuple #[nt (if RW.subE [(plainT)] rwQ0 1 0 0 = 0 then ((rwQ0.rs.length : Nat) : Int) else 0), nt (RW.subE [(plainT)] rwQ0 1 0 0)])] ?_
 refine GI_eq [(1, pt b10), (25, .tuple #[nt 0, nt 0])] (by rw [kw1]; rfl) ?_
 refine Gs [] [(1, pt b10), (2, nt 0), (3, nt 0)] ?_
 refine GI_end ?_
 refine X_then ?_
 refine V_seq ?_
 refine V_draws (acts [12]) none_ [[0, 1, 2, 3, 4, 5, 6, 7, 8, 9, 10, 11, 12, 13]] (by kernel_rfl) (by repeat first | exact (by first | exact sure_body (by rintro _ _ ⟨_, _, h, _⟩; exact ⟨_, h⟩) | exact sure_body (by rintro _ _ ⟨_, _, _, _, _, _, _, _, _, _, _, h, _⟩; exact ⟨_, h⟩) | exact sure_body (by rintro _ _ ⟨h, _⟩; exact ⟨_, h⟩)) | refine sure_then ?_ | refine sure_block ?_ | refine sure_join ?_) (by kernel_rfl) ?_
 intro w69 hk68 he70 L hL71
 have hsz72 := Keep.size hk68
 replace hb4 := hb4.keep hk68 (fun f => f)
 replace hb21 := hb21.keep hk68 (fun f => f)
 replace hK0 := Keep.tr hK0 (Keep.ofNone hk68)
 replace ho50 := Rfr.keep ho50 hk68 (fun _ _ f => f)
 replace ho53 := VotT.keep ho53 hk68 (fun _ _ f => f)
 replace ho56 := Led.keep ho56 hk68 (fun _ _ f => f)
 have qhb4 := hb4
 have qhb21 := hb21
 have K73 : Keep none_ w69 w69 := Keep.refl _ _
 obtain rfl := List.mem_singleton.1 hL71
 refine Gs [3, 4, 5, 6, 7, 8, 9, 10, 11, 12, 13] [(1, pt b10), (2, nt 0), (3, nt 0), (30, .pointer (some ⟨b10, 2, none⟩))] ?_
 refine Gc0 34 (.tmp 30) 2 (pt r11) (some 31) qhb21 rfl ?_
 refine Gs [7, 8, 9, 10, 11, 12, 13] [(1, pt b10), (2, nt 0), (3, nt 0), (31, pt r11), (34, pt b10)] ?_
 refine Gc0 32 (.tmp 34) 0 (pt l14) (some 35) qhb21 rfl ?_
 refine Gs [11, 12, 13] [(1, pt b10), (2, nt 0), (3, nt 0), (31, pt r11), (35, pt l14), (38, .pointer (some ⟨b10, 1, none⟩))] ?_
 refine Gc0 33 (.tmp 38) 1 (pt v13) (some 39) qhb21 rfl ?_
 refine Gk0 { callee := (Callee.value (Operand.func 22)), args := #[(Operand.tmp 31), (Operand.tmp 35), (Operand.tmp 39), (Operand.const (Value.int IntKind.i64 29))], argTypes := #[34, 32, 33, 3] } 22 #[pt r11, pt l14, pt v13, nt 29] (some 40) (service_spec F49 r11 gg12 [(plainT)] kwQ1.rs F52 v13 kwQ1.s F55 l14 kwQ1.xs kwQ1.cs 29 _ ho50 ho53 ho56 hdis58 hdis59 hdis60) ?_
 rintro _ w76 ⟨A78, cap78, rfl, hA78, ow78, ⟨F79, F82, ho80, ho83, hfr81, hfr84, hdis85, dA86, dA87⟩, hk77⟩
 refine ⟨_, rfl, ?_⟩
 have hsz88 := Keep.size hk77
 replace hb4 := hb4.keep hk77 (fun hs => by rcases hs with hs | hs; (have u9 : _ = gg12 := hs; have u0 := own63 _ (Rfr.atg ho50); have u1 := lt62 _ (Rfr.atg ho50); omega); (have u0 := own65 _ hs; have u1 := lt64 _ hs; omega))
 replace hb21 := hb21.keep hk77 (fun hs => by rcases hs with hs | hs; (have u9 : _ = gg12 := hs; have u0 := own63 _ (Rfr.atg ho50); have u1 := lt62 _ (Rfr.atg ho50); omega); (have u0 := own65 _ hs; have u1 := lt64 _ hs; omega))
 replace hK0 := Keep.fresh hK0 hk77 (by intro i hi hs; first | exact hs | (rcases hs with hs | hs; (have u9 : _ = gg12 := hs; have u0 := own63 _ (Rfr.atg ho50); have u1 := lt62 _ (Rfr.atg ho50); omega); (have u0 := own65 i hs; have u1 := lt64 i hs; omega)))
 replace ho56 := Led.keep ho56 hk77 (fun q hq hs => by rcases hs with hs | hs; exact (fun q h1 h2 => hdis59 q h2 h1) q hq (by rw [show q = gg12 from hs]; exact (Rfr.atg ho50)); exact (fun q h1 h2 => hdis60 q h2 h1) q hq hs)
 have own90 : ∀ q, F79 q → w4.heap.size ≤ q ∧ q ≠ b4 ∧ q ≠ b10 := fun q hq => by rcases hfr81 q hq with h | h; (have h1 := own63 q h; have h2 := lt62 q h; omega); omega
 have lt89 := Rfr.lt ho80
 have dis91 : ∀ q, F79 q → ¬ F55 q := fun q h1 h2 => by rcases hfr81 q h1 with h | h; exact hdis59 q h h2; (have h4 := lt66 q h2; omega)
 have own93 : ∀ q, F82 q → w4.heap.size ≤ q ∧ q ≠ b4 ∧ q ≠ b10 := fun q hq => by rcases hfr84 q hq with h | h; (have h1 := own65 q h; have h2 := lt64 q h; omega); omega
 have lt92 := VotT.lt ho83
 have dis94 : ∀ q, F82 q → ¬ F55 q := fun q h1 h2 => by rcases hfr84 q h1 with h | h; exact hdis60 q h h2; (have h4 := lt66 q h2; omega)
 have ltA78 := SlT.lt hA78
 have dis95 : ∀ q, inA A78 q → ¬ F55 q := fun q h1 h2 => by have h3 := ow78 q h1; have h4 := lt66 q h2; omega
 replace hA78 := SlT.ofE (xs := (rwEvs [(plainT)] kwQ1 29)) hA78 (show _ = ([] : List Evt) from kw2)
 replace ho80 : Rfr F79 w76 r11 gg12 [(plainT)] kwQ2.rs := ho80
 replace ho83 : VotT F82 w76 v13 kwQ2.s := ho83
 replace ho56 : Led F55 w76 l14 kwQ2.xs kwQ2.cs := ho56
 refine Gp_ [(1, pt b10), (2, nt 0), (3, nt 0), (40, .slice A78 ((rwEvs [(plainT)] kwQ1 29).length) cap78)] ?_
 refine GI_eq [(1, pt b10), (2, nt 0), (3, nt 0), (40, .slice A78 0 cap78)] (by rw [show (rwEvs [(plainT)] kwQ1 29) = ([] : List Evt) from kw2]; rfl) ?_
 refine Gs [] [(1, pt b10), (2, nt 0), (3, nt 0), (4, .slice A78 0 cap78)] ?_
 refine GI_end ?_
 refine X_then ?_
 refine V_seq ?_
 refine V_draws (acts [12]) none_ [[0, 1, 2, 3, 4, 5, 6, 7, 8, 9, 10, 11, 12, 13]] (by kernel_rfl) (by repeat first | exact (by first | exact sure_body (by rintro _ _ ⟨_, _, h, _⟩; exact ⟨_, h⟩) | exact sure_body (by rintro _ _ ⟨_, _, _, _, _, _, _, _, _, _, _, h, _⟩; exact ⟨_, h⟩) | exact sure_body (by rintro _ _ ⟨h, _⟩; exact ⟨_, h⟩)) | refine sure_then ?_ | refine sure_block ?_ | refine sure_join ?_) (by kernel_rfl) ?_
 intro w97 hk96 he98 L hL99
 have hsz100 := Keep.size hk96
 replace hb4 := hb4.keep hk96 (fun f => f)
 replace hb21 := hb21.keep hk96 (fun f => f)
 replace hA78 := SlT.keep0 hA78 hk96
 replace hK0 := Keep.tr hK0 (Keep.ofNone hk96)
 replace ho56 := Led.keep ho56 hk96 (fun _ _ f => f)
 replace ho80 := Rfr.keep ho80 hk96 (fun _ _ f => f)
 replace ho83 := VotT.keep ho83 hk96 (fun _ _ f => f)
 have qhb4 := hb4
 have qhb21 := hb21
 have qhA78 := hA78
 have K101 : Keep none_ w97 w97 := Keep.refl _ _
 obtain rfl := List.mem_singleton.1 hL99
 refine Gs [3, 4, 5, 6, 7, 8, 9, 10, 11, 12, 13] [(1, pt b10), (2, nt 0), (3, nt 0), (4, .slice A78 0 cap78), (43, .pointer (some ⟨b10, 2, none⟩))] ?_
 refine Gc0 34 (.tmp 43) 2 (pt r11) (some 44) qhb21 rfl ?_
 refine Gs [7, 8, 9, 10, 11, 12, 13] [(1, pt b10), (2, nt 0), (3, nt 0), (4, .slice A78 0 cap78), (44, pt r11), (47, pt b10)] ?_
 refine Gc0 32 (.tmp 47) 0 (pt l14) (some 48) qhb21 rfl ?_
 refine Gs [11, 12, 13] [(2, nt 0), (3, nt 0), (4, .slice A78 0 cap78), (44, pt r11), (48, pt l14), (51, .pointer (some ⟨b10, 1, none⟩))] ?_
 refine Gc0 33 (.tmp 51) 1 (pt v13) (some 52) qhb21 rfl ?_
 refine Gk0 { callee := (Callee.value (Operand.func 22)), args := #[(Operand.tmp 44), (Operand.tmp 48), (Operand.tmp 52), (Operand.const (Value.int IntKind.i64 30))], argTypes := #[34, 32, 33, 3] } 22 #[pt r11, pt l14, pt v13, nt 30] (some 53) (service_spec F79 r11 gg12 [(plainT)] kwQ2.rs F82 v13 kwQ2.s F55 l14 kwQ2.xs kwQ2.cs 30 _ ho80 ho83 ho56 hdis85 dis91 dis94) ?_
 rintro _ w104 ⟨A106, cap106, rfl, hA106, ow106, ⟨F107, F110, ho108, ho111, hfr109, hfr112, hdis113, dA114, dA115⟩, hk105⟩
 refine ⟨_, rfl, ?_⟩
 have hsz116 := Keep.size hk105
 replace hb4 := hb4.keep hk105 (fun hs => by rcases hs with hs | hs; (have u9 : _ = gg12 := hs; have u0 := own90 _ (Rfr.atg ho80); have u1 := lt89 _ (Rfr.atg ho80); omega); (have u0 := own93 _ hs; have u1 := lt92 _ hs; omega))
 replace hA78 := SlT.keep hA78 hk105 (fun q hq hs => by rcases hs with hs | hs; exact dA86 q hq (by rw [show q = gg12 from hs]; exact (Rfr.atg ho80)); exact dA87 q hq hs)
 replace hK0 := Keep.fresh hK0 hk105 (by intro i hi hs; first | exact hs | (rcases hs with hs | hs; (have u9 : _ = gg12 := hs; have u0 := own90 _ (Rfr.atg ho80); have u1 := lt89 _ (Rfr.atg ho80); omega); (have u0 := own93 i hs; have u1 := lt92 i hs; omega)))
 replace ho56 := Led.keep ho56 hk105 (fun q hq hs => by rcases hs with hs | hs; exact (fun q h1 h2 => dis91 q h2 h1) q hq (by rw [show q = gg12 from hs]; exact (Rfr.atg ho80)); exact (fun q h1 h2 => dis94 q h2 h1) q hq hs)
 have own118 : ∀ q, F107 q → w4.heap.size ≤ q ∧ q ≠ b4 := fun q hq => by rcases hfr109 q hq with h | h; (have h1 := own90 q h; have h2 := lt89 q h; omega); omega
 have lt117 := Rfr.lt ho108
 have dis119 : ∀ q, F107 q → ¬ inA A78 q := fun q h1 h2 => by rcases hfr109 q h1 with h | h; exact (fun q h1 h2 => dA86 q h2 h1) q h h2; (have h4 := ltA78 q h2; omega)
 have dis120 : ∀ q, F107 q → ¬ F55 q := fun q h1 h2 => by rcases hfr109 q h1 with h | h; exact dis91 q h h2; (have h4 := lt66 q h2; omega)
 have own122 : ∀ q, F110 q → w4.heap.size ≤ q ∧ q ≠ b4 := fun q hq => by rcases hfr112 q hq with h | h; (have h1 := own93 q h; have h2 := lt92 q h; omega); omega
 have lt121 := VotT.lt ho111
 have dis123 : ∀ q, F110 q → ¬ inA A78 q := fun q h1 h2 => by rcases hfr112 q h1 with h | h; exact (fun q h1 h2 => dA87 q h2 h1) q h h2; (have h4 := ltA78 q h2; omega)
 have dis124 : ∀ q, F110 q → ¬ F55 q := fun q h1 h2 => by rcases hfr112 q h1 with h | h; exact dis94 q h h2; (have h4 := lt66 q h2; omega)
 have ltA106 := SlT.lt hA106
 have dis125 : ∀ q, inA A106 q → ¬ F55 q := fun q h1 h2 => by have h3 := ow106 q h1; have h4 := lt66 q h2; omega
 replace hA106 := SlT.ofE (xs := (rwEvs [(plainT)] kwQ2 30)) hA106 (show _ = [Evt.mk 1 0 4] from kw3)
 replace ho108 : Rfr F107 w104 r11 gg12 [(plainT)] kwQ3.rs := ho108
 replace ho111 : VotT F110 w104 v13 kwQ3.s := ho111
 replace ho56 : Led F55 w104 l14 kwQ3.xs kwQ3.cs := ho56
 refine Gp_ [(2, nt 0), (3, nt 0), (4, .slice A78 0 cap78), (53, .slice A106 ((rwEvs [(plainT)] kwQ2 30).length) cap106)] ?_
 refine GI_eq [(2, nt 0), (3, nt 0), (4, .slice A78 0 cap78), (53, .slice A106 1 cap106)] (by rw [show (rwEvs [(plainT)] kwQ2 30) = [Evt.mk 1 0 4] from kw3]; rfl) ?_
 refine Gs [] [(2, nt 0), (3, nt 0), (4, .slice A78 0 cap78), (5, .slice A106 1 cap106)] ?_
 refine GI_end ?_
 refine X_then ?_
 refine Vr ?_
 refine Os 18 [(70, .bool true), (71, .slice A106 1 cap106)] ?_
 obtain ⟨b126, o126, L126, T126, rfl, hat126⟩ := SlT.open_ hA106 (by first | omega | (simp only [List.length_map]; omega) | (simp; done) | (simp; omega))
 have hb126lt := hat126.blk.lt
 have hob127 := ow106 b126 ⟨_, rfl, rfl⟩
 have hob128 := ltA106 b126 ⟨_, rfl, rfl⟩
 have hne129 : ∀ q, F55 q → q ≠ b126 := fun q hq hs => (fun q h1 h2 => dis125 q h2 h1) q hq ⟨_, rfl, hs⟩
 have own130 := fun q hq => And.intro (own67 q hq) (hne129 q hq)
 have hne131 : ∀ q, F107 q → q ≠ b126 := fun q hq hs => (fun q h1 h2 => dA114 q h2 h1) q hq ⟨_, rfl, hs⟩
 have own132 := fun q hq => And.intro (own118 q hq) (hne131 q hq)
 have hne133 : ∀ q, F110 q → q ≠ b126 := fun q hq hs => (fun q h1 h2 => dA115 q h2 h1) q hq ⟨_, rfl, hs⟩
 have own134 := fun q hq => And.intro (own122 q hq) (hne133 q hq)
 refine OI_pure (some 72) (.indexAddr 50 (.tmp 71) (.const (Value.int IntKind.i64 0))) (by kernel_rfl) (pure_idxN (b := b126) (o := o126) (len := 1) (cap := cap106) (kd := .i64) (j := 0) (E := 53) (sz := 3) (by_ := 24) (by kernel_rfl) (by kernel_rfl) (by kernel_rfl) (by omega)) ?_
 refine Oa 53 (.tmp 72) (o126 + 0 * 3) (Evt.cells (Evt.mk 1 0 4)) (some 73) 3 hat126.blk (At.elem' hat126 (es_at (rfl : ([Evt.mk 1 0 4] : List Evt)[0]? = some (Evt.mk 1 0 4)))) (At.len hat126 (es_at (rfl : ([Evt.mk 1 0 4] : List Evt)[0]? = some (Evt.mk 1 0 4)))) ?_
 refine Os 21 [(70, .bool true), (73, .agg (Evt.cells (Evt.mk 1 0 4)).toArray), (74, .agg (Evt.cells (Evt.mk 1 0 4)).toArray)] ?_
 refine OI_pure (some 75) ((Op.binOp BinOp.eql 53 (Operand.tmp 73) (Operand.tmp 74) 53)) (by kernel_rfl) (pure_eql_same (xs := Evt.cells (Evt.mk 1 0 4)) (by kernel_rfl) (by kernel_rfl) (by kernel_rfl) (by kernel_rfl)) ?_
 refine Os 24 [(0, .bool true)] ?_
 refine Oe ?_
 refine V_ret ?_
 exact X_return (.bool true) rfl ⟨rfl, hK0⟩
end Go.Al


namespace Go.Al
open Go Go.RowKit Go.Proofs
/-! ### One that finds no room -/
theorem atI_flat {a x : Int} (h : 0 ≤ a ∧ a ≤ 1000000000) : atI ⟨1, a, a, 1, 0⟩ x = a := by
  unfold atI
  rw [if_pos rfl]
  split
  · rfl
  · show w64 (a - w64 (Int.tdiv (w64 (w64 (a - a) * heldI x 0 1000000000)) 1)) = a
    rw [Int.sub_self, show w64 0 = 0 from rfl, Int.zero_mul, show w64 0 = 0 from rfl, Int.zero_tdiv, show w64 0 = 0 from rfl, Int.sub_zero]
    exact w64_id (by omega) (by omega)
theorem pass_flat {t : Trk} {y : Tly} {iss el a b : Int} (ha : t.app = ⟨1, a, a, 1, 0⟩) (hb : t.sup = ⟨1, b, b, 1, 0⟩) (h1 : 0 ≤ a ∧ a ≤ 1000000000) (h2 : 0 ≤ b ∧ b ≤ 1000000000) : passB t y iss el = (decide (apprI y ≥ a) && decide (ratioI y.s iss ≥ b)) := by
  unfold passB
  rw [ha, hb, atI_flat h1, atI_flat h2]
def tiT : Trk := { plainT with decision := 100, sup := ⟨1, 1000000000, 1000000000, 1, 0⟩ }
theorem ti_ok : okTs [tiT] := ⟨by decide, by decide, by decide⟩
def tiX : Rfm := { newR 0 z0 0 0 1 with backer := 1, since := 2 }
def tiA : RW := rwDep [tiT] (rwSub [tiT] rwQ0 1 0 0 z0 0) 1 0
def tiS : Nat → RW
  | 0 => tiA
  | i + 1 => rwSvc [tiT] (tiS i) ((i + 1 : Nat) : Int)
def tiV1 : VS := openS VS.zero 0 0
def tiZ : RW := ⟨tiA.xs, [], tiV1, [tiX]⟩
theorem ti2 : tiS 2 = tiZ := by kernel_rfl
theorem ti_pass (iss el : Int) : passB tiT Tly.zero iss el = false := by rw [pass_flat (a := 500000000) (b := 1000000000) rfl rfl (by decide) (by decide)]; rfl
theorem ti_till (iss now : Int) : tillI [tiT] tiX Tly.zero iss now = -1 := by unfold tillI; exact if_pos (ti_pass _ _)
theorem ti_decX {iss now : Int} (h : 3 ≤ now ∧ now ≤ 80) : decE [tiT] tiX Tly.zero iss now = 0 ∧ decY [tiT] tiX Tly.zero iss now = tiX := by
  constructor
  · unfold decE
    rw [if_neg (by decide : ¬ tiX.since = -1), ti_till, if_neg (fun h9 => h9.1 rfl), if_neg]
    rintro ⟨_, h2⟩
    have h3 : w64 (now - 2) ≥ 100 := h2
    rw [w64_id (by omega) (by omega)] at h3; omega
  · unfold decY
    rw [if_neg (by decide : ¬ tiX.since = -1), ti_till]; rfl
theorem ti_same {now : Int} (h : 3 ≤ now ∧ now ≤ 80) : rwSvc [tiT] tiZ now = tiZ := by
  have e : svcQ [tiT] tiZ.xs tiZ.s tiZ.rs now = svcStep [tiT] (tot tiZ.xs) now 0 tiX ⟨tiZ.s, [tiX], []⟩ := by
    unfold svcQ
    rw [show begK [tiT] tiZ.s now tiZ.rs [tiT].length = [tiX] by kernel_rfl]; rfl
  have e2 := step_on (ts := [tiT]) (iss := tot tiZ.xs) (now := now) (q := ⟨tiZ.s, [tiX], []⟩) (i := 0) (x := tiX) rfl (ti_decX h).1
  unfold rwSvc
  rw [e, e2]
  show RW.mk _ _ _ ([tiX].set 0 (decY [tiT] tiX Tly.zero (tot tiZ.xs) now)) = _
  rw [(ti_decX h).2]; rfl
theorem tiS_at : ∀ n : Nat, 2 ≤ n → n ≤ 80 → tiS n = tiZ
  | 0, h, _ => by omega
  | 1, h, _ => by omega
  | 2, _, _ => ti2
  | n + 3, _, h => by
    show rwSvc [tiT] (tiS (n + 2)) _ = _
    rw [tiS_at (n + 2) (by omega) (by omega)]
    exact ti_same (by omega)
def tiY (bk : Bool) (late : Int) : Rfm := { newR 0 z0 0 (2 + late) 2 with backer := if bk = true then 2 else -1 }
def tiV2 : VS := openS tiV1 1 0
def tiB (late : Int) : RW := rwSub [tiT] tiZ 2 0 0 z0 (2 + late)
def tiD (bk : Bool) (late : Int) : RW := if bk = true then rwDep [tiT] (tiB late) 2 1 else tiB late
def tiDx (bk : Bool) : List Acc := if bk = true then resX (resX tiA.xs [] 2 10) [] 2 20 else resX tiA.xs [] 2 10
theorem tiB_at (late : Int) : tiB late = ⟨resX tiA.xs [] 2 10, [], tiV2, [tiX, { newR 0 z0 0 (2 + late) 2 with backer := -1 }]⟩ := by
  have hE : subE tiZ.xs tiZ.cs tiZ.s [tiT] tiZ.rs 2 0 0 = 0 := by kernel_rfl
  obtain ⟨h1, h2, h3⟩ := sub_go hE
  show RW.mk (subX tiZ.xs tiZ.cs tiZ.s [tiT] tiZ.rs 2 0 0) [] (subS tiZ.xs tiZ.cs tiZ.s [tiT] tiZ.rs 2 0 0) (subR tiZ.xs tiZ.cs tiZ.s [tiT] tiZ.rs 2 0 0 z0 (2 + late)) = _
  rw [h1, h2, h3]; rfl
theorem tiD_at (bk : Bool) (late : Int) : tiD bk late = ⟨tiDx bk, [], tiV2, [tiX, tiY bk late]⟩ := by
  unfold tiD tiDx
  cases bk with
  | false => rw [if_neg (by decide), if_neg (by decide)]; exact tiB_at late
  | true =>
    rw [if_pos rfl, if_pos rfl, tiB_at]
    have hE : depE (resX tiA.xs [] 2 10) [] [tiT] [tiX, { newR 0 z0 0 (2 + late) 2 with backer := -1 }] 2 1 = 0 := by
      show spendsE (resX tiA.xs [] 2 10) [] 2 20 = 0
      kernel_rfl
    obtain ⟨h1, h2⟩ := dep_go hE
    show RW.mk (depX _ [] [tiT] _ 2 1) [] _ (depR _ [] [tiT] _ 2 1) = _
    rw [h1, h2]; rfl
def tiV (bk : Bool) (late : Int) : Nat → RW
  | 0 => tiD bk late
  | m + 1 => rwSvc [tiT] (tiV bk late m) (3 + late + m)
def tiW (bk : Bool) (late : Int) : RW := ⟨tiDx bk, [], closeS tiV2 1 4 (32 + late), [tiX, endY tiV2 (tiY bk late) 1 4 (32 + late)]⟩
theorem take0 {l : List Int} {n : Int} (h : n ≤ 0) : l.take (imin (l.length : Int) (imax n 0)).toNat = [] := by
  have e : imax n 0 = 0 := by unfold imax; split <;> omega
  rw [e]
  have : (imin (l.length : Int) 0).toNat = 0 := by unfold imin; split <;> omega
  rw [this]; rfl
theorem sort_len_take (key : Int → Int) (l : List Int) {n : Int} (h : n ≤ 0) : (sortD key l).take (imin (l.length : Int) (imax n 0)).toNat = [] := by
  have := take0 (l := sortD key l) h
  rw [sortD_len] at this; exact this
theorem ti_beg {s : VS} {now : Int} {y : Rfm} (hy : y.state ≠ 1 ∨ y.since = -1) (ht : y.track = 0) : begK [tiT] s now [tiX, y] 1 = [tiX, y] := by
  show begR [tiT] s now [tiX, y] 0 = _
  have hd : decN 0 [tiX, y] = 1 := by
    show (1 : Int) + ((if decB 0 y = true then 1 else 0) + 0) = 1
    have : decB 0 y = false := by
      unfold decB
      rcases hy with h | h
      · rw [decide_eq_true h]; rfl
      · rw [decide_eq_false (show ¬ (y.since ≠ -1) from fun h9 => h9 h), Bool.and_false]
    rw [this]; rfl
  unfold begR begL
  rw [hd, sort_len_take _ _ (by decide)]; rfl
theorem ti_two {xs : List Acc} {s : VS} {y : Rfm} {now : Int} (h : 3 ≤ now ∧ now ≤ 80) (hy : y.state ≠ 1 ∨ y.since = -1) (ht : y.track = 0) (h0 : tallyT s 0 = Tly.zero) : svcQ [tiT] xs s [tiX, y] now = svcStep [tiT] (tot xs) now 1 y ⟨s, [tiX, y], []⟩ := by
  unfold svcQ
  rw [show begK [tiT] s now [tiX, y] [tiT].length = [tiX, y] from ti_beg hy ht]
  show svcStep [tiT] (tot xs) now 1 y (svcStep [tiT] (tot xs) now 0 tiX ⟨s, [tiX, y], []⟩) = _
  have e2 := step_on (ts := [tiT]) (iss := tot xs) (now := now) (q := ⟨s, [tiX, y], []⟩) (i := 0) (x := tiX) rfl (by show decE [tiT] tiX (tallyT s 0) _ now = 0; rw [h0]; exact (ti_decX h).1)
  rw [e2]
  show svcStep _ _ now 1 y ⟨s, [tiX, y].set 0 (decY [tiT] tiX (tallyT s 0) (tot xs) now), []⟩ = _
  rw [h0, (ti_decX h).2]; rfl
theorem tiY_s (bk : Bool) (late : Int) : (tiY bk late).since = -1 := rfl
theorem ti_early {bk : Bool} {late : Int} {m : Nat} (hl : 0 ≤ late ∧ late ≤ 40) (hm : m < 29) : rwSvc [tiT] (tiD bk late) (3 + late + m) = tiD bk late ∧ rwEvs [tiT] (tiD bk late) (3 + late + m) = [] := by
  rw [tiD_at]
  have hE : decE [tiT] (tiY bk late) (tallyT tiV2 1) (tot (tiDx bk)) (3 + late + m) = 0 := by
    unfold decE
    rw [if_pos (tiY_s bk late), if_neg]
    intro h9
    have h9 : w64 (3 + late + m - (2 + late)) ≥ 30 := h9
    rw [w64_id (by omega) (by omega)] at h9; omega
  have hY : decY [tiT] (tiY bk late) (tallyT tiV2 1) (tot (tiDx bk)) (3 + late + m) = tiY bk late := by unfold decY; rw [if_pos (tiY_s bk late)]
  have e := ti_two (xs := tiDx bk) (s := tiV2) (y := tiY bk late) (now := 3 + late + m) (by omega) (.inr rfl) rfl rfl
  have e2 := step_on (ts := [tiT]) (iss := tot (tiDx bk)) (now := 3 + late + m) (q := ⟨tiV2, [tiX, tiY bk late], []⟩) (i := 1) (x := tiY bk late) rfl hE
  rw [hY] at e2
  have e3 := e.trans e2
  exact ⟨by unfold rwSvc; dsimp only; rw [e3]; rfl, by unfold rwEvs; dsimp only; rw [e3]⟩
theorem ti_ends {bk : Bool} {late : Int} (hl : 0 ≤ late ∧ late ≤ 40) : rwSvc [tiT] (tiD bk late) (3 + late + (29 : Nat)) = tiW bk late ∧ rwEvs [tiT] (tiD bk late) (3 + late + (29 : Nat)) = [Evt.mk 1 1 4] := by
  rw [tiD_at, show (3 + late + ((29 : Nat) : Int)) = 32 + late by omega]
  have hE : decE [tiT] (tiY bk late) (tallyT tiV2 1) (tot (tiDx bk)) (32 + late) = 4 := by
    unfold decE
    rw [if_pos (tiY_s bk late), if_pos]
    show w64 (32 + late - (2 + late)) ≥ 30
    rw [w64_id (by omega) (by omega)]; omega
  have hY : decY [tiT] (tiY bk late) (tallyT tiV2 1) (tot (tiDx bk)) (32 + late) = tiY bk late := by unfold decY; rw [if_pos (tiY_s bk late)]
  have e := ti_two (xs := tiDx bk) (s := tiV2) (y := tiY bk late) (now := 32 + late) (by omega) (.inr rfl) rfl rfl
  have e2 := step_end (ts := [tiT]) (iss := tot (tiDx bk)) (now := 32 + late) (q := ⟨tiV2, [tiX, tiY bk late], []⟩) (i := 1) (x := tiY bk late) rfl (by rw [hE]; decide)
  rw [hY, hE] at e2
  have e3 := e.trans e2
  exact ⟨by unfold rwSvc; dsimp only; rw [e3]; rfl, by unfold rwEvs; dsimp only; rw [e3]; rfl⟩
theorem ti_later {bk : Bool} {late now : Int} (h : 3 ≤ now ∧ now ≤ 80) : rwSvc [tiT] (tiW bk late) now = tiW bk late ∧ rwEvs [tiT] (tiW bk late) now = [] := by
  have h0 : tallyT (closeS tiV2 1 4 (32 + late)) 0 = Tly.zero := rfl
  have e := ti_two (xs := tiDx bk) (s := closeS tiV2 1 4 (32 + late)) (y := endY tiV2 (tiY bk late) 1 4 (32 + late)) (now := now) h (.inl (by show (4 : Int) ≠ 1; decide)) rfl h0
  have e2 := step_skip (ts := [tiT]) (iss := tot (tiDx bk)) (now := now) (q := ⟨closeS tiV2 1 4 (32 + late), [tiX, endY tiV2 (tiY bk late) 1 4 (32 + late)], []⟩) (i := 1) (x := endY tiV2 (tiY bk late) 1 4 (32 + late)) (by show ¬ (4 : Int) = 1; decide)
  have e3 := e.trans e2
  exact ⟨by unfold rwSvc tiW; dsimp only; rw [e3], by unfold rwEvs tiW; dsimp only; rw [e3]⟩
theorem tiV_at {bk : Bool} {late : Int} (hl : 0 ≤ late ∧ late ≤ 40) : ∀ m : Nat, (3 + late + m ≤ 81) → tiV bk late m = if m ≤ 29 then tiD bk late else tiW bk late
  | 0, _ => rfl
  | m + 1, h => by
    show rwSvc [tiT] (tiV bk late m) _ = _
    rw [tiV_at hl m (by omega)]
    rcases Nat.lt_trichotomy m 29 with h1 | h1 | h1
    · rw [if_pos (by omega), if_pos (by omega)]; exact (ti_early hl h1).1
    · subst h1; rw [if_pos (by omega), if_neg (by omega)]; exact (ti_ends hl).1
    · rw [if_neg (by omega), if_neg (by omega)]; exact (ti_later (by omega)).1
def tiL (m : Nat) : List Evt := if m = 29 then [Evt.mk 1 1 4] else []
def tiN (m : Nat) : Int := if m ≤ 29 then 0 else 1
theorem tiV_ev {bk : Bool} {late : Int} {m : Nat} (hl : 0 ≤ late ∧ late ≤ 40) (h : 3 + late + m ≤ 80) : rwEvs [tiT] (tiV bk late m) (3 + late + m) = tiL m := by
  rw [tiV_at hl m (by omega)]
  unfold tiL
  rcases Nat.lt_trichotomy m 29 with h1 | h1 | h1
  · rw [if_pos (by omega), if_neg (by omega)]; exact (ti_early hl h1).2
  · subst h1; rw [if_pos (by omega), if_pos rfl]; exact (ti_ends hl).2
  · rw [if_neg (by omega), if_neg (by omega)]; exact (ti_later (by omega)).2
theorem ti_fin {bk : Bool} {late : Int} {m : Nat} (hl : 0 ≤ late ∧ late ≤ 40) (h : 3 + late + m = 81) : (getR (tiV bk late m).rs 0).isSome = true ∧ (getA (tiV bk late m).rs 0).state = 1 ∧ (getA (tiV bk late m).rs 0).since = 2 ∧ tiN m = 1 := by
  rw [tiV_at hl m (by omega), if_neg (by omega)]
  exact ⟨rfl, rfl, rfl, if_neg (by omega)⟩
theorem tiN_bnd (m : Nat) : 0 ≤ tiN m ∧ tiN m ≤ 1 := by unfold tiN; split <;> omega
theorem tiN_yes {m : Nat} (h : m = 29) : tiN (m + 1) = tiN m + 1 := by unfold tiN; rw [if_neg (by omega), if_pos (by omega)]; rfl
theorem tiN_no {m : Nat} (h : ¬ m = 29) : tiN (m + 1) = tiN m := by
  unfold tiN
  by_cases h1 : m ≤ 29
  · rw [if_pos (by omega), if_pos h1]
  · rw [if_neg (by omega), if_neg h1]
end Go.Al


namespace Go.Al
open Go Go.RowKit Go.Proofs
set_option maxRecDepth 10000 in
set_option maxHeartbeats 2000000 in
theorem walk_ReferTimes (backed : Bool) (late : Int) (w : World) : Calls Tryz.prog 4 #[.bool backed, .int .i64 late] w fun e w' => e = .returned (.bool true) ∧ Keep none_ w w' := by
 have hK0 : Keep none_ w w := Keep.refl _ _
 have hzhK0 := Keep.size hK0
 refine enterV Tryz.func4 rfl [.bool backed, nt late] 165 rfl rfl rfl ?_
 refine V_pick [(0, .bool backed), (1, nt late)] rfl ?_
 refine Vr ?_
 refine Os 1 [(0, .bool backed), (1, nt late)] ?_
 refine Oe ?_
 refine V_seq ?_
 refine Vr ?_
 refine Os 3 [(0, .bool backed), (1, nt late), (16, .bool (decide (late < 0)))] ?_
 by_cases hg1 : late < 0
 ·
  refine OI_eq [(0, .bool backed), (1, nt late), (16, .bool true)] (by first | simp [hg1] | rfl) ?_
  refine Os 6 [(0, .bool backed), (1, nt late), (19, .bool true)] ?_
  refine Oe ?_
  refine V_true rfl ?_
  refine Vr ?_
  refine Os 1 [(4, .bool true)] ?_
  refine Oe ?_
  refine V_ret ?_
  refine X_ret_then ?_
  exact X_return (.bool true) rfl ⟨rfl, hK0⟩
 refine OI_eq [(0, .bool backed), (1, nt late), (16, .bool false)] (by first | simp [hg1] | rfl) ?_
 refine Os 6 [(0, .bool backed), (1, nt late), (19, .bool (decide (late > 40)))] ?_
 refine Oe ?_
 refine V_if (late > 40) (by kernel_rfl) (fun hc2 => ?_) (fun hc2 => ?_)
 ·
  refine Vr ?_
  refine Os 1 [(4, .bool true)] ?_
  refine Oe ?_
  refine V_ret ?_
  refine X_ret_then ?_
  exact X_return (.bool true) rfl ⟨rfl, hK0⟩
 refine V_skip ?_
 refine X_then ?_
 refine Vr ?_
 refine Ok { callee := (Callee.value (Operand.func 16)), args := #[], argTypes := #[] } 16 #[] (some 20) (plain_spec _) ?_
 rintro _ w3 ⟨rfl, hk4⟩
 refine ⟨_, rfl, ?_⟩
 have hsz5 := Keep.size hk4
 replace hK0 := Keep.tr hK0 (Keep.ofNone hk4)
 refine OI_alloc 27 (.agg (Trk.cells Trk.zero).toArray) (Trk.cells Trk.zero) (some 5) (by kernel_rfl) (by kernel_rfl) (by kernel_rfl) ?_
 intro b6 w6 e6 hb6 k6 z6
 have hsz7 := Keep.size k6
 replace hK0 := Keep.tr hK0 (Keep.ofNone k6)
 have hb6lt := hb6.lt
 refine OI_set (m := 18) (kd := true) 27 (.tmp 5) (.tmp 20) 0 (.agg (Trk.cells plainT).toArray) (Trk.cells plainT) none (by kernel_rfl) (by kernel_rfl) (by kernel_rfl) hb6 (by kernel_rfl) rfl (Trk.len _) (Nat.le_of_ble_eq_true (by kernel_rfl)) (Trk.one _) ?_
 intro w8 hb6_11 hk9 hz10
 replace hb6_11 : Blk w8 b6 (Trk.cells plainT) 27 := (Blk.eqL (Trk.over _ _) hb6_11)
 have hsz12 := Keep.size hk9
 replace hK0 := Keep.fresh hK0 hk9 (by intro i hi hs; first | exact hs | exact Or.inl hs | exact Or.inr hs | (exfalso; have hs2 : i = b6 := hs; omega))
 refine Oer ?_
 refine Os 2 [(0, .bool backed), (1, nt late), (5, pt b6), (21, .agg (Crv.cells (Crv.mk 1 1000000000 1000000000 1 0)).toArray), (22, .pointer (some ⟨b6, 3, none⟩))] ?_
 refine OI_set (m := 1) (kd := false) 3 (.tmp 22) (.const (Value.int IntKind.i64 100)) 3 (nt 100) [nt 100] none (by kernel_rfl) (by kernel_rfl) (by kernel_rfl) hb6_11 (by kernel_rfl) (by kernel_rfl) (by kernel_rfl) (Nat.le_of_ble_eq_true (by kernel_rfl)) (by simp [Value.oneCell']) ?_
 intro w13 hb6_16 hk14 hz15
 replace hb6_16 : Blk w13 b6 (Trk.cells { plainT with decision := 100 }) 27 := (Blk.eqL (by kernel_rfl) hb6_16)
 have hsz17 := Keep.size hk14
 replace hK0 := Keep.fresh hK0 hk14 (by intro i hi hs; first | exact hs | exact Or.inl hs | exact Or.inr hs | (exfalso; have hs2 : i = b6 := hs; omega))
 refine Os 4 [(0, .bool backed), (1, nt late), (5, pt b6), (21, .agg (Crv.cells (Crv.mk 1 1000000000 1000000000 1 0)).toArray), (23, .pointer (some ⟨b6, 11, none⟩))] ?_
 refine OI_set (m := 5) (kd := true) 25 (.tmp 23) (.tmp 21) 11 (.agg (Crv.cells (Crv.mk 1 1000000000 1000000000 1 0)).toArray) (Crv.cells (Crv.mk 1 1000000000 1000000000 1 0)) none (by kernel_rfl) (by kernel_rfl) (by kernel_rfl) hb6_16 (by kernel_rfl) rfl (Crv.len _) (Nat.le_of_ble_eq_true (by kernel_rfl)) (Crv.one _) ?_
 intro w18 hb6_21 hk19 hz20
 replace hb6_21 : Blk w18 b6 (Trk.cells { plainT with decision := 100, sup := (Crv.mk 1 1000000000 1000000000 1 0) }) 27 := (Blk.eqL (by kernel_rfl) hb6_21)
 have hsz22 := Keep.size hk19
 replace hK0 := Keep.fresh hK0 hk19 (by intro i hi hs; first | exact hs | exact Or.inl hs | exact Or.inr hs | (exfalso; have hs2 : i = b6 := hs; omega))
 refine Oer ?_
 refine Oa 27 (.tmp 5) 0 (Trk.cells { plainT with decision := 100, sup := (Crv.mk 1 1000000000 1000000000 1 0) }) (some 24) 18 hb6_21 (take_all (Trk.len _)) (Trk.len _) ?_
 refine OI_slit (E := 27) (zv := .agg #[nt 0, nt 0, nt 0, nt 0, nt 0, nt 0, nt 0, nt 0, nt 0, nt 0, nt 0, nt 0, nt 0, nt 0, nt 0, nt 0, nt 0, nt 0]) (sz := 18) (by_ := 144) 29 1 #[(0, (Operand.tmp 24))] [.agg (Trk.cells { plainT with decision := 100, sup := (Crv.mk 1 1000000000 1000000000 1 0) }).toArray] (Trk.cells { plainT with decision := 100, sup := (Crv.mk 1 1000000000 1000000000 1 0) }) (some 25) (by kernel_rfl) (by kernel_rfl) (by kernel_rfl) (by omega) rfl (by omega) (by intro v hv; obtain rfl := List.mem_singleton.1 hv; show (Trk.cells { plainT with decision := 100, sup := (Crv.mk 1 1000000000 1000000000 1 0) }).toArray.size = 18; simp [Trk.len]) (by kernel_rfl) (by show (Trk.cells { plainT with decision := 100, sup := (Crv.mk 1 1000000000 1000000000 1 0) }).toArray.toList ++ [] = _; simp) ?_
 intro b23 w23 e23 hb23 k23 z23
 have hsz24 := Keep.size k23
 replace hb6_21 := hb6_21.keep k23 (fun f => f)
 replace hK0 := Keep.tr hK0 (Keep.ofNone k23)
 have hb23lt := hb23.lt
 refine Ok { callee := (Callee.value (Operand.func 15)), args := #[(Operand.tmp 25)], argTypes := #[29] } 15 #[.slice (some ⟨b23, 0, none⟩) 1 1] (some 26) (begin_weak (some ⟨b23, 0, none⟩) 1 [({ plainT with decision := 100, sup := (Crv.mk 1 1000000000 1000000000 1 0) })] _ (slt_blk (xs := [({ plainT with decision := 100, sup := (Crv.mk 1 1000000000 1000000000 1 0) })]) (f := Trk.cells) hb23 Trk.len rfl) ti_ok) ?_
 rintro _ w27 ⟨b29, r30, gg31, v32, l33, H34, F35, G36, xv37, yv38, zv39, rfl, hb40, hR41, hV42, hL43, hk28, hge44, oH45, oF46, oG47, dHF48, dHG49, dFG50⟩
 refine ⟨_, rfl, ?_⟩
 have hsz51 := Keep.size hk28
 replace hb6_21 := hb6_21.keep hk28 (fun f => f)
 replace hb23 := hb23.keep hk28 (fun f => f)
 replace hK0 := Keep.tr hK0 (Keep.ofNone hk28)
 have hb29lt := hb40.lt
 replace hR41 : Rfr H34 w27 r30 gg31 [tiT] [] := hR41
 have own52 : ∀ q, H34 q → w23.heap.size ≤ q ∧ q ≠ b6 ∧ q ≠ b23 ∧ q ≠ b29 := fun q hq => by have h1 := oH45 q hq; omega
 have lt53 := Rfr.lt hR41
 have own54 : ∀ q, F35 q → w23.heap.size ≤ q ∧ q ≠ b6 ∧ q ≠ b23 ∧ q ≠ b29 := fun q hq => by have h1 := oF46 q hq; omega
 have lt55 := VotT.lt hV42
 have own56 : ∀ q, G36 q → w23.heap.size ≤ q ∧ q ≠ b6 ∧ q ≠ b23 ∧ q ≠ b29 := fun q hq => by have h1 := oG47 q hq; omega
 have lt57 := Led.lt hL43
 replace hR41 : Rfr H34 w27 r30 gg31 [tiT] rwQ0.rs := hR41
 replace hV42 : VotT F35 w27 v32 rwQ0.s := hV42
 replace hL43 : Led G36 w27 l33 rwQ0.xs rwQ0.cs := hL43
 refine Os 4 [(0, .bool backed), (1, nt late), (6, pt b29)] ?_
 refine Oe ?_
 refine V_seq ?_
 refine Vr ?_
 refine Os 2 [(0, .bool backed), (1, nt late), (6, pt b29), (28, .bool false)] ?_
 refine Oe ?_
 refine V_false rfl ?_
 refine V_skip ?_
 refine X_then ?_
 refine V_seq ?_
 refine V_draws (acts [13]) none_ [[0, 1, 2, 3, 4, 5, 6, 7, 8, 9, 10, 11, 12, 13]] (by kernel_rfl) (by repeat first | exact (by first | exact sure_body (by rintro _ _ ⟨_, _, h, _⟩; exact ⟨_, h⟩) | exact sure_body (by rintro _ _ ⟨_, _, _, _, _, _, _, _, _, _, _, h, _⟩; exact ⟨_, h⟩) | exact sure_body (by rintro _ _ ⟨h, _⟩; exact ⟨_, h⟩)) | refine sure_then ?_ | refine sure_block ?_ | refine sure_join ?_) (by kernel_rfl) ?_
 intro w59 hk58 he60 L hL61
 have hsz62 := Keep.size hk58
 replace hb6_21 := hb6_21.keep hk58 (fun f => f)
 replace hb23 := hb23.keep hk58 (fun f => f)
 replace hb40 := hb40.keep hk58 (fun f => f)
 replace hK0 := Keep.tr hK0 (Keep.ofNone hk58)
 replace hR41 := Rfr.keep hR41 hk58 (fun _ _ f => f)
 replace hV42 := VotT.keep hV42 hk58 (fun _ _ f => f)
 replace hL43 := Led.keep hL43 hk58 (fun _ _ f => f)
 have qhb6_21 := hb6_21
 have qhb23 := hb23
 have qhb40 := hb40
 have K63 : Keep none_ w59 w59 := Keep.refl _ _
 obtain rfl := List.mem_singleton.1 hL61
 refine Gs [3, 4, 5, 6, 7, 8, 9, 10, 11, 12, 13] [(0, .bool backed), (1, nt late), (6, pt b29), (31, .pointer (some ⟨b29, 2, none⟩))] ?_
 refine Gc0 34 (.tmp 31) 2 (pt r30) (some 32) qhb40 rfl ?_
 refine Gs [7, 8, 9, 10, 11, 12, 13] [(0, .bool backed), (1, nt late), (6, pt b29), (32, pt r30), (35, pt b29)] ?_
 refine Gc0 32 (.tmp 35) 0 (pt l33) (some 36) qhb40 rfl ?_
 refine Gs [11, 12, 13] [(0, .bool backed), (1, nt late), (6, pt b29), (32, pt r30), (36, pt l33), (39, .pointer (some ⟨b29, 1, none⟩))] ?_
 refine Gc0 33 (.tmp 39) 1 (pt v32) (some 40) qhb40 rfl ?_
 refine Gs [13] [(0, .bool backed), (1, nt late), (6, pt b29), (32, pt r30), (36, pt l33), (40, pt v32), (41, .agg (hshc z0).toArray)] ?_
 refine GI_final 13 (by kernel_rfl) (by kernel_rfl) ?_
 refine Ok { callee := (Callee.value (Operand.func 17)), args := #[(Operand.tmp 32), (Operand.tmp 36), (Operand.tmp 40), (Operand.const (Value.int IntKind.i64 1)), (Operand.const (Value.int IntKind.i64 0)), (Operand.tmp 41), (Operand.const (Value.int IntKind.i64 0)), (Operand.const (Value.int IntKind.i64 0))], argTypes := #[34, 32, 33, 3, 3, 42, 3, 3] } 17 #[pt r30, pt l33, pt v32, nt 1, nt 0, .agg (hshc z0).toArray, nt 0, nt 0] (some 42) (submit_spec H34 r30 gg31 [tiT] rwQ0.rs F35 v32 rwQ0.s G36 l33 rwQ0.xs rwQ0.cs 1 0 z0 0 0 _ hR41 hV42 hL43 dHF48 dHG49 dFG50) ?_
 rintro _ w66 ⟨rfl, ⟨F68, F71, F74, ho69, ho72, ho75, hfr70, hfr73, hfr76, hdis77, hdis78, hdis79⟩, hk67⟩
 refine ⟨_, rfl, ?_⟩
 have hsz80 := Keep.size hk67
 replace hb6_21 := hb6_21.keep hk67 (fun hs => by rcases hs with hs | hs | hs; (have u9 : _ = gg31 := hs; have u0 := own52 _ (Rfr.atg hR41); have u1 := lt53 _ (Rfr.atg hR41); omega); (have u0 := own54 _ hs; have u1 := lt55 _ hs; omega); (have u0 := own56 _ hs; have u1 := lt57 _ hs; omega))
 replace hb23 := hb23.keep hk67 (fun hs => by rcases hs with hs | hs | hs; (have u9 : _ = gg31 := hs; have u0 := own52 _ (Rfr.atg hR41); have u1 := lt53 _ (Rfr.atg hR41); omega); (have u0 := own54 _ hs; have u1 := lt55 _ hs; omega); (have u0 := own56 _ hs; have u1 := lt57 _ hs; omega))
 replace hb40 := hb40.keep hk67 (fun hs => by rcases hs with hs | hs | hs; (have u9 : _ = gg31 := hs; have u0 := own52 _ (Rfr.atg hR41); have u1 := lt53 _ (Rfr.atg hR41); omega); (have u0 := own54 _ hs; have u1 := lt55 _ hs; omega); (have u0 := own56 _ hs; have u1 := lt57 _ hs; omega))
 replace hK0 := Keep.fresh hK0 hk67 (by intro i hi hs; first | exact hs | (rcases hs with hs | hs | hs; (have u9 : _ = gg31 := hs; have u0 := own52 _ (Rfr.atg hR41); have u1 := lt53 _ (Rfr.atg hR41); omega); (have u0 := own54 i hs; have u1 := lt55 i hs; omega); (have u0 := own56 i hs; have u1 := lt57 i hs; omega)))
 have own82 : ∀ q, F68 q → w23.heap.size ≤ q ∧ q ≠ b6 ∧ q ≠ b23 ∧ q ≠ b29 := fun q hq => by rcases hfr70 q hq with h | h; (have h1 := own52 q h; have h2 := lt53 q h; omega); omega
 have lt81 := Rfr.lt ho69
 have own84 : ∀ q, F71 q → w23.heap.size ≤ q ∧ q ≠ b6 ∧ q ≠ b23 ∧ q ≠ b29 := fun q hq => by rcases hfr73 q hq with h | h; (have h1 := own54 q h; have h2 := lt55 q h; omega); omega
 have lt83 := VotT.lt ho72
 have own86 : ∀ q, F74 q → w23.heap.size ≤ q ∧ q ≠ b6 ∧ q ≠ b23 ∧ q ≠ b29 := fun q hq => by rcases hfr76 q hq with h | h; (have h1 := own56 q h; have h2 := lt57 q h; omega); omega
 have lt85 := Led.lt ho75
 replace ho69 : Rfr F68 w66 r30 gg31 [tiT] (rwSub [tiT] rwQ0 1 0 0 z0 0).rs := ho69
 replace ho72 : VotT F71 w66 v32 ((rwSub [tiT] rwQ0 1 0 0 z0 0).s) := ho72
 replace ho75 : Led F74 w66 l33 (rwSub [tiT] rwQ0 1 0 0 z0 0).xs (rwSub [tiT] rwQ0 1 0 0 z0 0).cs := ho75
 refine Oe ?_
 refine V_seq ?_
 refine V_draws (acts [8]) none_ [[0, 1, 2, 3, 4, 5, 6, 7, 8]] (by kernel_rfl) (by repeat first | exact (by first | exact sure_body (by rintro _ _ ⟨_, _, h, _⟩; exact ⟨_, h⟩) | exact sure_body (by rintro _ _ ⟨_, _, _, _, _, _, _, _, _, _, _, h, _⟩; exact ⟨_, h⟩) | exact sure_body (by rintro _ _ ⟨h, _⟩; exact ⟨_, h⟩)) | refine sure_then ?_ | refine sure_block ?_ | refine sure_join ?_) (by kernel_rfl) ?_
 intro w88 hk87 he89 L hL90
 have hsz91 := Keep.size hk87
 replace hb6_21 := hb6_21.keep hk87 (fun f => f)
 replace hb23 := hb23.keep hk87 (fun f => f)
 replace hb40 := hb40.keep hk87 (fun f => f)
 replace hK0 := Keep.tr hK0 (Keep.ofNone hk87)
 replace ho69 := Rfr.keep ho69 hk87 (fun _ _ f => f)
 replace ho72 := VotT.keep ho72 hk87 (fun _ _ f => f)
 replace ho75 := Led.keep ho75 hk87 (fun _ _ f => f)
 have qhb6_21 := hb6_21
 have qhb23 := hb23
 have qhb40 := hb40
 have K92 : Keep none_ w88 w88 := Keep.refl _ _
 obtain rfl := List.mem_singleton.1 hL90
 refine Gs [3, 4, 5, 6, 7, 8] [(0, .bool backed), (1, nt late), (6, pt b29), (45, .pointer (some ⟨b29, 2, none⟩))] ?_
 refine Gc0 34 (.tmp 45) 2 (pt r30) (some 46) qhb40 rfl ?_
 refine Gs [7, 8] [(0, .bool backed), (1, nt late), (6, pt b29), (46, pt r30), (49, pt b29)] ?_
 refine Gc0 32 (.tmp 49) 0 (pt l33) (some 50) qhb40 rfl ?_
 refine GI_final 8 (by kernel_rfl) (by kernel_rfl) ?_
 refine Ok { callee := (Callee.value (Operand.func 21)), args := #[(Operand.tmp 46), (Operand.tmp 50), (Operand.const (Value.int IntKind.i64 1)), (Operand.const (Value.int IntKind.i64 0))], argTypes := #[34, 32, 3, 3] } 21 #[pt r30, pt l33, nt 1, nt 0] (some 51) (deposit_spec F68 r30 gg31 [tiT] (rwSub [tiT] rwQ0 1 0 0 z0 0).rs F74 l33 (rwSub [tiT] rwQ0 1 0 0 z0 0).xs (rwSub [tiT] rwQ0 1 0 0 z0 0).cs 1 0 _ ho69 ho75 hdis78) ?_
 rintro _ w95 ⟨rfl, ⟨F97, F100, ho98, ho101, hfr99, hfr102, hdis103⟩, hk96⟩
 refine ⟨_, rfl, ?_⟩
 have hsz104 := Keep.size hk96
 replace hb6_21 := hb6_21.keep hk96 (fun hs => by rcases hs with hs | hs; (have u9 : _ = gg31 := hs; have u0 := own82 _ (Rfr.atg ho69); have u1 := lt81 _ (Rfr.atg ho69); omega); (have u0 := own86 _ hs; have u1 := lt85 _ hs; omega))
 replace hb23 := hb23.keep hk96 (fun hs => by rcases hs with hs | hs; (have u9 : _ = gg31 := hs; have u0 := own82 _ (Rfr.atg ho69); have u1 := lt81 _ (Rfr.atg ho69); omega); (have u0 := own86 _ hs; have u1 := lt85 _ hs; omega))
 replace hb40 := hb40.keep hk96 (fun hs => by rcases hs with hs | hs; (have u9 : _ = gg31 := hs; have u0 := own82 _ (Rfr.atg ho69); have u1 := lt81 _ (Rfr.atg ho69); omega); (have u0 := own86 _ hs; have u1 := lt85 _ hs; omega))
 replace hK0 := Keep.fresh hK0 hk96 (by intro i hi hs; first | exact hs | (rcases hs with hs | hs; (have u9 : _ = gg31 := hs; have u0 := own82 _ (Rfr.atg ho69); have u1 := lt81 _ (Rfr.atg ho69); omega); (have u0 := own86 i hs; have u1 := lt85 i hs; omega)))
 replace ho72 := VotT.keep ho72 hk96 (fun q hq hs => by rcases hs with hs | hs; exact (fun q h1 h2 => hdis77 q h2 h1) q hq (by rw [show q = gg31 from hs]; exact (Rfr.atg ho69)); exact hdis79 q hq hs)
 have own106 : ∀ q, F97 q → w23.heap.size ≤ q ∧ q ≠ b6 ∧ q ≠ b23 ∧ q ≠ b29 := fun q hq => by rcases hfr99 q hq with h | h; (have h1 := own82 q h; have h2 := lt81 q h; omega); omega
 have lt105 := Rfr.lt ho98
 have dis107 : ∀ q, F97 q → ¬ F71 q := fun q h1 h2 => by rcases hfr99 q h1 with h | h; exact hdis77 q h h2; (have h4 := lt83 q h2; omega)
 have own109 : ∀ q, F100 q → w23.heap.size ≤ q ∧ q ≠ b6 ∧ q ≠ b23 ∧ q ≠ b29 := fun q hq => by rcases hfr102 q hq with h | h; (have h1 := own86 q h; have h2 := lt85 q h; omega); omega
 have lt108 := Led.lt ho101
 have dis110 : ∀ q, F100 q → ¬ F71 q := fun q h1 h2 => by rcases hfr102 q h1 with h | h; exact (fun q h1 h2 => hdis79 q h2 h1) q h h2; (have h4 := lt83 q h2; omega)
 replace ho98 : Rfr F97 w95 r30 gg31 [tiT] tiA.rs := ho98
 replace ho72 : VotT F71 w95 v32 tiA.s := ho72
 replace ho101 : Led F100 w95 l33 tiA.xs tiA.cs := ho101
 refine Oe ?_
 refine V_seq ?_
 refine Vr ?_
 refine Os 1 [(0, .bool backed), (1, nt late), (6, pt b29), (7, nt 1)] ?_
 refine Oe ?_
 refine V_block ?_
 refine V_pick [(0, .bool backed), (1, nt late), (6, pt b29), (7, nt 1)] rfl ?_
 refine V_loop (fun k wI e => ∃ i : Nat, ∃ Hk : Nat → Prop, ∃ Fk : Nat → Prop, ∃ Gk : Nat → Prop, (k + i = late.toNat + 2) ∧ (Blk wI b29 [pt l33, pt v32, pt r30, .pointer xv37, .pointer yv38, .pointer zv39, nt 0] 39) ∧ (Rfr Hk wI r30 gg31 [tiT] (tiS i).rs) ∧ (VotT Fk wI v32 (tiS i).s) ∧ (Led Gk wI l33 (tiS i).xs (tiS i).cs) ∧ (∀ q, Hk q → w.heap.size ≤ q ∧ q ≠ b29) ∧ (∀ q, Fk q → w.heap.size ≤ q ∧ q ≠ b29) ∧ (∀ q, Gk q → w.heap.size ≤ q ∧ q ≠ b29) ∧ (∀ q, Hk q → ¬ Fk q) ∧ (∀ q, Hk q → ¬ Gk q) ∧ (∀ q, Fk q → ¬ Gk q) ∧ (Keep none_ w wI) ∧ e = [(0, .bool backed), (1, nt late), (6, pt b29), (7, nt ((i + 1 : Nat) : Int))]) (late.toNat + 2) ⟨0, F97, F71, F100, by omega, hb40, ho98, ho72, ho101, (fun q hq => by have h1 := own106 q hq; have h2 := lt105 q hq; omega), (fun q hq => by have h1 := own84 q hq; have h2 := lt83 q hq; omega), (fun q hq => by have h1 := own109 q hq; have h2 := lt108 q hq; omega), dis107, hdis103, (fun q h1 h2 => dis110 q h2 h1), hK0, rfl⟩ ?_
 rintro k112 w111 _ ⟨i, Hk, Fk, Gk, hki, hbk, hRk, hVk, hLk, hHko, hFko, hGko, dkHF, dkHG, dkFG, hK0, rfl⟩
 have hb29lt := hbk.lt
 have hzhK0 := Keep.size hK0
 have ltHk := Rfr.lt hRk
 have ltFk := VotT.lt hVk
 have ltGk := Led.lt hLk
 refine V_seq ?_
 refine Vr ?_
 have hw114 : IntKind.i64.wrap (2 + late) = 2 + late := (wrap64_id (by omega) (by omega)).trans (by omega)
 refine Os 3 [(0, .bool backed), (1, nt late), (6, pt b29), (7, nt ((i + 1 : Nat) : Int)), (52, nt ((i + 1 : Nat) : Int)), (54, nt (IntKind.i64.wrap (2 + late)))] ?_
 refine OI_eq [(0, .bool backed), (1, nt late), (6, pt b29), (7, nt ((i + 1 : Nat) : Int)), (52, nt ((i + 1 : Nat) : Int)), (54, nt (2 + late))] (by rw [hw114]) ?_
 refine Os 4 [(0, .bool backed), (1, nt late), (6, pt b29), (7, nt ((i + 1 : Nat) : Int)), (55, .bool (decide (((i + 1 : Nat) : Int) ≤ 2 + late)))] ?_
 refine Oe ?_
 refine V_if (((i + 1 : Nat) : Int) ≤ 2 + late) (by kernel_rfl) (fun hc115 => ?_) (fun hc115 => ?_)
 ·
  refine V_skip ?_
  refine X_then ?_
  refine V_seq ?_
  refine V_block ?_
  refine V_draws (acts [13]) none_ [[0, 1, 2, 3, 4, 5, 6, 7, 8, 9, 10, 11, 12, 13]] (by kernel_rfl) (by repeat first | exact (by first | exact sure_body (by rintro _ _ ⟨_, _, h, _⟩; exact ⟨_, h⟩) | exact sure_body (by rintro _ _ ⟨_, _, _, _, _, _, _, _, _, _, _, h, _⟩; exact ⟨_, h⟩) | exact sure_body (by rintro _ _ ⟨h, _⟩; exact ⟨_, h⟩)) | refine sure_then ?_ | refine sure_block ?_ | refine sure_join ?_) (by kernel_rfl) ?_
  intro w117 hk116 he118 L hL119
  have hsz120 := Keep.size hk116
  replace hbk := hbk.keep hk116 (fun f => f)
  replace hRk := Rfr.keep hRk hk116 (fun _ _ f => f)
  replace hVk := VotT.keep hVk hk116 (fun _ _ f => f)
  replace hLk := Led.keep hLk hk116 (fun _ _ f => f)
  replace hK0 := Keep.tr hK0 (Keep.ofNone hk116)
  have qhbk := hbk
  have K121 : Keep none_ w117 w117 := Keep.refl _ _
  obtain rfl := List.mem_singleton.1 hL119
  refine Gs [3, 4, 5, 6, 7, 8, 9, 10, 11, 12, 13] [(0, .bool backed), (1, nt late), (6, pt b29), (7, nt ((i + 1 : Nat) : Int)), (60, .pointer (some ⟨b29, 2, none⟩))] ?_
  refine Gc0 34 (.tmp 60) 2 (pt r30) (some 61) qhbk rfl ?_
  refine Gs [7, 8, 9, 10, 11, 12, 13] [(0, .bool backed), (1, nt late), (6, pt b29), (7, nt ((i + 1 : Nat) : Int)), (61, pt r30), (64, pt b29)] ?_
  refine Gc0 32 (.tmp 64) 0 (pt l33) (some 65) qhbk rfl ?_
  refine Gs [11, 12, 13] [(0, .bool backed), (1, nt late), (6, pt b29), (7, nt ((i + 1 : Nat) : Int)), (61, pt r30), (65, pt l33), (68, .pointer (some ⟨b29, 1, none⟩))] ?_
  refine Gc0 33 (.tmp 68) 1 (pt v32) (some 69) qhbk rfl ?_
  refine Gs [13] [(0, .bool backed), (1, nt late), (6, pt b29), (7, nt ((i + 1 : Nat) : Int)), (61, pt r30), (65, pt l33), (69, pt v32), (70, nt ((i + 1 : Nat) : Int))] ?_
  refine GI_final 13 (by kernel_rfl) (by kernel_rfl) ?_
  refine Ok { callee := (Callee.value (Operand.func 22)), args := #[(Operand.tmp 61), (Operand.tmp 65), (Operand.tmp 69), (Operand.tmp 70)], argTypes := #[34, 32, 33, 3] } 22 #[pt r30, pt l33, pt v32, nt ((i + 1 : Nat) : Int)] (some 71) (service_spec Hk r30 gg31 [tiT] (tiS i).rs Fk v32 (tiS i).s Gk l33 (tiS i).xs (tiS i).cs ((i + 1 : Nat) : Int) _ hRk hVk hLk dkHF dkHG dkFG) ?_
  rintro _ w124 ⟨A126, cap126, rfl, hA126, ow126, ⟨F127, F130, ho128, ho131, hfr129, hfr132, hdis133, dA134, dA135⟩, hk125⟩
  refine ⟨_, rfl, ?_⟩
  have hsz136 := Keep.size hk125
  replace hbk := hbk.keep hk125 (fun hs => by rcases hs with hs | hs; (have u9 : _ = gg31 := hs; have u0 := hHko _ (Rfr.atg hRk); have u1 := ltHk _ (Rfr.atg hRk); omega); (have u0 := hFko _ hs; have u1 := ltFk _ hs; omega))
  replace hLk := Led.keep hLk hk125 (fun q hq hs => by rcases hs with hs | hs; exact (fun q h1 h2 => dkHG q h2 h1) q hq (by rw [show q = gg31 from hs]; exact (Rfr.atg hRk)); exact (fun q h1 h2 => dkFG q h2 h1) q hq hs)
  replace hK0 := Keep.fresh hK0 hk125 (by intro i hi hs; first | exact hs | (rcases hs with hs | hs; (have u9 : _ = gg31 := hs; have u0 := hHko _ (Rfr.atg hRk); have u1 := ltHk _ (Rfr.atg hRk); omega); (have u0 := hFko i hs; have u1 := ltFk i hs; omega)))
  have own138 : ∀ q, F127 q → w.heap.size ≤ q ∧ q ≠ b29 := fun q hq => by rcases hfr129 q hq with h | h; (have h1 := hHko q h; have h2 := ltHk q h; omega); omega
  have lt137 := Rfr.lt ho128
  have dis139 : ∀ q, F127 q → ¬ Gk q := fun q h1 h2 => by rcases hfr129 q h1 with h | h; exact dkHG q h h2; (have h4 := ltGk q h2; omega)
  have own141 : ∀ q, F130 q → w.heap.size ≤ q ∧ q ≠ b29 := fun q hq => by rcases hfr132 q hq with h | h; (have h1 := hFko q h; have h2 := ltFk q h; omega); omega
  have lt140 := VotT.lt ho131
  have dis142 : ∀ q, F130 q → ¬ Gk q := fun q h1 h2 => by rcases hfr132 q h1 with h | h; exact dkFG q h h2; (have h4 := ltGk q h2; omega)
  have ltA126 := SlT.lt hA126
  have dis143 : ∀ q, inA A126 q → ¬ Gk q := fun q h1 h2 => by have h3 := ow126 q h1; have h4 := ltGk q h2; omega
  replace ho128 : Rfr F127 w124 r30 gg31 [tiT] (tiS (i + 1)).rs := ho128
  replace ho131 : VotT F130 w124 v32 ((tiS (i + 1)).s) := ho131
  replace hLk : Led Gk w124 l33 (tiS (i + 1)).xs (tiS (i + 1)).cs := hLk
  refine OI_end rfl ?_
  refine X_block ?_
  refine X_then ?_
  refine V_region ?_
  have hw144 : IntKind.i64.wrap (((i + 1 : Nat) : Int) + 1) = ((i + 1 + 1 : Nat) : Int) := (wrap64_id (by omega) (by omega)).trans (by omega)
  refine Os 2 [(0, .bool backed), (1, nt late), (6, pt b29), (57, nt (IntKind.i64.wrap (((i + 1 : Nat) : Int) + 1)))] ?_
  refine OI_eq [(0, .bool backed), (1, nt late), (6, pt b29), (57, nt ((i + 1 + 1 : Nat) : Int))] (by rw [hw144]) ?_
  refine Os 3 [(0, .bool backed), (1, nt late), (6, pt b29), (7, nt ((i + 1 + 1 : Nat) : Int))] ?_
  refine OI_end rfl ?_
  exact V_again (k112 - 1) (by omega) [(0, .bool backed), (1, nt late), (6, pt b29), (7, nt ((i + 1 + 1 : Nat) : Int))] rfl ⟨i + 1, F127, F130, Gk, by omega, hbk, ho128, ho131, hLk, (fun q hq => by have h1 := own138 q hq; have h2 := lt137 q hq; omega), (fun q hq => by have h1 := own141 q hq; have h2 := lt140 q hq; omega), (fun q hq => by have h1 := hGko q hq; have h2 := ltGk q hq; omega), hdis133, dis139, dis142, hK0, rfl⟩
 have hq9 := tiS_at i (by omega) (by omega)
 rw [hq9] at hRk
 rw [hq9] at hVk
 rw [hq9] at hLk
 replace hRk : Rfr Hk w111 r30 gg31 [tiT] tiZ.rs := hRk
 replace hVk : VotT Fk w111 v32 tiZ.s := hVk
 replace hLk : Led Gk w111 l33 tiZ.xs tiZ.cs := hLk
 refine V_exit ?_
 refine X_exit_then ?_
 refine X_exit_then ?_
 refine X_exit_here ?_
 refine X_then ?_
 refine V_seq ?_
 refine V_draws (acts [15]) none_ [[0, 1, 2, 3, 4, 5, 6, 7, 8, 9, 10, 11, 12, 13, 14, 15]] (by kernel_rfl) (by repeat first | exact (by first | exact sure_body (by rintro _ _ ⟨_, _, h, _⟩; exact ⟨_, h⟩) | exact sure_body (by rintro _ _ ⟨_, _, _, _, _, _, _, _, _, _, _, h, _⟩; exact ⟨_, h⟩) | exact sure_body (by rintro _ _ ⟨h, _⟩; exact ⟨_, h⟩)) | refine sure_then ?_ | refine sure_block ?_ | refine sure_join ?_) (by kernel_rfl) ?_
 intro w146 hk145 he147 L hL148
 have hsz149 := Keep.size hk145
 replace hbk := hbk.keep hk145 (fun f => f)
 replace hRk := Rfr.keep hRk hk145 (fun _ _ f => f)
 replace hVk := VotT.keep hVk hk145 (fun _ _ f => f)
 replace hLk := Led.keep hLk hk145 (fun _ _ f => f)
 replace hK0 := Keep.tr hK0 (Keep.ofNone hk145)
 have qhbk := hbk
 have K150 : Keep none_ w146 w146 := Keep.refl _ _
 obtain rfl := List.mem_singleton.1 hL148
 refine Gs [3, 4, 5, 6, 7, 8, 9, 10, 11, 12, 13, 14, 15] [(0, .bool backed), (1, nt late), (6, pt b29), (74, .pointer (some ⟨b29, 2, none⟩))] ?_
 refine Gc0 34 (.tmp 74) 2 (pt r30) (some 75) qhbk rfl ?_
 refine Gs [7, 8, 9, 10, 11, 12, 13, 14, 15] [(0, .bool backed), (1, nt late), (6, pt b29), (75, pt r30), (78, pt b29)] ?_
 refine Gc0 32 (.tmp 78) 0 (pt l33) (some 79) qhbk rfl ?_
 refine Gs [11, 12, 13, 14, 15] [(0, .bool backed), (1, nt late), (6, pt b29), (75, pt r30), (79, pt l33), (82, .pointer (some ⟨b29, 1, none⟩))] ?_
 refine Gc0 33 (.tmp 82) 1 (pt v32) (some 83) qhbk rfl ?_
 have hw151 : IntKind.i64.wrap (2 + late) = 2 + late := (wrap64_id (by omega) (by omega)).trans (by omega)
 refine Gs [15] [(0, .bool backed), (1, nt late), (6, pt b29), (75, pt r30), (79, pt l33), (83, pt v32), (84, .agg (hshc z0).toArray), (86, nt (IntKind.i64.wrap (2 + late)))] ?_
 refine GI_eq [(0, .bool backed), (1, nt late), (6, pt b29), (75, pt r30), (79, pt l33), (83, pt v32), (84, .agg (hshc z0).toArray), (86, nt (2 + late))] (by rw [hw151]) ?_
 refine GI_final 15 (by kernel_rfl) (by kernel_rfl) ?_
 refine Ok { callee := (Callee.value (Operand.func 17)), args := #[(Operand.tmp 75), (Operand.tmp 79), (Operand.tmp 83), (Operand.const (Value.int IntKind.i64 2)), (Operand.const (Value.int IntKind.i64 0)), (Operand.tmp 84), (Operand.const (Value.int IntKind.i64 0)), (Operand.tmp 86)], argTypes := #[34, 32, 33, 3, 3, 42, 3, 3] } 17 #[pt r30, pt l33, pt v32, nt 2, nt 0, .agg (hshc z0).toArray, nt 0, nt (2 + late)] (some 87) (submit_spec Hk r30 gg31 [tiT] tiZ.rs Fk v32 tiZ.s Gk l33 tiZ.xs tiZ.cs 2 0 z0 0 (2 + late) _ hRk hVk hLk dkHF dkHG dkFG) ?_
 rintro _ w154 ⟨rfl, ⟨F156, F159, F162, ho157, ho160, ho163, hfr158, hfr161, hfr164, hdis165, hdis166, hdis167⟩, hk155⟩
 refine ⟨_, rfl, ?_⟩
 have hsz168 := Keep.size hk155
 replace hbk := hbk.keep hk155 (fun hs => by rcases hs with hs | hs | hs; (have u9 : _ = gg31 := hs; have u0 := hHko _ (Rfr.atg hRk); have u1 := ltHk _ (Rfr.atg hRk); omega); (have u0 := hFko _ hs; have u1 := ltFk _ hs; omega); (have u0 := hGko _ hs; have u1 := ltGk _ hs; omega))
 replace hK0 := Keep.fresh hK0 hk155 (by intro i hi hs; first | exact hs | (rcases hs with hs | hs | hs; (have u9 : _ = gg31 := hs; have u0 := hHko _ (Rfr.atg hRk); have u1 := ltHk _ (Rfr.atg hRk); omega); (have u0 := hFko i hs; have u1 := ltFk i hs; omega); (have u0 := hGko i hs; have u1 := ltGk i hs; omega)))
 have own170 : ∀ q, F156 q → w.heap.size ≤ q ∧ q ≠ b29 := fun q hq => by rcases hfr158 q hq with h | h; (have h1 := hHko q h; have h2 := ltHk q h; omega); omega
 have lt169 := Rfr.lt ho157
 have own172 : ∀ q, F159 q → w.heap.size ≤ q ∧ q ≠ b29 := fun q hq => by rcases hfr161 q hq with h | h; (have h1 := hFko q h; have h2 := ltFk q h; omega); omega
 have lt171 := VotT.lt ho160
 have own174 : ∀ q, F162 q → w.heap.size ≤ q ∧ q ≠ b29 := fun q hq => by rcases hfr164 q hq with h | h; (have h1 := hGko q h; have h2 := ltGk q h; omega); omega
 have lt173 := Led.lt ho163
 replace ho157 : Rfr F156 w154 r30 gg31 [tiT] (tiB late).rs := ho157
 replace ho160 : VotT F159 w154 v32 ((tiB late).s) := ho160
 replace ho163 : Led F162 w154 l33 (tiB late).xs (tiB late).cs := ho163
 refine Oe ?_
 refine V_seq ?_
 refine Vr ?_
 refine Os 1 [(1, nt late), (6, pt b29), (88, .bool backed)] ?_
 refine Oe ?_
 refine V_ifb (backed) (by kernel_rfl) (fun hc175 => ?_) (fun hc175 => ?_)
 ·
  refine V_draws (acts [8]) none_ [[0, 1, 2, 3, 4, 5, 6, 7, 8]] (by kernel_rfl) (by repeat first | exact (by first | exact sure_body (by rintro _ _ ⟨_, _, h, _⟩; exact ⟨_, h⟩) | exact sure_body (by rintro _ _ ⟨_, _, _, _, _, _, _, _, _, _, _, h, _⟩; exact ⟨_, h⟩) | exact sure_body (by rintro _ _ ⟨h, _⟩; exact ⟨_, h⟩)) | refine sure_then ?_ | refine sure_block ?_ | refine sure_join ?_) (by kernel_rfl) ?_
  intro w177 hk176 he178 L hL179
  have hsz180 := Keep.size hk176
  replace hbk := hbk.keep hk176 (fun f => f)
  replace hK0 := Keep.tr hK0 (Keep.ofNone hk176)
  replace ho157 := Rfr.keep ho157 hk176 (fun _ _ f => f)
  replace ho160 := VotT.keep ho160 hk176 (fun _ _ f => f)
  replace ho163 := Led.keep ho163 hk176 (fun _ _ f => f)
  have qhbk := hbk
  have K181 : Keep none_ w177 w177 := Keep.refl _ _
  obtain rfl := List.mem_singleton.1 hL179
  refine Gs [3, 4, 5, 6, 7, 8] [(1, nt late), (6, pt b29), (91, .pointer (some ⟨b29, 2, none⟩))] ?_
  refine Gc0 34 (.tmp 91) 2 (pt r30) (some 92) qhbk rfl ?_
  refine Gs [7, 8] [(1, nt late), (6, pt b29), (92, pt r30), (95, pt b29)] ?_
  refine Gc0 32 (.tmp 95) 0 (pt l33) (some 96) qhbk rfl ?_
  refine GI_final 8 (by kernel_rfl) (by kernel_rfl) ?_
  refine Ok { callee := (Callee.value (Operand.func 21)), args := #[(Operand.tmp 92), (Operand.tmp 96), (Operand.const (Value.int IntKind.i64 2)), (Operand.const (Value.int IntKind.i64 1))], argTypes := #[34, 32, 3, 3] } 21 #[pt r30, pt l33, nt 2, nt 1] (some 97) (deposit_spec F156 r30 gg31 [tiT] (tiB late).rs F162 l33 (tiB late).xs (tiB late).cs 2 1 _ ho157 ho163 hdis166) ?_
  rintro _ w184 ⟨rfl, ⟨F186, F189, ho187, ho190, hfr188, hfr191, hdis192⟩, hk185⟩
  refine ⟨_, rfl, ?_⟩
  have hsz193 := Keep.size hk185
  replace hbk := hbk.keep hk185 (fun hs => by rcases hs with hs | hs; (have u9 : _ = gg31 := hs; have u0 := own170 _ (Rfr.atg ho157); have u1 := lt169 _ (Rfr.atg ho157); omega); (have u0 := own174 _ hs; have u1 := lt173 _ hs; omega))
  replace hK0 := Keep.fresh hK0 hk185 (by intro i hi hs; first | exact hs | (rcases hs with hs | hs; (have u9 : _ = gg31 := hs; have u0 := own170 _ (Rfr.atg ho157); have u1 := lt169 _ (Rfr.atg ho157); omega); (have u0 := own174 i hs; have u1 := lt173 i hs; omega)))
  replace ho160 := VotT.keep ho160 hk185 (fun q hq hs => by rcases hs with hs | hs; exact (fun q h1 h2 => hdis165 q h2 h1) q hq (by rw [show q = gg31 from hs]; exact (Rfr.atg ho157)); exact hdis167 q hq hs)
  have own195 : ∀ q, F186 q → w.heap.size ≤ q ∧ q ≠ b29 := fun q hq => by rcases hfr188 q hq with h | h; (have h1 := own170 q h; have h2 := lt169 q h; omega); omega
  have lt194 := Rfr.lt ho187
  have dis196 : ∀ q, F186 q → ¬ F159 q := fun q h1 h2 => by rcases hfr188 q h1 with h | h; exact hdis165 q h h2; (have h4 := lt171 q h2; omega)
  have own198 : ∀ q, F189 q → w.heap.size ≤ q ∧ q ≠ b29 := fun q hq => by rcases hfr191 q hq with h | h; (have h1 := own174 q h; have h2 := lt173 q h; omega); omega
  have lt197 := Led.lt ho190
  have dis199 : ∀ q, F189 q → ¬ F159 q := fun q h1 h2 => by rcases hfr191 q h1 with h | h; exact (fun q h1 h2 => hdis167 q h2 h1) q h h2; (have h4 := lt171 q h2; omega)
  replace ho187 : Rfr F186 w184 r30 gg31 [tiT] (tiD true late).rs := ho187
  replace ho160 : VotT F159 w184 v32 ((tiD true late).s) := ho160
  replace ho190 : Led F189 w184 l33 (tiD true late).xs (tiD true late).cs := ho190
  refine Oer ?_
  refine Os 1 [(1, nt late), (6, pt b29), (8, nt 0)] ?_
  refine Oe ?_
  refine V_seq ?_
  refine Vr ?_
  have hw200 : IntKind.i64.wrap (3 + late) = 3 + late := (wrap64_id (by omega) (by omega)).trans (by omega)
  refine Os 2 [(1, nt late), (6, pt b29), (8, nt 0), (99, nt (IntKind.i64.wrap (3 + late)))] ?_
  refine OI_eq [(1, nt late), (6, pt b29), (8, nt 0), (99, nt (3 + late))] (by rw [hw200]) ?_
  refine Os 3 [(1, nt late), (6, pt b29), (8, nt 0), (9, nt (3 + late))] ?_
  refine Oe ?_
  refine V_block ?_
  refine V_pick [(1, nt late), (6, pt b29), (8, nt 0), (9, nt (3 + late))] rfl ?_
  refine V_loop (fun k wI e => ∃ m : Nat, ∃ z : Int, ∃ c : Int, ∃ Hk : Nat → Prop, ∃ Fk : Nat → Prop, ∃ Gk : Nat → Prop, (k + m = (78 - late).toNat) ∧ (z = 3 + late + ((m : Nat) : Int)) ∧ (c = tiN m) ∧ (Blk wI b29 [pt l33, pt v32, pt r30, .pointer xv37, .pointer yv38, .pointer zv39, nt 0] 39) ∧ (Rfr Hk wI r30 gg31 [tiT] (tiV true late m).rs) ∧ (VotT Fk wI v32 (tiV true late m).s) ∧ (Led Gk wI l33 (tiV true late m).xs (tiV true late m).cs) ∧ (∀ q, Hk q → w.heap.size ≤ q ∧ q ≠ b29) ∧ (∀ q, Fk q → w.heap.size ≤ q ∧ q ≠ b29) ∧ (∀ q, Gk q → w.heap.size ≤ q ∧ q ≠ b29) ∧ (∀ q, Hk q → ¬ Fk q) ∧ (∀ q, Hk q → ¬ Gk q) ∧ (∀ q, Fk q → ¬ Gk q) ∧ (Keep none_ w wI) ∧ e = [(1, nt late), (6, pt b29), (8, nt c), (9, nt z)]) ((78 - late).toNat) ⟨0, 3 + late, 0, F186, F159, F189, by omega, by omega, rfl, hbk, ho187, ho160, ho190, (fun q hq => by have h1 := own195 q hq; have h2 := lt194 q hq; omega), (fun q hq => by have h1 := own172 q hq; have h2 := lt171 q hq; omega), (fun q hq => by have h1 := own198 q hq; have h2 := lt197 q hq; omega), dis196, hdis192, (fun q h1 h2 => dis199 q h2 h1), hK0, rfl⟩ ?_
  rintro k202 w201 _ ⟨m, z, c, Hk, Fk, Gk, hkm, hz, hc, hbk, hRk, hVk, hLk, hHko, hFko, hGko, dkHF, dkHG, dkFG, hK0, rfl⟩
  have hb29lt := hbk.lt
  have hzhK0 := Keep.size hK0
  have ltHk := Rfr.lt hRk
  have ltFk := VotT.lt hVk
  have ltGk := Led.lt hLk
  subst hz hc
  have htn := tiN_bnd m
  refine V_seq ?_
  refine Vr ?_
  refine Os 2 [(1, nt late), (6, pt b29), (8, nt (tiN m)), (9, nt (3 + late + ((m : Nat) : Int))), (101, .bool (decide ((3 + late + ((m : Nat) : Int)) ≤ 80)))] ?_
  refine Oe ?_
  refine V_if ((3 + late + ((m : Nat) : Int)) ≤ 80) (by kernel_rfl) (fun hc204 => ?_) (fun hc204 => ?_)
  ·
   refine V_skip ?_
   refine X_then ?_
   refine V_seq ?_
   refine V_block ?_
   refine V_seq ?_
   refine V_draws (acts [13]) none_ [[0, 1, 2, 3, 4, 5, 6, 7, 8, 9, 10, 11, 12, 13, 14]] (by kernel_rfl) (by repeat first | exact (by first | exact sure_body (by rintro _ _ ⟨_, _, h, _⟩; exact ⟨_, h⟩) | exact sure_body (by rintro _ _ ⟨_, _, _, _, _, _, _, _, _, _, _, h, _⟩; exact ⟨_, h⟩) | exact sure_body (by rintro _ _ ⟨h, _⟩; exact ⟨_, h⟩)) | refine sure_then ?_ | refine sure_block ?_ | refine sure_join ?_) (by kernel_rfl) ?_
   intro w206 hk205 he207 L hL208
   have hsz209 := Keep.size hk205
   replace hbk := hbk.keep hk205 (fun f => f)
   replace hRk := Rfr.keep hRk hk205 (fun _ _ f => f)
   replace hVk := VotT.keep hVk hk205 (fun _ _ f => f)
   replace hLk := Led.keep hLk hk205 (fun _ _ f => f)
   replace hK0 := Keep.tr hK0 (Keep.ofNone hk205)
   have qhbk := hbk
   have K210 : Keep none_ w206 w206 := Keep.refl _ _
   obtain rfl := List.mem_singleton.1 hL208
   refine Gs [3, 4, 5, 6, 7, 8, 9, 10, 11, 12, 13, 14] [(1, nt late), (6, pt b29), (8, nt (tiN m)), (9, nt (3 + late + ((m : Nat) : Int))), (106, .pointer (some ⟨b29, 2, none⟩))] ?_
   refine Gc0 34 (.tmp 106) 2 (pt r30) (some 107) qhbk rfl ?_
   refine Gs [7, 8, 9, 10, 11, 12, 13, 14] [(1, nt late), (6, pt b29), (8, nt (tiN m)), (9, nt (3 + late + ((m : Nat) : Int))), (107, pt r30), (110, pt b29)] ?_
   refine Gc0 32 (.tmp 110) 0 (pt l33) (some 111) qhbk rfl ?_
   refine Gs [11, 12, 13, 14] [(1, nt late), (6, pt b29), (8, nt (tiN m)), (9, nt (3 + late + ((m : Nat) : Int))), (107, pt r30), (111, pt l33), (114, .pointer (some ⟨b29, 1, none⟩))] ?_
   refine Gc0 33 (.tmp 114) 1 (pt v32) (some 115) qhbk rfl ?_
   refine Gs [13, 14] [(1, nt late), (6, pt b29), (8, nt (tiN m)), (9, nt (3 + late + ((m : Nat) : Int))), (107, pt r30), (111, pt l33), (115, pt v32), (116, nt (3 + late + ((m : Nat) : Int)))] ?_
   by_cases hm211 : m = 29
   ·
    refine Gk0 { callee := (Callee.value (Operand.func 22)), args := #[(Operand.tmp 107), (Operand.tmp 111), (Operand.tmp 115), (Operand.tmp 116)], argTypes := #[34, 32, 33, 3] } 22 #[pt r30, pt l33, pt v32, nt (3 + late + ((m : Nat) : Int))] (some 117) (service_spec Hk r30 gg31 [tiT] (tiV true late m).rs Fk v32 (tiV true late m).s Gk l33 (tiV true late m).xs (tiV true late m).cs (3 + late + ((m : Nat) : Int)) _ hRk hVk hLk dkHF dkHG dkFG) ?_
    rintro _ w214 ⟨A216, cap216, rfl, hA216, ow216, ⟨F217, F220, ho218, ho221, hfr219, hfr222, hdis223, dA224, dA225⟩, hk215⟩
    refine ⟨_, rfl, ?_⟩
    have hsz226 := Keep.size hk215
    replace hbk := hbk.keep hk215 (fun hs => by rcases hs with hs | hs; (have u9 : _ = gg31 := hs; have u0 := hHko _ (Rfr.atg hRk); have u1 := ltHk _ (Rfr.atg hRk); omega); (have u0 := hFko _ hs; have u1 := ltFk _ hs; omega))
    replace hLk := Led.keep hLk hk215 (fun q hq hs => by rcases hs with hs | hs; exact (fun q h1 h2 => dkHG q h2 h1) q hq (by rw [show q = gg31 from hs]; exact (Rfr.atg hRk)); exact (fun q h1 h2 => dkFG q h2 h1) q hq hs)
    replace hK0 := Keep.fresh hK0 hk215 (by intro i hi hs; first | exact hs | (rcases hs with hs | hs; (have u9 : _ = gg31 := hs; have u0 := hHko _ (Rfr.atg hRk); have u1 := ltHk _ (Rfr.atg hRk); omega); (have u0 := hFko i hs; have u1 := ltFk i hs; omega)))
    have own228 : ∀ q, F217 q → w.heap.size ≤ q ∧ q ≠ b29 := fun q hq => by rcases hfr219 q hq with h | h; (have h1 := hHko q h; have h2 := ltHk q h; omega); omega
    have lt227 := Rfr.lt ho218
    have dis229 : ∀ q, F217 q → ¬ Gk q := fun q h1 h2 => by rcases hfr219 q h1 with h | h; exact dkHG q h h2; (have h4 := ltGk q h2; omega)
    have own231 : ∀ q, F220 q → w.heap.size ≤ q ∧ q ≠ b29 := fun q hq => by rcases hfr222 q hq with h | h; (have h1 := hFko q h; have h2 := ltFk q h; omega); omega
    have lt230 := VotT.lt ho221
    have dis232 : ∀ q, F220 q → ¬ Gk q := fun q h1 h2 => by rcases hfr222 q h1 with h | h; exact dkFG q h h2; (have h4 := ltGk q h2; omega)
    have ltA216 := SlT.lt hA216
    have dis233 : ∀ q, inA A216 q → ¬ Gk q := fun q h1 h2 => by have h3 := ow216 q h1; have h4 := ltGk q h2; omega
    replace hA216 := SlT.ofE (xs := (rwEvs [tiT] (tiV true late m) (3 + late + ((m : Nat) : Int)))) hA216 (show _ = [Evt.mk 1 1 4] from ((tiV_ev (by omega) (by omega)).trans (if_pos hm211)))
    replace ho218 : Rfr F217 w214 r30 gg31 [tiT] (tiV true late (m + 1)).rs := ho218
    replace ho221 : VotT F220 w214 v32 ((tiV true late (m + 1)).s) := ho221
    replace hLk : Led Gk w214 l33 (tiV true late (m + 1)).xs (tiV true late (m + 1)).cs := hLk
    refine Gp_ [(1, nt late), (6, pt b29), (8, nt (tiN m)), (9, nt (3 + late + ((m : Nat) : Int))), (117, .slice A216 ((rwEvs [tiT] (tiV true late m) (3 + late + ((m : Nat) : Int))).length) cap216)] ?_
    refine GI_eq [(1, nt late), (6, pt b29), (8, nt (tiN m)), (9, nt (3 + late + ((m : Nat) : Int))), (117, .slice A216 1 cap216)] (by rw [show (rwEvs [tiT] (tiV true late m) (3 + late + ((m : Nat) : Int))) = [Evt.mk 1 1 4] from ((tiV_ev (by omega) (by omega)).trans (if_pos hm211))]; rfl) ?_
    refine Gs [] [(1, nt late), (6, pt b29), (8, nt (tiN m)), (9, nt (3 + late + ((m : Nat) : Int))), (10, .slice A216 1 cap216)] ?_
    refine GI_end ?_
    refine X_then ?_
    refine Vr ?_
    refine Os 1 [(1, nt late), (6, pt b29), (8, nt (tiN m)), (9, nt (3 + late + ((m : Nat) : Int))), (10, .slice A216 1 cap216), (11, nt 0)] ?_
    refine Oe ?_
    refine V_block ?_
    refine V_pick [(1, nt late), (6, pt b29), (8, nt (tiN m)), (9, nt (3 + late + ((m : Nat) : Int))), (10, .slice A216 1 cap216), (11, nt 0)] rfl ?_
    refine V_loop (fun k wI e => ∃ i2 : Nat, ∃ c2 : Int, (k + i2 = 1) ∧ (c2 = tiN m + ((i2 : Nat) : Int)) ∧ Keep none_ w214 wI ∧ e = [(1, nt late), (6, pt b29), (8, nt c2), (9, nt (3 + late + ((m : Nat) : Int))), (10, .slice A216 1 cap216), (11, nt ((i2 : Nat) : Int))]) 1 ⟨0, tiN m, rfl, by omega, Keep.refl _ _, rfl⟩ ?_
    rintro k235 w234 _ ⟨i2, c2, hki2, hc2, hk236, rfl⟩
    have hsz237 := Keep.size hk236
    replace hbk := hbk.keep hk236 (fun f => f)
    replace hA216 := SlT.keep0 hA216 hk236
    replace hLk := Led.keep hLk hk236 (fun _ _ f => f)
    replace hK0 := Keep.tr hK0 (Keep.ofNone hk236)
    replace ho218 := Rfr.keep ho218 hk236 (fun _ _ f => f)
    replace ho221 := VotT.keep ho221 hk236 (fun _ _ f => f)
    have hzhk236 := Keep.size hk236
    refine V_seq ?_
    refine Vr ?_
    refine Os 4 [(1, nt late), (6, pt b29), (8, nt c2), (9, nt (3 + late + ((m : Nat) : Int))), (10, .slice A216 1 cap216), (11, nt ((i2 : Nat) : Int)), (121, .bool (decide (((i2 : Nat) : Int) < 1)))] ?_
    refine Oe ?_
    refine V_if (((i2 : Nat) : Int) < 1) (by kernel_rfl) (fun hc238 => ?_) (fun hc238 => ?_)
    ·
     obtain rfl : i2 = 0 := by omega
     refine V_skip ?_
     refine X_then ?_
     refine V_seq ?_
     refine V_block ?_
     refine V_seq ?_
     refine Vr ?_
     refine Os 2 [(1, nt late), (6, pt b29), (8, nt c2), (9, nt (3 + late + ((m : Nat) : Int))), (10, .slice A216 1 cap216), (11, nt ((0 : Nat) : Int)), (124, .slice A216 1 cap216), (125, nt ((0 : Nat) : Int))] ?_
     obtain ⟨b239, o239, L239, T239, rfl, hat239⟩ := SlT.open_ hA216 (by first | omega | (simp only [List.length_map]; omega) | (simp; done) | (simp; omega))
     have hb239lt := hat239.blk.lt
     have hob240 := ow216 b239 ⟨_, rfl, rfl⟩
     have hob241 := ltA216 b239 ⟨_, rfl, rfl⟩
     have hne242 : ∀ q, Gk q → q ≠ b239 := fun q hq hs => (fun q h1 h2 => dis233 q h2 h1) q hq ⟨_, rfl, hs⟩
     have own243 := fun q hq => And.intro (hGko q hq) (hne242 q hq)
     have hne244 : ∀ q, F217 q → q ≠ b239 := fun q hq hs => (fun q h1 h2 => dA224 q h2 h1) q hq ⟨_, rfl, hs⟩
     have own245 := fun q hq => And.intro (own228 q hq) (hne244 q hq)
     have hne246 : ∀ q, F220 q → q ≠ b239 := fun q hq hs => (fun q h1 h2 => dA225 q h2 h1) q hq ⟨_, rfl, hs⟩
     have own247 := fun q hq => And.intro (own231 q hq) (hne246 q hq)
     refine OI_pure (some 126) (.indexAddr 50 (.tmp 124) (.tmp 125)) (by kernel_rfl) (pure_idxN (b := b239) (o := o239) (len := 1) (cap := cap216) (kd := .i64) (j := 0) (E := 53) (sz := 3) (by_ := 24) (by kernel_rfl) (by kernel_rfl) (by kernel_rfl) (by omega)) ?_
     refine Oa 53 (.tmp 126) (o239 + 0 * 3) (Evt.cells (Evt.mk 1 1 4)) (some 127) 3 hat239.blk (At.elem' hat239 (es_at (rfl : ([Evt.mk 1 1 4] : List Evt)[0]? = some (Evt.mk 1 1 4)))) (At.len hat239 (es_at (rfl : ([Evt.mk 1 1 4] : List Evt)[0]? = some (Evt.mk 1 1 4)))) ?_
     refine Os 5 [(1, nt late), (6, pt b29), (8, nt c2), (9, nt (3 + late + ((m : Nat) : Int))), (10, .slice (some ⟨b239, o239, none⟩) 1 cap216), (11, nt ((0 : Nat) : Int)), (127, .agg (Evt.cells (Evt.mk 1 1 4)).toArray), (128, .agg (Evt.cells (Evt.mk 1 1 4)).toArray)] ?_
     refine OI_pure (some 129) ((Op.binOp BinOp.neq 53 (Operand.tmp 127) (Operand.tmp 128) 53)) (by kernel_rfl) (pure_neq_same (xs := Evt.cells (Evt.mk 1 1 4)) (by kernel_rfl) (by kernel_rfl) (by kernel_rfl) (by kernel_rfl)) ?_
     have hw248 : IntKind.i64.wrap (2 + late) = 2 + late := (wrap64_id (by omega) (by omega)).trans (by omega)
     refine Os 10 [(1, nt late), (6, pt b29), (8, nt c2), (9, nt (3 + late + ((m : Nat) : Int))), (10, .slice (some ⟨b239, o239, none⟩) 1 cap216), (11, nt ((0 : Nat) : Int)), (130, .bool false), (131, nt (3 + late + ((m : Nat) : Int))), (132, nt late), (133, nt (IntKind.i64.wrap (2 + late)))] ?_
     refine OI_eq [(1, nt late), (6, pt b29), (8, nt c2), (9, nt (3 + late + ((m : Nat) : Int))), (10, .slice (some ⟨b239, o239, none⟩) 1 cap216), (11, nt ((0 : Nat) : Int)), (130, .bool false), (131, nt (3 + late + ((m : Nat) : Int))), (132, nt late), (133, nt (2 + late))] (by rw [hw248]) ?_
     have hw249 : IntKind.i64.wrap ((2 + late) + 30) = (2 + late) + 30 := (wrap64_id (by omega) (by omega)).trans (by omega)
     refine Os 11 [(1, nt late), (6, pt b29), (8, nt c2), (9, nt (3 + late + ((m : Nat) : Int))), (10, .slice (some ⟨b239, o239, none⟩) 1 cap216), (11, nt ((0 : Nat) : Int)), (130, .bool false), (131, nt (3 + late + ((m : Nat) : Int))), (132, nt late), (133, nt (2 + late)), (134, nt (IntKind.i64.wrap ((2 + late) + 30)))] ?_
     refine OI_eq [(1, nt late), (6, pt b29), (8, nt c2), (9, nt (3 + late + ((m : Nat) : Int))), (10, .slice (some ⟨b239, o239, none⟩) 1 cap216), (11, nt ((0 : Nat) : Int)), (130, .bool false), (131, nt (3 + late + ((m : Nat) : Int))), (132, nt late), (133, nt (2 + late)), (134, nt ((2 + late) + 30))] (by rw [hw249]) ?_
     refine Os 13 [(1, nt late), (6, pt b29), (8, nt c2), (9, nt (3 + late + ((m : Nat) : Int))), (10, .slice (some ⟨b239, o239, none⟩) 1 cap216), (11, nt ((0 : Nat) : Int)), (131, nt (3 + late + ((m : Nat) : Int))), (132, nt late), (133, nt (2 + late)), (134, nt ((2 + late) + 30)), (135, .bool (!(decide ((3 + late + ((m : Nat) : Int)) = (2 + late) + 30)))), (136, .bool (!(decide ((3 + late + ((m : Nat) : Int)) = (2 + late) + 30))))] ?_
     refine Oe ?_
     refine V_eq [(1, nt late), (6, pt b29), (8, nt c2), (9, nt (3 + late + ((m : Nat) : Int))), (10, .slice (some ⟨b239, o239, none⟩) 1 cap216), (11, nt ((0 : Nat) : Int)), (131, nt (3 + late + ((m : Nat) : Int))), (132, nt late), (133, nt (2 + late)), (134, nt ((2 + late) + 30)), (135, .bool (!(decide ((3 + late + ((m : Nat) : Int)) = (2 + late) + 30)))), (136, .bool false)] (by rw [decide_eq_true (show ((3 + late + ((m : Nat) : Int)) = (2 + late) + 30) from (by omega))]; rfl) ?_
     refine V_false rfl ?_
     refine V_skip ?_
     refine X_then ?_
     refine V_region ?_
     have hw251 : IntKind.i64.wrap (c2 + 1) = c2 + 1 := (wrap64_id (by omega) (by omega)).trans (by omega)
     refine Os 2 [(1, nt late), (6, pt b29), (9, nt (3 + late + ((m : Nat) : Int))), (10, .slice (some ⟨b239, o239, none⟩) 1 cap216), (11, nt ((0 : Nat) : Int)), (131, nt (3 + late + ((m : Nat) : Int))), (132, nt late), (133, nt (2 + late)), (134, nt ((2 + late) + 30)), (135, .bool (!(decide ((3 + late + ((m : Nat) : Int)) = (2 + late) + 30)))), (138, nt (IntKind.i64.wrap (c2 + 1)))] ?_
     refine OI_eq [(1, nt late), (6, pt b29), (9, nt (3 + late + ((m : Nat) : Int))), (10, .slice (some ⟨b239, o239, none⟩) 1 cap216), (11, nt ((0 : Nat) : Int)), (131, nt (3 + late + ((m : Nat) : Int))), (132, nt late), (133, nt (2 + late)), (134, nt ((2 + late) + 30)), (135, .bool (!(decide ((3 + late + ((m : Nat) : Int)) = (2 + late) + 30)))), (138, nt (c2 + 1))] (by rw [hw251]) ?_
     refine Os 3 [(1, nt late), (6, pt b29), (8, nt (c2 + 1)), (9, nt (3 + late + ((m : Nat) : Int))), (10, .slice (some ⟨b239, o239, none⟩) 1 cap216), (11, nt ((0 : Nat) : Int)), (131, nt (3 + late + ((m : Nat) : Int))), (132, nt late), (133, nt (2 + late)), (134, nt ((2 + late) + 30)), (135, .bool (!(decide ((3 + late + ((m : Nat) : Int)) = (2 + late) + 30))))] ?_
     refine OI_end rfl ?_
     refine X_block ?_
     refine X_then ?_
     refine V_region ?_
     have hw252 : IntKind.i64.wrap (((0 : Nat) : Int) + 1) = ((0 + 1 : Nat) : Int) := (wrap64_id (by omega) (by omega)).trans (by omega)
     refine Os 2 [(1, nt late), (6, pt b29), (8, nt (c2 + 1)), (9, nt (3 + late + ((m : Nat) : Int))), (10, .slice (some ⟨b239, o239, none⟩) 1 cap216), (123, nt (IntKind.i64.wrap (((0 : Nat) : Int) + 1))), (131, nt (3 + late + ((m : Nat) : Int))), (132, nt late), (133, nt (2 + late)), (134, nt ((2 + late) + 30)), (135, .bool (!(decide ((3 + late + ((m : Nat) : Int)) = (2 + late) + 30))))] ?_
     refine OI_eq [(1, nt late), (6, pt b29), (8, nt (c2 + 1)), (9, nt (3 + late + ((m : Nat) : Int))), (10, .slice (some ⟨b239, o239, none⟩) 1 cap216), (123, nt ((0 + 1 : Nat) : Int)), (131, nt (3 + late + ((m : Nat) : Int))), (132, nt late), (133, nt (2 + late)), (134, nt ((2 + late) + 30)), (135, .bool (!(decide ((3 + late + ((m : Nat) : Int)) = (2 + late) + 30))))] (by rw [hw252]) ?_
     refine Os 3 [(1, nt late), (6, pt b29), (8, nt (c2 + 1)), (9, nt (3 + late + ((m : Nat) : Int))), (10, .slice (some ⟨b239, o239, none⟩) 1 cap216), (11, nt ((0 + 1 : Nat) : Int)), (131, nt (3 + late + ((m : Nat) : Int))), (132, nt late), (133, nt (2 + late)), (134, nt ((2 + late) + 30)), (135, .bool (!(decide ((3 + late + ((m : Nat) : Int)) = (2 + late) + 30))))] ?_
     refine OI_end rfl ?_
     exact V_again (k235 - 1) (by omega) [(1, nt late), (6, pt b29), (8, nt (c2 + 1)), (9, nt (3 + late + ((m : Nat) : Int))), (10, .slice (some ⟨b239, o239, none⟩) 1 cap216), (11, nt ((0 + 1 : Nat) : Int))] rfl ⟨0 + 1, c2 + 1, by omega, by omega, hk236, rfl⟩
    have hi2 : i2 = 1 := by omega
    rw [hi2] at hc2
    refine V_exit ?_
    refine X_exit_then ?_
    refine X_exit_then ?_
    refine X_exit_here ?_
    refine X_block ?_
    refine X_then ?_
    refine V_region ?_
    have hw253 : IntKind.i64.wrap ((3 + late + ((m : Nat) : Int)) + 1) = (3 + late + ((m : Nat) : Int)) + 1 := (wrap64_id (by omega) (by omega)).trans (by omega)
    refine Os 2 [(1, nt late), (6, pt b29), (8, nt c2), (103, nt (IntKind.i64.wrap ((3 + late + ((m : Nat) : Int)) + 1)))] ?_
    refine OI_eq [(1, nt late), (6, pt b29), (8, nt c2), (103, nt ((3 + late + ((m : Nat) : Int)) + 1))] (by rw [hw253]) ?_
    refine Os 3 [(1, nt late), (6, pt b29), (8, nt c2), (9, nt ((3 + late + ((m : Nat) : Int)) + 1))] ?_
    refine OI_end rfl ?_
    exact V_again (k202 - 1) (by omega) [(1, nt late), (6, pt b29), (8, nt c2), (9, nt ((3 + late + ((m : Nat) : Int)) + 1))] rfl ⟨m + 1, (3 + late + ((m : Nat) : Int)) + 1, c2, F217, F220, Gk, by omega, by omega, by rw [tiN_yes hm211, hc2]; omega, hbk, ho218, ho221, hLk, (fun q hq => by have h1 := own228 q hq; have h2 := lt227 q hq; omega), (fun q hq => by have h1 := own231 q hq; have h2 := lt230 q hq; omega), (fun q hq => by have h1 := hGko q hq; have h2 := ltGk q hq; omega), hdis223, dis229, dis232, hK0, rfl⟩
   refine Gk0 { callee := (Callee.value (Operand.func 22)), args := #[(Operand.tmp 107), (Operand.tmp 111), (Operand.tmp 115), (Operand.tmp 116)], argTypes := #[34, 32, 33, 3] } 22 #[pt r30, pt l33, pt v32, nt (3 + late + ((m : Nat) : Int))] (some 117) (service_spec Hk r30 gg31 [tiT] (tiV true late m).rs Fk v32 (tiV true late m).s Gk l33 (tiV true late m).xs (tiV true late m).cs (3 + late + ((m : Nat) : Int)) _ hRk hVk hLk dkHF dkHG dkFG) ?_
   rintro _ w256 ⟨A258, cap258, rfl, hA258, ow258, ⟨F259, F262, ho260, ho263, hfr261, hfr264, hdis265, dA266, dA267⟩, hk257⟩
   refine ⟨_, rfl, ?_⟩
   have hsz268 := Keep.size hk257
   replace hbk := hbk.keep hk257 (fun hs => by rcases hs with hs | hs; (have u9 : _ = gg31 := hs; have u0 := hHko _ (Rfr.atg hRk); have u1 := ltHk _ (Rfr.atg hRk); omega); (have u0 := hFko _ hs; have u1 := ltFk _ hs; omega))
   replace hLk := Led.keep hLk hk257 (fun q hq hs => by rcases hs with hs | hs; exact (fun q h1 h2 => dkHG q h2 h1) q hq (by rw [show q = gg31 from hs]; exact (Rfr.atg hRk)); exact (fun q h1 h2 => dkFG q h2 h1) q hq hs)
   replace hK0 := Keep.fresh hK0 hk257 (by intro i hi hs; first | exact hs | (rcases hs with hs | hs; (have u9 : _ = gg31 := hs; have u0 := hHko _ (Rfr.atg hRk); have u1 := ltHk _ (Rfr.atg hRk); omega); (have u0 := hFko i hs; have u1 := ltFk i hs; omega)))
   have own270 : ∀ q, F259 q → w.heap.size ≤ q ∧ q ≠ b29 := fun q hq => by rcases hfr261 q hq with h | h; (have h1 := hHko q h; have h2 := ltHk q h; omega); omega
   have lt269 := Rfr.lt ho260
   have dis271 : ∀ q, F259 q → ¬ Gk q := fun q h1 h2 => by rcases hfr261 q h1 with h | h; exact dkHG q h h2; (have h4 := ltGk q h2; omega)
   have own273 : ∀ q, F262 q → w.heap.size ≤ q ∧ q ≠ b29 := fun q hq => by rcases hfr264 q hq with h | h; (have h1 := hFko q h; have h2 := ltFk q h; omega); omega
   have lt272 := VotT.lt ho263
   have dis274 : ∀ q, F262 q → ¬ Gk q := fun q h1 h2 => by rcases hfr264 q h1 with h | h; exact dkFG q h h2; (have h4 := ltGk q h2; omega)
   have ltA258 := SlT.lt hA258
   have dis275 : ∀ q, inA A258 q → ¬ Gk q := fun q h1 h2 => by have h3 := ow258 q h1; have h4 := ltGk q h2; omega
   replace hA258 := SlT.ofE (xs := (rwEvs [tiT] (tiV true late m) (3 + late + ((m : Nat) : Int)))) hA258 (show _ = ([] : List Evt) from ((tiV_ev (by omega) (by omega)).trans (if_neg hm211)))
   replace ho260 : Rfr F259 w256 r30 gg31 [tiT] (tiV true late (m + 1)).rs := ho260
   replace ho263 : VotT F262 w256 v32 ((tiV true late (m + 1)).s) := ho263
   replace hLk : Led Gk w256 l33 (tiV true late (m + 1)).xs (tiV true late (m + 1)).cs := hLk
   refine Gp_ [(1, nt late), (6, pt b29), (8, nt (tiN m)), (9, nt (3 + late + ((m : Nat) : Int))), (117, .slice A258 ((rwEvs [tiT] (tiV true late m) (3 + late + ((m : Nat) : Int))).length) cap258)] ?_
   refine GI_eq [(1, nt late), (6, pt b29), (8, nt (tiN m)), (9, nt (3 + late + ((m : Nat) : Int))), (117, .slice A258 0 cap258)] (by rw [show (rwEvs [tiT] (tiV true late m) (3 + late + ((m : Nat) : Int))) = ([] : List Evt) from ((tiV_ev (by omega) (by omega)).trans (if_neg hm211))]; rfl) ?_
   refine Gs [] [(1, nt late), (6, pt b29), (8, nt (tiN m)), (9, nt (3 + late + ((m : Nat) : Int))), (10, .slice A258 0 cap258)] ?_
   refine GI_end ?_
   refine X_then ?_
   refine Vr ?_
   refine Os 1 [(1, nt late), (6, pt b29), (8, nt (tiN m)), (9, nt (3 + late + ((m : Nat) : Int))), (10, .slice A258 0 cap258), (11, nt 0)] ?_
   refine Oe ?_
   refine V_block ?_
   refine V_pick [(1, nt late), (6, pt b29), (8, nt (tiN m)), (9, nt (3 + late + ((m : Nat) : Int))), (10, .slice A258 0 cap258), (11, nt 0)] rfl ?_
   refine V_loop (fun k wI e => ∃ i2 : Nat, ∃ c2 : Int, (k + i2 = 0) ∧ (c2 = tiN m + ((i2 : Nat) : Int)) ∧ Keep none_ w256 wI ∧ e = [(1, nt late), (6, pt b29), (8, nt c2), (9, nt (3 + late + ((m : Nat) : Int))), (10, .slice A258 0 cap258), (11, nt ((i2 : Nat) : Int))]) 0 ⟨0, tiN m, rfl, by omega, Keep.refl _ _, rfl⟩ ?_
   rintro k277 w276 _ ⟨i2, c2, hki2, hc2, hk278, rfl⟩
   have hsz279 := Keep.size hk278
   replace hbk := hbk.keep hk278 (fun f => f)
   replace hA258 := SlT.keep0 hA258 hk278
   replace hLk := Led.keep hLk hk278 (fun _ _ f => f)
   replace hK0 := Keep.tr hK0 (Keep.ofNone hk278)
   replace ho260 := Rfr.keep ho260 hk278 (fun _ _ f => f)
   replace ho263 := VotT.keep ho263 hk278 (fun _ _ f => f)
   have hzhk278 := Keep.size hk278
   refine V_seq ?_
   refine Vr ?_
   refine Os 4 [(1, nt late), (6, pt b29), (8, nt c2), (9, nt (3 + late + ((m : Nat) : Int))), (10, .slice A258 0 cap258), (11, nt ((i2 : Nat) : Int)), (121, .bool (decide (((i2 : Nat) : Int) < 0)))] ?_
   refine Oe ?_
   refine V_if (((i2 : Nat) : Int) < 0) (by kernel_rfl) (fun hc280 => ?_) (fun hc280 => ?_)
   ·
    exact (by omega : False).elim
   have hi2 : i2 = 0 := by omega
   rw [hi2] at hc2
   refine V_exit ?_
   refine X_exit_then ?_
   refine X_exit_then ?_
   refine X_exit_here ?_
   refine X_block ?_
   refine X_then ?_
   refine V_region ?_
   have hw281 : IntKind.i64.wrap ((3 + late + ((m : Nat) : Int)) + 1) = (3 + late + ((m : Nat) : Int)) + 1 := (wrap64_id (by omega) (by omega)).trans (by omega)
   refine Os 2 [(1, nt late), (6, pt b29), (8, nt c2), (103, nt (IntKind.i64.wrap ((3 + late + ((m : Nat) : Int)) + 1)))] ?_
   refine OI_eq [(1, nt late), (6, pt b29), (8, nt c2), (103, nt ((3 + late + ((m : Nat) : Int)) + 1))] (by rw [hw281]) ?_
   refine Os 3 [(1, nt late), (6, pt b29), (8, nt c2), (9, nt ((3 + late + ((m : Nat) : Int)) + 1))] ?_
   refine OI_end rfl ?_
   exact V_again (k202 - 1) (by omega) [(1, nt late), (6, pt b29), (8, nt c2), (9, nt ((3 + late + ((m : Nat) : Int)) + 1))] rfl ⟨m + 1, (3 + late + ((m : Nat) : Int)) + 1, c2, F259, F262, Gk, by omega, by omega, by rw [tiN_no hm211, hc2]; omega, hbk, ho260, ho263, hLk, (fun q hq => by have h1 := own270 q hq; have h2 := lt269 q hq; omega), (fun q hq => by have h1 := own273 q hq; have h2 := lt272 q hq; omega), (fun q hq => by have h1 := hGko q hq; have h2 := ltGk q hq; omega), hdis265, dis271, dis274, hK0, rfl⟩
  obtain ⟨ht1, ht2, ht3, ht4⟩ := ti_fin (bk := true) (late := late) (m := m) (by omega) (by omega)
  refine V_exit ?_
  refine X_exit_then ?_
  refine X_exit_then ?_
  refine X_exit_here ?_
  refine X_then ?_
  refine Vr ?_
  refine Os 3 [(8, nt (tiN m)), (142, .pointer (some ⟨b29, 2, none⟩))] ?_
  refine Oc 34 (.tmp 142) 2 (pt r30) (some 143) hbk rfl ?_
  refine Ok { callee := (Callee.value (Operand.func 23)), args := #[(Operand.tmp 143), (Operand.const (Value.int IntKind.i64 0))], argTypes := #[34, 3] } 23 #[pt r30, nt 0] (some 144) (rget_spec Hk r30 gg31 [tiT] (tiV true late m).rs 0 _ hRk) ?_
  rintro _ w282 ⟨rfl, hk283⟩
  refine ⟨_, rfl, ?_⟩
  have hsz284 := Keep.size hk283
  replace hRk := Rfr.keep hRk hk283 (fun _ _ f => f)
  replace hVk := VotT.keep hVk hk283 (fun _ _ f => f)
  replace hLk := Led.keep hLk hk283 (fun _ _ f => f)
  replace hK0 := Keep.tr hK0 (Keep.ofNone hk283)
  refine Os 8 [(8, nt (tiN m)), (145, .agg (Rfm.cells (getA (tiV true late m).rs 0)).toArray), (146, .bool ((getR (tiV true late m).rs 0).isSome))] ?_
  refine OI_alloc 57 (.agg (Rfm.cells Rfm.zero).toArray) (Rfm.cells Rfm.zero) (some 12) (by kernel_rfl) (by kernel_rfl) (by kernel_rfl) ?_
  intro b285 w285 e285 hb285 k285 z285
  have hsz286 := Keep.size k285
  replace hRk := Rfr.keep hRk k285 (fun _ _ f => f)
  replace hVk := VotT.keep hVk k285 (fun _ _ f => f)
  replace hLk := Led.keep hLk k285 (fun _ _ f => f)
  replace hK0 := Keep.tr hK0 (Keep.ofNone k285)
  have hb285lt := hb285.lt
  refine OI_set (m := 45) (kd := true) 57 (.tmp 12) (.tmp 145) 0 (.agg (Rfm.cells (getA (tiV true late m).rs 0)).toArray) (Rfm.cells (getA (tiV true late m).rs 0)) none (by kernel_rfl) (by kernel_rfl) (by kernel_rfl) hb285 (by kernel_rfl) rfl (Rfm.len _) (Nat.le_of_ble_eq_true (by kernel_rfl)) (Rfm.one _) ?_
  intro w287 hb285_290 hk288 hz289
  replace hb285_290 : Blk w287 b285 (Rfm.cells (getA (tiV true late m).rs 0)) 57 := (Blk.eqL (Rfm.over _ _) hb285_290)
  have hsz291 := Keep.size hk288
  replace hRk := Rfr.keep hRk hk288 (fun q hq hs => by have hs : q = b285 := hs; have g0 := hHko q hq; have g1 := ltHk q hq; omega)
  replace hVk := VotT.keep hVk hk288 (fun q hq hs => by have hs : q = b285 := hs; have g0 := hFko q hq; have g1 := ltFk q hq; omega)
  replace hLk := Led.keep hLk hk288 (fun q hq hs => by have hs : q = b285 := hs; have g0 := hGko q hq; have g1 := ltGk q hq; omega)
  replace hK0 := Keep.fresh hK0 hk288 (by intro i hi hs; first | exact hs | exact Or.inl hs | exact Or.inr hs | (exfalso; have hs2 : i = b285 := hs; omega))
  refine Os 11 [(8, nt (tiN m)), (12, pt b285), (13, .bool ((getR (tiV true late m).rs 0).isSome))] ?_
  refine Oer ?_
  refine Os 3 [(12, pt b285), (13, .bool ((getR (tiV true late m).rs 0).isSome)), (149, .bool (decide ((tiN m) = 1)))] ?_
  refine OI_eq [(12, pt b285), (13, .bool ((getR (tiV true late m).rs 0).isSome)), (149, .bool true)] (by rw [decide_eq_true (show ((tiN m) = 1) from ht4)]) ?_
  refine Os 6 [(12, pt b285), (152, .bool ((getR (tiV true late m).rs 0).isSome))] ?_
  refine OI_eq [(12, pt b285), (152, .bool true)] (by rw [show ((getR (tiV true late m).rs 0).isSome) = true from ht1]) ?_
  refine Os 7 [(12, pt b285), (152, .bool true), (153, pt b285)] ?_
  refine Oc 3 (.tmp 153) 0 (nt ((getA (tiV true late m).rs 0).state)) (some 154) hb285_290 rfl ?_
  refine Os 11 [(12, pt b285), (157, .bool (decide ((getA (tiV true late m).rs 0).state = 1)))] ?_
  refine OI_eq [(12, pt b285), (157, .bool true)] (by rw [decide_eq_true (show ((getA (tiV true late m).rs 0).state = 1) from ht2)]) ?_
  refine Os 12 [(157, .bool true), (158, .pointer (some ⟨b285, 39, none⟩))] ?_
  refine Oc 3 (.tmp 158) 39 (nt ((getA (tiV true late m).rs 0).since)) (some 159) hb285_290 rfl ?_
  refine Os 16 [(162, .bool (decide ((getA (tiV true late m).rs 0).since = 2)))] ?_
  refine OI_eq [(162, .bool true)] (by rw [decide_eq_true (show ((getA (tiV true late m).rs 0).since = 2) from ht3)]) ?_
  refine Ok { callee := (Callee.value (Operand.func 18)), args := #[], argTypes := #[] } 18 #[] (some 163) (known_spec _) ?_
  rintro _ w296 ⟨rfl, hk297⟩
  refine ⟨_, rfl, ?_⟩
  have hsz298 := Keep.size hk297
  replace hb285_290 := hb285_290.keep hk297 (fun f => f)
  replace hRk := Rfr.keep hRk hk297 (fun _ _ f => f)
  replace hVk := VotT.keep hVk hk297 (fun _ _ f => f)
  replace hLk := Led.keep hLk hk297 (fun _ _ f => f)
  replace hK0 := Keep.tr hK0 (Keep.ofNone hk297)
  refine Os 19 [(4, .bool true)] ?_
  refine Oe ?_
  refine V_ret ?_
  exact X_return (.bool true) rfl ⟨rfl, hK0⟩
 refine V_skip ?_
 refine X_then ?_
 refine Vr ?_
 refine Os 1 [(1, nt late), (6, pt b29), (8, nt 0)] ?_
 refine Oe ?_
 refine V_seq ?_
 refine Vr ?_
 have hw299 : IntKind.i64.wrap (3 + late) = 3 + late := (wrap64_id (by omega) (by omega)).trans (by omega)
 refine Os 2 [(1, nt late), (6, pt b29), (8, nt 0), (99, nt (IntKind.i64.wrap (3 + late)))] ?_
 refine OI_eq [(1, nt late), (6, pt b29), (8, nt 0), (99, nt (3 + late))] (by rw [hw299]) ?_
 refine Os 3 [(1, nt late), (6, pt b29), (8, nt 0), (9, nt (3 + late))] ?_
 refine Oe ?_
 refine V_block ?_
 refine V_pick [(1, nt late), (6, pt b29), (8, nt 0), (9, nt (3 + late))] rfl ?_
 refine V_loop (fun k wI e => ∃ m : Nat, ∃ z : Int, ∃ c : Int, ∃ Hk : Nat → Prop, ∃ Fk : Nat → Prop, ∃ Gk : Nat → Prop, (k + m = (78 - late).toNat) ∧ (z = 3 + late + ((m : Nat) : Int)) ∧ (c = tiN m) ∧ (Blk wI b29 [pt l33, pt v32, pt r30, .pointer xv37, .pointer yv38, .pointer zv39, nt 0] 39) ∧ (Rfr Hk wI r30 gg31 [tiT] (tiV false late m).rs) ∧ (VotT Fk wI v32 (tiV false late m).s) ∧ (Led Gk wI l33 (tiV false late m).xs (tiV false late m).cs) ∧ (∀ q, Hk q → w.heap.size ≤ q ∧ q ≠ b29) ∧ (∀ q, Fk q → w.heap.size ≤ q ∧ q ≠ b29) ∧ (∀ q, Gk q → w.heap.size ≤ q ∧ q ≠ b29) ∧ (∀ q, Hk q → ¬ Fk q) ∧ (∀ q, Hk q → ¬ Gk q) ∧ (∀ q, Fk q → ¬ Gk q) ∧ (Keep none_ w wI) ∧ e = [(1, nt late), (6, pt b29), (8, nt c), (9, nt z)]) ((78 - late).toNat) ⟨0, 3 + late, 0, F156, F159, F162, by omega, by omega, rfl, hbk, ho157, ho160, ho163, (fun q hq => by have h1 := own170 q hq; have h2 := lt169 q hq; omega), (fun q hq => by have h1 := own172 q hq; have h2 := lt171 q hq; omega), (fun q hq => by have h1 := own174 q hq; have h2 := lt173 q hq; omega), hdis165, hdis166, hdis167, hK0, rfl⟩ ?_
 rintro k301 w300 _ ⟨m, z, c, Hk, Fk, Gk, hkm, hz, hc, hbk, hRk, hVk, hLk, hHko, hFko, hGko, dkHF, dkHG, dkFG, hK0, rfl⟩
 have hb29lt := hbk.lt
 have hzhK0 := Keep.size hK0
 have ltHk := Rfr.lt hRk
 have ltFk := VotT.lt hVk
 have ltGk := Led.lt hLk
 subst hz hc
 have htn := tiN_bnd m
 refine V_seq ?_
 refine Vr ?_
 refine Os 2 [(1, nt late), (6, pt b29), (8, nt (tiN m)), (9, nt (3 + late + ((m : Nat) : Int))), (101, .bool (decide ((3 + late + ((m : Nat) : Int)) ≤ 80)))] ?_
 refine Oe ?_
 refine V_if ((3 + late + ((m : Nat) : Int)) ≤ 80) (by kernel_rfl) (fun hc303 => ?_) (fun hc303 => ?_)
 ·
  refine V_skip ?_
  refine X_then ?_
  refine V_seq ?_
  refine V_block ?_
  refine V_seq ?_
  refine V_draws (acts [13]) none_ [[0, 1, 2, 3, 4, 5, 6, 7, 8, 9, 10, 11, 12, 13, 14]] (by kernel_rfl) (by repeat first | exact (by first | exact sure_body (by rintro _ _ ⟨_, _, h, _⟩; exact ⟨_, h⟩) | exact sure_body (by rintro _ _ ⟨_, _, _, _, _, _, _, _, _, _, _, h, _⟩; exact ⟨_, h⟩) | exact sure_body (by rintro _ _ ⟨h, _⟩; exact ⟨_, h⟩)) | refine sure_then ?_ | refine sure_block ?_ | refine sure_join ?_) (by kernel_rfl) ?_
  intro w305 hk304 he306 L hL307
  have hsz308 := Keep.size hk304
  replace hbk := hbk.keep hk304 (fun f => f)
  replace hRk := Rfr.keep hRk hk304 (fun _ _ f => f)
  replace hVk := VotT.keep hVk hk304 (fun _ _ f => f)
  replace hLk := Led.keep hLk hk304 (fun _ _ f => f)
  replace hK0 := Keep.tr hK0 (Keep.ofNone hk304)
  have qhbk := hbk
  have K309 : Keep none_ w305 w305 := Keep.refl _ _
  obtain rfl := List.mem_singleton.1 hL307
  refine Gs [3, 4, 5, 6, 7, 8, 9, 10, 11, 12, 13, 14] [(1, nt late), (6, pt b29), (8, nt (tiN m)), (9, nt (3 + late + ((m : Nat) : Int))), (106, .pointer (some ⟨b29, 2, none⟩))] ?_
  refine Gc0 34 (.tmp 106) 2 (pt r30) (some 107) qhbk rfl ?_
  refine Gs [7, 8, 9, 10, 11, 12, 13, 14] [(1, nt late), (6, pt b29), (8, nt (tiN m)), (9, nt (3 + late + ((m : Nat) : Int))), (107, pt r30), (110, pt b29)] ?_
  refine Gc0 32 (.tmp 110) 0 (pt l33) (some 111) qhbk rfl ?_
  refine Gs [11, 12, 13, 14] [(1, nt late), (6, pt b29), (8, nt (tiN m)), (9, nt (3 + late + ((m : Nat) : Int))), (107, pt r30), (111, pt l33), (114, .pointer (some ⟨b29, 1, none⟩))] ?_
  refine Gc0 33 (.tmp 114) 1 (pt v32) (some 115) qhbk rfl ?_
  refine Gs [13, 14] [(1, nt late), (6, pt b29), (8, nt (tiN m)), (9, nt (3 + late + ((m : Nat) : Int))), (107, pt r30), (111, pt l33), (115, pt v32), (116, nt (3 + late + ((m : Nat) : Int)))] ?_
  by_cases hm310 : m = 29
  ·
   refine Gk0 { callee := (Callee.value (Operand.func 22)), args := #[(Operand.tmp 107), (Operand.tmp 111), (Operand.tmp 115), (Operand.tmp 116)], argTypes := #[34, 32, 33, 3] } 22 #[pt r30, pt l33, pt v32, nt (3 + late + ((m : Nat) : Int))] (some 117) (service_spec Hk r30 gg31 [tiT] (tiV false late m).rs Fk v32 (tiV false late m).s Gk l33 (tiV false late m).xs (tiV false late m).cs (3 + late + ((m : Nat) : Int)) _ hRk hVk hLk dkHF dkHG dkFG) ?_
   rintro _ w313 ⟨A315, cap315, rfl, hA315, ow315, ⟨F316, F319, ho317, ho320, hfr318, hfr321, hdis322, dA323, dA324⟩, hk314⟩
   refine ⟨_, rfl, ?_⟩
   have hsz325 := Keep.size hk314
   replace hbk := hbk.keep hk314 (fun hs => by rcases hs with hs | hs; (have u9 : _ = gg31 := hs; have u0 := hHko _ (Rfr.atg hRk); have u1 := ltHk _ (Rfr.atg hRk); omega); (have u0 := hFko _ hs; have u1 := ltFk _ hs; omega))
   replace hLk := Led.keep hLk hk314 (fun q hq hs => by rcases hs with hs | hs; exact (fun q h1 h2 => dkHG q h2 h1) q hq (by rw [show q = gg31 from hs]; exact (Rfr.atg hRk)); exact (fun q h1 h2 => dkFG q h2 h1) q hq hs)
   replace hK0 := Keep.fresh hK0 hk314 (by intro i hi hs; first | exact hs | (rcases hs with hs | hs; (have u9 : _ = gg31 := hs; have u0 := hHko _ (Rfr.atg hRk); have u1 := ltHk _ (Rfr.atg hRk); omega); (have u0 := hFko i hs; have u1 := ltFk i hs; omega)))
   have own327 : ∀ q, F316 q → w.heap.size ≤ q ∧ q ≠ b29 := fun q hq => by rcases hfr318 q hq with h | h; (have h1 := hHko q h; have h2 := ltHk q h; omega); omega
   have lt326 := Rfr.lt ho317
   have dis328 : ∀ q, F316 q → ¬ Gk q := fun q h1 h2 => by rcases hfr318 q h1 with h | h; exact dkHG q h h2; (have h4 := ltGk q h2; omega)
   have own330 : ∀ q, F319 q → w.heap.size ≤ q ∧ q ≠ b29 := fun q hq => by rcases hfr321 q hq with h | h; (have h1 := hFko q h; have h2 := ltFk q h; omega); omega
   have lt329 := VotT.lt ho320
   have dis331 : ∀ q, F319 q → ¬ Gk q := fun q h1 h2 => by rcases hfr321 q h1 with h | h; exact dkFG q h h2; (have h4 := ltGk q h2; omega)
   have ltA315 := SlT.lt hA315
   have dis332 : ∀ q, inA A315 q → ¬ Gk q := fun q h1 h2 => by have h3 := ow315 q h1; have h4 := ltGk q h2; omega
   replace hA315 := SlT.ofE (xs := (rwEvs [tiT] (tiV false late m) (3 + late + ((m : Nat) : Int)))) hA315 (show _ = [Evt.mk 1 1 4] from ((tiV_ev (by omega) (by omega)).trans (if_pos hm310)))
   replace ho317 : Rfr F316 w313 r30 gg31 [tiT] (tiV false late (m + 1)).rs := ho317
   replace ho320 : VotT F319 w313 v32 ((tiV false late (m + 1)).s) := ho320
   replace hLk : Led Gk w313 l33 (tiV false late (m + 1)).xs (tiV false late (m + 1)).cs := hLk
   refine Gp_ [(1, nt late), (6, pt b29), (8, nt (tiN m)), (9, nt (3 + late + ((m : Nat) : Int))), (117, .slice A315 ((rwEvs [tiT] (tiV false late m) (3 + late + ((m : Nat) : Int))).length) cap315)] ?_
   refine GI_eq [(1, nt late), (6, pt b29), (8, nt (tiN m)), (9, nt (3 + late + ((m : Nat) : Int))), (117, .slice A315 1 cap315)] (by rw [show (rwEvs [tiT] (tiV false late m) (3 + late + ((m : Nat) : Int))) = [Evt.mk 1 1 4] from ((tiV_ev (by omega) (by omega)).trans (if_pos hm310))]; rfl) ?_
   refine Gs [] [(1, nt late), (6, pt b29), (8, nt (tiN m)), (9, nt (3 + late + ((m : Nat) : Int))), (10, .slice A315 1 cap315)] ?_
   refine GI_end ?_
   refine X_then ?_
   refine Vr ?_
   refine Os 1 [(1, nt late), (6, pt b29), (8, nt (tiN m)), (9, nt (3 + late + ((m : Nat) : Int))), (10, .slice A315 1 cap315), (11, nt 0)] ?_
   refine Oe ?_
   refine V_block ?_
   refine V_pick [(1, nt late), (6, pt b29), (8, nt (tiN m)), (9, nt (3 + late + ((m : Nat) : Int))), (10, .slice A315 1 cap315), (11, nt 0)] rfl ?_
   refine V_loop (fun k wI e => ∃ i2 : Nat, ∃ c2 : Int, (k + i2 = 1) ∧ (c2 = tiN m + ((i2 : Nat) : Int)) ∧ Keep none_ w313 wI ∧ e = [(1, nt late), (6, pt b29), (8, nt c2), (9, nt (3 + late + ((m : Nat) : Int))), (10, .slice A315 1 cap315), (11, nt ((i2 : Nat) : Int))]) 1 ⟨0, tiN m, rfl, by omega, Keep.refl _ _, rfl⟩ ?_
   rintro k334 w333 _ ⟨i2, c2, hki2, hc2, hk335, rfl⟩
   have hsz336 := Keep.size hk335
   replace hbk := hbk.keep hk335 (fun f => f)
   replace hA315 := SlT.keep0 hA315 hk335
   replace hLk := Led.keep hLk hk335 (fun _ _ f => f)
   replace hK0 := Keep.tr hK0 (Keep.ofNone hk335)
   replace ho317 := Rfr.keep ho317 hk335 (fun _ _ f => f)
   replace ho320 := VotT.keep ho320 hk335 (fun _ _ f => f)
   have hzhk335 := Keep.size hk335
   refine V_seq ?_
   refine Vr ?_
   refine Os 4 [(1, nt late), (6, pt b29), (8, nt c2), (9, nt (3 + late + ((m : Nat) : Int))), (10, .slice A315 1 cap315), (11, nt ((i2 : Nat) : Int)), (121, .bool (decide (((i2 : Nat) : Int) < 1)))] ?_
   refine Oe ?_
   refine V_if (((i2 : Nat) : Int) < 1) (by kernel_rfl) (fun hc337 => ?_) (fun hc337 => ?_)
   ·
    obtain rfl : i2 = 0 := by omega
    refine V_skip ?_
    refine X_then ?_
    refine V_seq ?_
    refine V_block ?_
    refine V_seq ?_
    refine Vr ?_
    refine Os 2 [(1, nt late), (6, pt b29), (8, nt c2), (9, nt (3 + late + ((m : Nat) : Int))), (10, .slice A315 1 cap315), (11, nt ((0 : Nat) : Int)), (124, .slice A315 1 cap315), (125, nt ((0 : Nat) : Int))] ?_
    obtain ⟨b338, o338, L338, T338, rfl, hat338⟩ := SlT.open_ hA315 (by first | omega | (simp only [List.length_map]; omega) | (simp; done) | (simp; omega))
    have hb338lt := hat338.blk.lt
    have hob339 := ow315 b338 ⟨_, rfl, rfl⟩
    have hob340 := ltA315 b338 ⟨_, rfl, rfl⟩
    have hne341 : ∀ q, Gk q → q ≠ b338 := fun q hq hs => (fun q h1 h2 => dis332 q h2 h1) q hq ⟨_, rfl, hs⟩
    have own342 := fun q hq => And.intro (hGko q hq) (hne341 q hq)
    have hne343 : ∀ q, F316 q → q ≠ b338 := fun q hq hs => (fun q h1 h2 => dA323 q h2 h1) q hq ⟨_, rfl, hs⟩
    have own344 := fun q hq => And.intro (own327 q hq) (hne343 q hq)
    have hne345 : ∀ q, F319 q → q ≠ b338 := fun q hq hs => (fun q h1 h2 => dA324 q h2 h1) q hq ⟨_, rfl, hs⟩
    have own346 := fun q hq => And.intro (own330 q hq) (hne345 q hq)
    refine OI_pure (some 126) (.indexAddr 50 (.tmp 124) (.tmp 125)) (by kernel_rfl) (pure_idxN (b := b338) (o := o338) (len := 1) (cap := cap315) (kd := .i64) (j := 0) (E := 53) (sz := 3) (by_ := 24) (by kernel_rfl) (by kernel_rfl) (by kernel_rfl) (by omega)) ?_
    refine Oa 53 (.tmp 126) (o338 + 0 * 3) (Evt.cells (Evt.mk 1 1 4)) (some 127) 3 hat338.blk (At.elem' hat338 (es_at (rfl : ([Evt.mk 1 1 4] : List Evt)[0]? = some (Evt.mk 1 1 4)))) (At.len hat338 (es_at (rfl : ([Evt.mk 1 1 4] : List Evt)[0]? = some (Evt.mk 1 1 4)))) ?_
    refine Os 5 [(1, nt late), (6, pt b29), (8, nt c2), (9, nt (3 + late + ((m : Nat) : Int))), (10, .slice (some ⟨b338, o338, none⟩) 1 cap315), (11, nt ((0 : Nat) : Int)), (127, .agg (Evt.cells (Evt.mk 1 1 4)).toArray), (128, .agg (Evt.cells (Evt.mk 1 1 4)).toArray)] ?_
    refine OI_pure (some 129) ((Op.binOp BinOp.neq 53 (Operand.tmp 127) (Operand.tmp 128) 53)) (by kernel_rfl) (pure_neq_same (xs := Evt.cells (Evt.mk 1 1 4)) (by kernel_rfl) (by kernel_rfl) (by kernel_rfl) (by kernel_rfl)) ?_
    have hw347 : IntKind.i64.wrap (2 + late) = 2 + late := (wrap64_id (by omega) (by omega)).trans (by omega)
    refine Os 10 [(1, nt late), (6, pt b29), (8, nt c2), (9, nt (3 + late + ((m : Nat) : Int))), (10, .slice (some ⟨b338, o338, none⟩) 1 cap315), (11, nt ((0 : Nat) : Int)), (130, .bool false), (131, nt (3 + late + ((m : Nat) : Int))), (132, nt late), (133, nt (IntKind.i64.wrap (2 + late)))] ?_
    refine OI_eq [(1, nt late), (6, pt b29), (8, nt c2), (9, nt (3 + late + ((m : Nat) : Int))), (10, .slice (some ⟨b338, o338, none⟩) 1 cap315), (11, nt ((0 : Nat) : Int)), (130, .bool false), (131, nt (3 + late + ((m : Nat) : Int))), (132, nt late), (133, nt (2 + late))] (by rw [hw347]) ?_
    have hw348 : IntKind.i64.wrap ((2 + late) + 30) = (2 + late) + 30 := (wrap64_id (by omega) (by omega)).trans (by omega)
    refine Os 11 [(1, nt late), (6, pt b29), (8, nt c2), (9, nt (3 + late + ((m : Nat) : Int))), (10, .slice (some ⟨b338, o338, none⟩) 1 cap315), (11, nt ((0 : Nat) : Int)), (130, .bool false), (131, nt (3 + late + ((m : Nat) : Int))), (132, nt late), (133, nt (2 + late)), (134, nt (IntKind.i64.wrap ((2 + late) + 30)))] ?_
    refine OI_eq [(1, nt late), (6, pt b29), (8, nt c2), (9, nt (3 + late + ((m : Nat) : Int))), (10, .slice (some ⟨b338, o338, none⟩) 1 cap315), (11, nt ((0 : Nat) : Int)), (130, .bool false), (131, nt (3 + late + ((m : Nat) : Int))), (132, nt late), (133, nt (2 + late)), (134, nt ((2 + late) + 30))] (by rw [hw348]) ?_
    refine Os 13 [(1, nt late), (6, pt b29), (8, nt c2), (9, nt (3 + late + ((m : Nat) : Int))), (10, .slice (some ⟨b338, o338, none⟩) 1 cap315), (11, nt ((0 : Nat) : Int)), (131, nt (3 + late + ((m : Nat) : Int))), (132, nt late), (133, nt (2 + late)), (134, nt ((2 + late) + 30)), (135, .bool (!(decide ((3 + late + ((m : Nat) : Int)) = (2 + late) + 30)))), (136, .bool (!(decide ((3 + late + ((m : Nat) : Int)) = (2 + late) + 30))))] ?_
    refine Oe ?_
    refine V_eq [(1, nt late), (6, pt b29), (8, nt c2), (9, nt (3 + late + ((m : Nat) : Int))), (10, .slice (some ⟨b338, o338, none⟩) 1 cap315), (11, nt ((0 : Nat) : Int)), (131, nt (3 + late + ((m : Nat) : Int))), (132, nt late), (133, nt (2 + late)), (134, nt ((2 + late) + 30)), (135, .bool (!(decide ((3 + late + ((m : Nat) : Int)) = (2 + late) + 30)))), (136, .bool false)] (by rw [decide_eq_true (show ((3 + late + ((m : Nat) : Int)) = (2 + late) + 30) from (by omega))]; rfl) ?_
    refine V_false rfl ?_
    refine V_skip ?_
    refine X_then ?_
    refine V_region ?_
    have hw350 : IntKind.i64.wrap (c2 + 1) = c2 + 1 := (wrap64_id (by omega) (by omega)).trans (by omega)
    refine Os 2 [(1, nt late), (6, pt b29), (9, nt (3 + late + ((m : Nat) : Int))), (10, .slice (some ⟨b338, o338, none⟩) 1 cap315), (11, nt ((0 : Nat) : Int)), (131, nt (3 + late + ((m : Nat) : Int))), (132, nt late), (133, nt (2 + late)), (134, nt ((2 + late) + 30)), (135, .bool (!(decide ((3 + late + ((m : Nat) : Int)) = (2 + late) + 30)))), (138, nt (IntKind.i64.wrap (c2 + 1)))] ?_
    refine OI_eq [(1, nt late), (6, pt b29), (9, nt (3 + late + ((m : Nat) : Int))), (10, .slice (some ⟨b338, o338, none⟩) 1 cap315), (11, nt ((0 : Nat) : Int)), (131, nt (3 + late + ((m : Nat) : Int))), (132, nt late), (133, nt (2 + late)), (134, nt ((2 + late) + 30)), (135, .bool (!(decide ((3 + late + ((m : Nat) : Int)) = (2 + late) + 30)))), (138, nt (c2 + 1))] (by rw [hw350]) ?_
    refine Os 3 [(1, nt late), (6, pt b29), (8, nt (c2 + 1)), (9, nt (3 + late + ((m : Nat) : Int))), (10, .slice (some ⟨b338, o338, none⟩) 1 cap315), (11, nt ((0 : Nat) : Int)), (131, nt (3 + late + ((m : Nat) : Int))), (132, nt late), (133, nt (2 + late)), (134, nt ((2 + late) + 30)), (135, .bool (!(decide ((3 + late + ((m : Nat) : Int)) = (2 + late) + 30))))] ?_
    refine OI_end rfl ?_
    refine X_block ?_
    refine X_then ?_
    refine V_region ?_
    have hw351 : IntKind.i64.wrap (((0 : Nat) : Int) + 1) = ((0 + 1 : Nat) : Int) := (wrap64_id (by omega) (by omega)).trans (by omega)
    refine Os 2 [(1, nt late), (6, pt b29), (8, nt (c2 + 1)), (9, nt (3 + late + ((m : Nat) : Int))), (10, .slice (some ⟨b338, o338, none⟩) 1 cap315), (123, nt (IntKind.i64.wrap (((0 : Nat) : Int) + 1))), (131, nt (3 + late + ((m : Nat) : Int))), (132, nt late), (133, nt (2 + late)), (134, nt ((2 + late) + 30)), (135, .bool (!(decide ((3 + late + ((m : Nat) : Int)) = (2 + late) + 30))))] ?_
    refine OI_eq [(1, nt late), (6, pt b29), (8, nt (c2 + 1)), (9, nt (3 + late + ((m : Nat) : Int))), (10, .slice (some ⟨b338, o338, none⟩) 1 cap315), (123, nt ((0 + 1 : Nat) : Int)), (131, nt (3 + late + ((m : Nat) : Int))), (132, nt late), (133, nt (2 + late)), (134, nt ((2 + late) + 30)), (135, .bool (!(decide ((3 + late + ((m : Nat) : Int)) = (2 + late) + 30))))] (by rw [hw351]) ?_
    refine Os 3 [(1, nt late), (6, pt b29), (8, nt (c2 + 1)), (9, nt (3 + late + ((m : Nat) : Int))), (10, .slice (some ⟨b338, o338, none⟩) 1 cap315), (11, nt ((0 + 1 : Nat) : Int)), (131, nt (3 + late + ((m : Nat) : Int))), (132, nt late), (133, nt (2 + late)), (134, nt ((2 + late) + 30)), (135, .bool (!(decide ((3 + late + ((m : Nat) : Int)) = (2 + late) + 30))))] ?_
    refine OI_end rfl ?_
    exact V_again (k334 - 1) (by omega) [(1, nt late), (6, pt b29), (8, nt (c2 + 1)), (9, nt (3 + late + ((m : Nat) : Int))), (10, .slice (some ⟨b338, o338, none⟩) 1 cap315), (11, nt ((0 + 1 : Nat) : Int))] rfl ⟨0 + 1, c2 + 1, by omega, by omega, hk335, rfl⟩
   have hi2 : i2 = 1 := by omega
   rw [hi2] at hc2
   refine V_exit ?_
   refine X_exit_then ?_
   refine X_exit_then ?_
   refine X_exit_here ?_
   refine X_block ?_
   refine X_then ?_
   refine V_region ?_
   have hw352 : IntKind.i64.wrap ((3 + late + ((m : Nat) : Int)) + 1) = (3 + late + ((m : Nat) : Int)) + 1 := (wrap64_id (by omega) (by omega)).trans (by omega)
   refine Os 2 [(1, nt late), (6, pt b29), (8, nt c2), (103, nt (IntKind.i64.wrap ((3 + late + ((m : Nat) : Int)) + 1)))] ?_
   refine OI_eq [(1, nt late), (6, pt b29), (8, nt c2), (103, nt ((3 + late + ((m : Nat) : Int)) + 1))] (by rw [hw352]) ?_
   refine Os 3 [(1, nt late), (6, pt b29), (8, nt c2), (9, nt ((3 + late + ((m : Nat) : Int)) + 1))] ?_
   refine OI_end rfl ?_
   exact V_again (k301 - 1) (by omega) [(1, nt late), (6, pt b29), (8, nt c2), (9, nt ((3 + late + ((m : Nat) : Int)) + 1))] rfl ⟨m + 1, (3 + late + ((m : Nat) : Int)) + 1, c2, F316, F319, Gk, by omega, by omega, by rw [tiN_yes hm310, hc2]; omega, hbk, ho317, ho320, hLk, (fun q hq => by have h1 := own327 q hq; have h2 := lt326 q hq; omega), (fun q hq => by have h1 := own330 q hq; have h2 := lt329 q hq; omega), (fun q hq => by have h1 := hGko q hq; have h2 := ltGk q hq; omega), hdis322, dis328, dis331, hK0, rfl⟩
  refine Gk0 { callee := (Callee.value (Operand.func 22)), args := #[(Operand.tmp 107), (Operand.tmp 111), (Operand.tmp 115), (Operand.tmp 116)], argTypes := #[34, 32, 33, 3] } 22 #[pt r30, pt l33, pt v32, nt (3 + late + ((m : Nat) : Int))] (some 117) (service_spec Hk r30 gg31 [tiT] (tiV false late m).rs Fk v32 (tiV false late m).s Gk l33 (tiV false late m).xs (tiV false late m).cs (3 + late + ((m : Nat) : Int)) _ hRk hVk hLk dkHF dkHG dkFG) ?_
  rintro _ w355 ⟨A357, cap357, rfl, hA357, ow357, ⟨F358, F361, ho359, ho362, hfr360, hfr363, hdis364, dA365, dA366⟩, hk356⟩
  refine ⟨_, rfl, ?_⟩
  have hsz367 := Keep.size hk356
  replace hbk := hbk.keep hk356 (fun hs => by rcases hs with hs | hs; (have u9 : _ = gg31 := hs; have u0 := hHko _ (Rfr.atg hRk); have u1 := ltHk _ (Rfr.atg hRk); omega); (have u0 := hFko _ hs; have u1 := ltFk _ hs; omega))
  replace hLk := Led.keep hLk hk356 (fun q hq hs => by rcases hs with hs | hs; exact (fun q h1 h2 => dkHG q h2 h1) q hq (by rw [show q = gg31 from hs]; exact (Rfr.atg hRk)); exact (fun q h1 h2 => dkFG q h2 h1) q hq hs)
  replace hK0 := Keep.fresh hK0 hk356 (by intro i hi hs; first | exact hs | (rcases hs with hs | hs; (have u9 : _ = gg31 := hs; have u0 := hHko _ (Rfr.atg hRk); have u1 := ltHk _ (Rfr.atg hRk); omega); (have u0 := hFko i hs; have u1 := ltFk i hs; omega)))
  have own369 : ∀ q, F358 q → w.heap.size ≤ q ∧ q ≠ b29 := fun q hq => by rcases hfr360 q hq with h | h; (have h1 := hHko q h; have h2 := ltHk q h; omega); omega
  have lt368 := Rfr.lt ho359
  have dis370 : ∀ q, F358 q → ¬ Gk q := fun q h1 h2 => by rcases hfr360 q h1 with h | h; exact dkHG q h h2; (have h4 := ltGk q h2; omega)
  have own372 : ∀ q, F361 q → w.heap.size ≤ q ∧ q ≠ b29 := fun q hq => by rcases hfr363 q hq with h | h; (have h1 := hFko q h; have h2 := ltFk q h; omega); omega
  have lt371 := VotT.lt ho362
  have dis373 : ∀ q, F361 q → ¬ Gk q := fun q h1 h2 => by rcases hfr363 q h1 with h | h; exact dkFG q h h2; (have h4 := ltGk q h2; omega)
  have ltA357 := SlT.lt hA357
  have dis374 : ∀ q, inA A357 q → ¬ Gk q := fun q h1 h2 => by have h3 := ow357 q h1; have h4 := ltGk q h2; omega
  replace hA357 := SlT.ofE (xs := (rwEvs [tiT] (tiV false late m) (3 + late + ((m : Nat) : Int)))) hA357 (show _ = ([] : List Evt) from ((tiV_ev (by omega) (by omega)).trans (if_neg hm310)))
  replace ho359 : Rfr F358 w355 r30 gg31 [tiT] (tiV false late (m + 1)).rs := ho359
  replace ho362 : VotT F361 w355 v32 ((tiV false late (m + 1)).s) := ho362
  replace hLk : Led Gk w355 l33 (tiV false late (m + 1)).xs (tiV false late (m + 1)).cs := hLk
  refine Gp_ [(1, nt late), (6, pt b29), (8, nt (tiN m)), (9, nt (3 + late + ((m : Nat) : Int))), (117, .slice A357 ((rwEvs [tiT] (tiV false late m) (3 + late + ((m : Nat) : Int))).length) cap357)] ?_
  refine GI_eq [(1, nt late), (6, pt b29), (8, nt (tiN m)), (9, nt (3 + late + ((m : Nat) : Int))), (117, .slice A357 0 cap357)] (by rw [show (rwEvs [tiT] (tiV false late m) (3 + late + ((m : Nat) : Int))) = ([] : List Evt) from ((tiV_ev (by omega) (by omega)).trans (if_neg hm310))]; rfl) ?_
  refine Gs [] [(1, nt late), (6, pt b29), (8, nt (tiN m)), (9, nt (3 + late + ((m : Nat) : Int))), (10, .slice A357 0 cap357)] ?_
  refine GI_end ?_
  refine X_then ?_
  refine Vr ?_
  refine Os 1 [(1, nt late), (6, pt b29), (8, nt (tiN m)), (9, nt (3 + late + ((m : Nat) : Int))), (10, .slice A357 0 cap357), (11, nt 0)] ?_
  refine Oe ?_
  refine V_block ?_
  refine V_pick [(1, nt late), (6, pt b29), (8, nt (tiN m)), (9, nt (3 + late + ((m : Nat) : Int))), (10, .slice A357 0 cap357), (11, nt 0)] rfl ?_
  refine V_loop (fun k wI e => ∃ i2 : Nat, ∃ c2 : Int, (k + i2 = 0) ∧ (c2 = tiN m + ((i2 : Nat) : Int)) ∧ Keep none_ w355 wI ∧ e = [(1, nt late), (6, pt b29), (8, nt c2), (9, nt (3 + late + ((m : Nat) : Int))), (10, .slice A357 0 cap357), (11, nt ((i2 : Nat) : Int))]) 0 ⟨0, tiN m, rfl, by omega, Keep.refl _ _, rfl⟩ ?_
  rintro k376 w375 _ ⟨i2, c2, hki2, hc2, hk377, rfl⟩
  have hsz378 := Keep.size hk377
  replace hbk := hbk.keep hk377 (fun f => f)
  replace hA357 := SlT.keep0 hA357 hk377
  replace hLk := Led.keep hLk hk377 (fun _ _ f => f)
  replace hK0 := Keep.tr hK0 (Keep.ofNone hk377)
  replace ho359 := Rfr.keep ho359 hk377 (fun _ _ f => f)
  replace ho362 := VotT.keep ho362 hk377 (fun _ _ f => f)
  have hzhk377 := Keep.size hk377
  refine V_seq ?_
  refine Vr ?_
  refine Os 4 [(1, nt late), (6, pt b29), (8, nt c2), (9, nt (3 + late + ((m : Nat) : Int))), (10, .slice A357 0 cap357), (11, nt ((i2 : Nat) : Int)), (121, .bool (decide (((i2 : Nat) : Int) < 0)))] ?_
  refine Oe ?_
  refine V_if (((i2 : Nat) : Int) < 0) (by kernel_rfl) (fun hc379 => ?_) (fun hc379 => ?_)
  ·
   exact (by omega : False).elim
  have hi2 : i2 = 0 := by omega
  rw [hi2] at hc2
  refine V_exit ?_
  refine X_exit_then ?_
  refine X_exit_then ?_
  refine X_exit_here ?_
  refine X_block ?_
  refine X_then ?_
  refine V_region ?_
  have hw380 : IntKind.i64.wrap ((3 + late + ((m : Nat) : Int)) + 1) = (3 + late + ((m : Nat) : Int)) + 1 := (wrap64_id (by omega) (by omega)).trans (by omega)
  refine Os 2 [(1, nt late), (6, pt b29), (8, nt c2), (103, nt (IntKind.i64.wrap ((3 + late + ((m : Nat) : Int)) + 1)))] ?_
  refine OI_eq [(1, nt late), (6, pt b29), (8, nt c2), (103, nt ((3 + late + ((m : Nat) : Int)) + 1))] (by rw [hw380]) ?_
  refine Os 3 [(1, nt late), (6, pt b29), (8, nt c2), (9, nt ((3 + late + ((m : Nat) : Int)) + 1))] ?_
  refine OI_end rfl ?_
  exact V_again (k301 - 1) (by omega) [(1, nt late), (6, pt b29), (8, nt c2), (9, nt ((3 + late + ((m : Nat) : Int)) + 1))] rfl ⟨m + 1, (3 + late + ((m : Nat) : Int)) + 1, c2, F358, F361, Gk, by omega, by omega, by rw [tiN_no hm310, hc2]; omega, hbk, ho359, ho362, hLk, (fun q hq => by have h1 := own369 q hq; have h2 := lt368 q hq; omega), (fun q hq => by have h1 := own372 q hq; have h2 := lt371 q hq; omega), (fun q hq => by have h1 := hGko q hq; have h2 := ltGk q hq; omega), hdis364, dis370, dis373, hK0, rfl⟩
 obtain ⟨ht1, ht2, ht3, ht4⟩ := ti_fin (bk := false) (late := late) (m := m) (by omega) (by omega)
 refine V_exit ?_
 refine X_exit_then ?_
 refine X_exit_then ?_
 refine X_exit_here ?_
 refine X_then ?_
 refine Vr ?_
 refine Os 3 [(8, nt (tiN m)), (142, .pointer (some ⟨b29, 2, none⟩))] ?_
 refine Oc 34 (.tmp 142) 2 (pt r30) (some 143) hbk rfl ?_
 refine Ok { callee := (Callee.value (Operand.func 23)), args := #[(Operand.tmp 143), (Operand.const (Value.int IntKind.i64 0))], argTypes := #[34, 3] } 23 #[pt r30, nt 0] (some 144) (rget_spec Hk r30 gg31 [tiT] (tiV false late m).rs 0 _ hRk) ?_
 rintro _ w381 ⟨rfl, hk382⟩
 refine ⟨_, rfl, ?_⟩
 have hsz383 := Keep.size hk382
 replace hRk := Rfr.keep hRk hk382 (fun _ _ f => f)
 replace hVk := VotT.keep hVk hk382 (fun _ _ f => f)
 replace hLk := Led.keep hLk hk382 (fun _ _ f => f)
 replace hK0 := Keep.tr hK0 (Keep.ofNone hk382)
 refine Os 8 [(8, nt (tiN m)), (145, .agg (Rfm.cells (getA (tiV false late m).rs 0)).toArray), (146, .bool ((getR (tiV false late m).rs 0).isSome))] ?_
 refine OI_alloc 57 (.agg (Rfm.cells Rfm.zero).toArray) (Rfm.cells Rfm.zero) (some 12) (by kernel_rfl) (by kernel_rfl) (by kernel_rfl) ?_
 intro b384 w384 e384 hb384 k384 z384
 have hsz385 := Keep.size k384
 replace hRk := Rfr.keep hRk k384 (fun _ _ f => f)
 replace hVk := VotT.keep hVk k384 (fun _ _ f => f)
 replace hLk := Led.keep hLk k384 (fun _ _ f => f)
 replace hK0 := Keep.tr hK0 (Keep.ofNone k384)
 have hb384lt := hb384.lt
 refine OI_set (m := 45) (kd := true) 57 (.tmp 12) (.tmp 145) 0 (.agg (Rfm.cells (getA (tiV false late m).rs 0)).toArray) (Rfm.cells (getA (tiV false late m).rs 0)) none (by kernel_rfl) (by kernel_rfl) (by kernel_rfl) hb384 (by kernel_rfl) rfl (Rfm.len _) (Nat.le_of_ble_eq_true (by kernel_rfl)) (Rfm.one _) ?_
 intro w386 hb384_389 hk387 hz388
 replace hb384_389 : Blk w386 b384 (Rfm.cells (getA (tiV false late m).rs 0)) 57 := (Blk.eqL (Rfm.over _ _) hb384_389)
 have hsz390 := Keep.size hk387
 replace hRk := Rfr.keep hRk hk387 (fun q hq hs => by have hs : q = b384 := hs; have g0 := hHko q hq; have g1 := ltHk q hq; omega)
 replace hVk := VotT.keep hVk hk387 (fun q hq hs => by have hs : q = b384 := hs; have g0 := hFko q hq; have g1 := ltFk q hq; omega)
 replace hLk := Led.keep hLk hk387 (fun q hq hs => by have hs : q = b384 := hs; have g0 := hGko q hq; have g1 := ltGk q hq; omega)
 replace hK0 := Keep.fresh hK0 hk387 (by intro i hi hs; first | exact hs | exact Or.inl hs | exact Or.inr hs | (exfalso; have hs2 : i = b384 := hs; omega))
 refine Os 11 [(8, nt (tiN m)), (12, pt b384), (13, .bool ((getR (tiV false late m).rs 0).isSome))] ?_
 refine Oer ?_
 refine Os 3 [(12, pt b384), (13, .bool ((getR (tiV false late m).rs 0).isSome)), (149, .bool (decide ((tiN m) = 1)))] ?_
 refine OI_eq [(12, pt b384), (13, .bool ((getR (tiV false late m).rs 0).isSome)), (149, .bool true)] (by rw [decide_eq_true (show ((tiN m) = 1) from ht4)]) ?_
 refine Os 6 [(12, pt b384), (152, .bool ((getR (tiV false late m).rs 0).isSome))] ?_
 refine OI_eq [(12, pt b384), (152, .bool true)] (by rw [show ((getR (tiV false late m).rs 0).isSome) = true from ht1]) ?_
 refine Os 7 [(12, pt b384), (152, .bool true), (153, pt b384)] ?_
 refine Oc 3 (.tmp 153) 0 (nt ((getA (tiV false late m).rs 0).state)) (some 154) hb384_389 rfl ?_
 refine Os 11 [(12, pt b384), (157, .bool (decide ((getA (tiV false late m).rs 0).state = 1)))] ?_
 refine OI_eq [(12, pt b384), (157, .bool true)] (by rw [decide_eq_true (show ((getA (tiV false late m).rs 0).state = 1) from ht2)]) ?_
 refine Os 12 [(157, .bool true), (158, .pointer (some ⟨b384, 39, none⟩))] ?_
 refine Oc 3 (.tmp 158) 39 (nt ((getA (tiV false late m).rs 0).since)) (some 159) hb384_389 rfl ?_
 refine Os 16 [(162, .bool (decide ((getA (tiV false late m).rs 0).since = 2)))] ?_
 refine OI_eq [(162, .bool true)] (by rw [decide_eq_true (show ((getA (tiV false late m).rs 0).since = 2) from ht3)]) ?_
 refine Ok { callee := (Callee.value (Operand.func 18)), args := #[], argTypes := #[] } 18 #[] (some 163) (known_spec _) ?_
 rintro _ w395 ⟨rfl, hk396⟩
 refine ⟨_, rfl, ?_⟩
 have hsz397 := Keep.size hk396
 replace hb384_389 := hb384_389.keep hk396 (fun f => f)
 replace hRk := Rfr.keep hRk hk396 (fun _ _ f => f)
 replace hVk := VotT.keep hVk hk396 (fun _ _ f => f)
 replace hLk := Led.keep hLk hk396 (fun _ _ f => f)
 replace hK0 := Keep.tr hK0 (Keep.ofNone hk396)
 refine Os 19 [(4, .bool true)] ?_
 refine Oe ?_
 refine V_ret ?_
 exact X_return (.bool true) rfl ⟨rfl, hK0⟩
end Go.Al

