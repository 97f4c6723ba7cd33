/-
  Put together out of 6 texts: Walks of the laws of refer: New. Walks of the laws of refer: the document's answers. Walks of the laws of refer: a beginning. Walks of the laws of refer: states; one that nobody backs. The laws of refer: it is backed once. Walks of the laws of refer: it is backed once.
-/
import Derived.Test.YtjjfimbihdoknaaGreatReferBacksB4
namespace Go.Al
open Go Go.RowKit Go.Proofs
set_option maxRecDepth 10000 in
theorem r4In_spec (n lo hi : Int) (w : World) : Calls Tryz.prog 168 #[.int .i64 n, .int .i64 lo, .int .i64 hi] w fun e w' => e = .returned (.bool (decide (lo ≤ n ∧ n ≤ hi))) ∧ w' = w := by
 refine enterV Tryz.func168 rfl [nt n, nt lo, nt hi] 15 rfl rfl rfl ?_
 refine V_pick [(0, nt n), (1, nt lo), (2, nt hi)] rfl ?_
 refine Vr ?_
 refine Os 1 [(0, nt n), (1, nt lo), (2, nt hi)] ?_
 refine Oer ?_
 refine Os 4 [(0, nt n), (2, nt hi), (10, .bool (decide (n ≥ lo)))] ?_
 by_cases hg1 : n ≥ lo
 ·
  refine OI_eq [(0, nt n), (2, nt hi), (10, .bool true)] (by first | simp [hg1] | rfl) ?_
  refine Os 9 [(6, .bool (decide (n ≤ hi)))] ?_
  refine Oe ?_
  refine V_ret ?_
  exact X_return (.bool (decide (n ≤ hi))) rfl ⟨by congr 2; simp only [Bool.decide_and]; by_cases h1 : lo ≤ n <;> simp [h1] <;> omega, rfl⟩
 refine OI_eq [(0, nt n), (2, nt hi), (10, .bool false)] (by first | simp [hg1] | rfl) ?_
 refine Os 9 [(6, .bool false)] ?_
 refine Oe ?_
 refine V_ret ?_
 exact X_return (.bool false) rfl ⟨by congr 2; simp only [Bool.decide_and]; by_cases h1 : lo ≤ n <;> simp [h1] <;> omega, rfl⟩

set_option maxRecDepth 10000 in
theorem r10In_spec (n lo hi : Int) (w : World) : Calls Tryz.prog 118 #[.int .i64 n, .int .i64 lo, .int .i64 hi] w fun e w' => e = .returned (.bool (decide (lo ≤ n ∧ n ≤ hi))) ∧ w' = w := by
 refine enterV Tryz.func118 rfl [nt n, nt lo, nt hi] 15 rfl rfl rfl ?_
 refine V_pick [(0, nt n), (1, nt lo), (2, nt hi)] rfl ?_
 refine Vr ?_
 refine Os 1 [(0, nt n), (1, nt lo), (2, nt hi)] ?_
 refine Oer ?_
 refine Os 4 [(0, nt n), (2, nt hi), (10, .bool (decide (n ≥ lo)))] ?_
 by_cases hg1 : n ≥ lo
 ·
  refine OI_eq [(0, nt n), (2, nt hi), (10, .bool true)] (by first | simp [hg1] | rfl) ?_
  refine Os 9 [(6, .bool (decide (n ≤ hi)))] ?_
  refine Oe ?_
  refine V_ret ?_
  exact X_return (.bool (decide (n ≤ hi))) rfl ⟨by congr 2; simp only [Bool.decide_and]; by_cases h1 : lo ≤ n <;> simp [h1] <;> omega, rfl⟩
 refine OI_eq [(0, nt n), (2, nt hi), (10, .bool false)] (by first | simp [hg1] | rfl) ?_
 refine Os 9 [(6, .bool false)] ?_
 refine Oe ?_
 refine V_ret ?_
 exact X_return (.bool false) rfl ⟨by congr 2; simp only [Bool.decide_and]; by_cases h1 : lo ≤ n <;> simp [h1] <;> omega, rfl⟩

set_option maxRecDepth 10000 in
theorem r4Is_spec (c : Crv) (w : World) : Calls Tryz.prog 119 #[.agg c.cells.toArray] w fun e w' => e = .returned (.bool (decide (okCrv c))) ∧ Keep none_ w w' := by
 have hK0 : Keep none_ w w := Keep.refl _ _
 have hzhK0 := Keep.size hK0
 refine enterV Tryz.func119 rfl [.agg (Crv.cells c).toArray] 69 rfl rfl rfl ?_
 refine V_pick [(0, .agg (Crv.cells c).toArray)] rfl ?_
 refine Vr ?_
 refine OI_box 25 (.tmp 0) (.agg (Crv.cells c).toArray) (Crv.cells c) (some 1) (by kernel_rfl) (by kernel_rfl) rfl ?_
 intro b1 w1 e1 hb1 k1 z1
 have hsz2 := Keep.size k1
 replace hK0 := Keep.tr hK0 (Keep.ofNone k1)
 have hb1lt := hb1.lt
 refine Os 2 [(1, pt b1)] ?_
 refine Oe ?_
 refine V_seq ?_
 refine Vr ?_
 refine Os 1 [(1, pt b1), (3, pt b1)] ?_
 refine Oc 3 (.tmp 3) 0 (nt c.k) (some 4) hb1 rfl ?_
 refine Oe ?_
 refine V_block ?_
 refine Vr ?_
 refine Os 2 [(1, pt b1), (4, nt c.k), (5, .bool (decide (c.k = 1)))] ?_
 refine Oe ?_
 refine V_if (c.k = 1) (by kernel_rfl) (fun hc3 => ?_) (fun hc3 => ?_)
 ·
  refine Vr ?_
  refine Os 1 [(1, pt b1), (7, .pointer (some ⟨b1, 1, none⟩))] ?_
  refine Oc 3 (.tmp 7) 1 (nt c.a) (some 8) hb1 rfl ?_
  refine Ok { callee := (Callee.value (Operand.func 168)), args := #[(Operand.tmp 8), (Operand.const (Value.int IntKind.i64 0)), (Operand.const (Value.int IntKind.i64 1000000000))], argTypes := #[3, 3, 3] } 168 #[nt c.a, nt 0, nt 1000000000] (some 9) (r4In_spec c.a 0 1000000000 _) ?_
  rintro _ w1 ⟨rfl, rfl⟩
  refine ⟨_, rfl, ?_⟩
  refine Os 4 [(1, pt b1), (10, .bool (decide ((0 : Int) ≤ c.a ∧ c.a ≤ 1000000000)))] ?_
  by_cases hg7 : (0 : Int) ≤ c.a ∧ c.a ≤ 1000000000
  ·
   refine OI_eq [(1, pt b1), (10, .bool true)] (by first | simp [hg7] | rfl) ?_
   refine Os 5 [(1, pt b1), (10, .bool true), (11, .pointer (some ⟨b1, 2, none⟩))] ?_
   refine Oc 3 (.tmp 11) 2 (nt c.b) (some 12) hb1 rfl ?_
   refine Os 7 [(1, pt b1), (10, .bool true), (12, nt c.b), (13, .pointer (some ⟨b1, 1, none⟩))] ?_
   refine Oc 3 (.tmp 13) 1 (nt c.a) (some 14) hb1 rfl ?_
   refine Ok { callee := (Callee.value (Operand.func 168)), args := #[(Operand.tmp 12), (Operand.const (Value.int IntKind.i64 0)), (Operand.tmp 14)], argTypes := #[3, 3, 3] } 168 #[nt c.b, nt 0, nt c.a] (some 15) (r4In_spec c.b 0 c.a _) ?_
   rintro _ w1 ⟨rfl, rfl⟩
   refine ⟨_, rfl, ?_⟩
   refine Os 11 [(1, pt b1), (17, .bool (decide ((0 : Int) ≤ c.b ∧ c.b ≤ c.a)))] ?_
   by_cases hg11 : (0 : Int) ≤ c.b ∧ c.b ≤ c.a
   ·
    refine OI_eq [(1, pt b1), (17, .bool true)] (by first | simp [hg11] | rfl) ?_
    refine Os 12 [(1, pt b1), (17, .bool true), (18, .pointer (some ⟨b1, 3, none⟩))] ?_
    refine Oc 3 (.tmp 18) 3 (nt c.c) (some 19) hb1 rfl ?_
    refine Ok { callee := (Callee.value (Operand.func 168)), args := #[(Operand.tmp 19), (Operand.const (Value.int IntKind.i64 1)), (Operand.const (Value.int IntKind.i64 1000000000))], argTypes := #[3, 3, 3] } 168 #[nt c.c, nt 1, nt 1000000000] (some 20) (r4In_spec c.c 1 1000000000 _) ?_
    rintro _ w1 ⟨rfl, rfl⟩
    refine ⟨_, rfl, ?_⟩
    refine Os 16 [(1, pt b1), (22, .bool (decide ((1 : Int) ≤ c.c ∧ c.c ≤ 1000000000)))] ?_
    by_cases hg15 : (1 : Int) ≤ c.c ∧ c.c ≤ 1000000000
    ·
     refine OI_eq [(1, pt b1), (22, .bool true)] (by first | simp [hg15] | rfl) ?_
     refine Os 17 [(22, .bool true), (23, .pointer (some ⟨b1, 4, none⟩))] ?_
     refine Oc 3 (.tmp 23) 4 (nt c.d) (some 24) hb1 rfl ?_
     refine Os 21 [(2, .bool (decide (c.d = 0)))] ?_
     refine Oe ?_
     refine V_ret ?_
     refine X_ret_block ?_
     refine X_ret_then ?_
     exact X_return (.bool (decide (c.d = 0))) rfl ⟨by congr 2; first | (apply Eq.symm; (try simp only [decide_eq_true_eq]); (try simp only [decide_eq_false_iff_not]); unfold okCrv fallsC; simp_all <;> omega) | (rw [decide_eq_decide]; unfold okCrv fallsC; simp_all <;> omega), hK0⟩
    refine OI_eq [(1, pt b1), (22, .bool false)] (by first | simp [hg15] | rfl) ?_
    refine Os 21 [(2, .bool false)] ?_
    refine Oe ?_
    refine V_ret ?_
    refine X_ret_block ?_
    refine X_ret_then ?_
    exact X_return (.bool false) rfl ⟨by congr 2; first | (apply Eq.symm; (try simp only [decide_eq_true_eq]); (try simp only [decide_eq_false_iff_not]); unfold okCrv fallsC; simp_all <;> omega) | (rw [decide_eq_decide]; unfold okCrv fallsC; simp_all <;> omega), hK0⟩
   refine OI_eq [(1, pt b1), (17, .bool false)] (by first | simp [hg11] | rfl) ?_
   refine Os 21 [(2, .bool false)] ?_
   refine Oe ?_
   refine V_ret ?_
   refine X_ret_block ?_
   refine X_ret_then ?_
   exact X_return (.bool false) rfl ⟨by congr 2; first | (apply Eq.symm; (try simp only [decide_eq_true_eq]); (try simp only [decide_eq_false_iff_not]); unfold okCrv fallsC; simp_all <;> omega) | (rw [decide_eq_decide]; unfold okCrv fallsC; simp_all <;> omega), hK0⟩
  refine OI_eq [(1, pt b1), (10, .bool false)] (by first | simp [hg7] | rfl) ?_
  refine Os 21 [(2, .bool false)] ?_
  refine Oe ?_
  refine V_ret ?_
  refine X_ret_block ?_
  refine X_ret_then ?_
  exact X_return (.bool false) rfl ⟨by congr 2; first | (apply Eq.symm; (try simp only [decide_eq_true_eq]); (try simp only [decide_eq_false_iff_not]); unfold okCrv fallsC; simp_all <;> omega) | (rw [decide_eq_decide]; unfold okCrv fallsC; simp_all <;> omega), hK0⟩
 refine Vr ?_
 refine Os 2 [(1, pt b1), (4, nt c.k), (27, .bool (decide (c.k = 2)))] ?_
 refine Oe ?_
 refine V_if (c.k = 2) (by kernel_rfl) (fun hc16 => ?_) (fun hc16 => ?_)
 ·
  refine Vr ?_
  refine Os 1 [(1, pt b1), (29, .pointer (some ⟨b1, 1, none⟩))] ?_
  refine Oc 3 (.tmp 29) 1 (nt c.a) (some 30) hb1 rfl ?_
  refine Ok { callee := (Callee.value (Operand.func 168)), args := #[(Operand.tmp 30), (Operand.const (Value.int IntKind.i64 0)), (Operand.const (Value.int IntKind.i64 1000000000))], argTypes := #[3, 3, 3] } 168 #[nt c.a, nt 0, nt 1000000000] (some 31) (r4In_spec c.a 0 1000000000 _) ?_
  rintro _ w1 ⟨rfl, rfl⟩
  refine ⟨_, rfl, ?_⟩
  refine Os 4 [(1, pt b1), (32, .bool (decide ((0 : Int) ≤ c.a ∧ c.a ≤ 1000000000)))] ?_
  by_cases hg20 : (0 : Int) ≤ c.a ∧ c.a ≤ 1000000000
  ·
   refine OI_eq [(1, pt b1), (32, .bool true)] (by first | simp [hg20] | rfl) ?_
   refine Os 5 [(1, pt b1), (32, .bool true), (33, .pointer (some ⟨b1, 2, none⟩))] ?_
   refine Oc 3 (.tmp 33) 2 (nt c.b) (some 34) hb1 rfl ?_
   refine Os 7 [(1, pt b1), (32, .bool true), (34, nt c.b), (35, .pointer (some ⟨b1, 1, none⟩))] ?_
   refine Oc 3 (.tmp 35) 1 (nt c.a) (some 36) hb1 rfl ?_
   refine Ok { callee := (Callee.value (Operand.func 168)), args := #[(Operand.tmp 34), (Operand.const (Value.int IntKind.i64 0)), (Operand.tmp 36)], argTypes := #[3, 3, 3] } 168 #[nt c.b, nt 0, nt c.a] (some 37) (r4In_spec c.b 0 c.a _) ?_
   rintro _ w1 ⟨rfl, rfl⟩
   refine ⟨_, rfl, ?_⟩
   refine Os 11 [(1, pt b1), (39, .bool (decide ((0 : Int) ≤ c.b ∧ c.b ≤ c.a)))] ?_
   by_cases hg24 : (0 : Int) ≤ c.b ∧ c.b ≤ c.a
   ·
    refine OI_eq [(1, pt b1), (39, .bool true)] (by first | simp [hg24] | rfl) ?_
    refine Os 12 [(1, pt b1), (39, .bool true), (40, .pointer (some ⟨b1, 3, none⟩))] ?_
    refine Oc 3 (.tmp 40) 3 (nt c.c) (some 41) hb1 rfl ?_
    refine Ok { callee := (Callee.value (Operand.func 168)), args := #[(Operand.tmp 41), (Operand.const (Value.int IntKind.i64 1)), (Operand.const (Value.int IntKind.i64 1000000000))], argTypes := #[3, 3, 3] } 168 #[nt c.c, nt 1, nt 1000000000] (some 42) (r4In_spec c.c 1 1000000000 _) ?_
    rintro _ w1 ⟨rfl, rfl⟩
    refine ⟨_, rfl, ?_⟩
    refine Os 16 [(1, pt b1), (44, .bool (decide ((1 : Int) ≤ c.c ∧ c.c ≤ 1000000000)))] ?_
    by_cases hg28 : (1 : Int) ≤ c.c ∧ c.c ≤ 1000000000
    ·
     refine OI_eq [(1, pt b1), (44, .bool true)] (by first | simp [hg28] | rfl) ?_
     refine Os 17 [(44, .bool true), (45, .pointer (some ⟨b1, 4, none⟩))] ?_
     refine Oc 3 (.tmp 45) 4 (nt c.d) (some 46) hb1 rfl ?_
     refine Ok { callee := (Callee.value (Operand.func 168)), args := #[(Operand.tmp 46), (Operand.const (Value.int IntKind.i64 1)), (Operand.const (Value.int IntKind.i64 1000000000))], argTypes := #[3, 3, 3] } 168 #[nt c.d, nt 1, nt 1000000000] (some 47) (r4In_spec c.d 1 1000000000 _) ?_
     rintro _ w1 ⟨rfl, rfl⟩
     refine ⟨_, rfl, ?_⟩
     refine Os 21 [(2, .bool (decide ((1 : Int) ≤ c.d ∧ c.d ≤ 1000000000)))] ?_
     refine Oe ?_
     refine V_ret ?_
     refine X_ret_block ?_
     refine X_ret_then ?_
     exact X_return (.bool (decide ((1 : Int) ≤ c.d ∧ c.d ≤ 1000000000))) rfl ⟨by congr 2; first | (apply Eq.symm; (try simp only [decide_eq_true_eq]); (try simp only [decide_eq_false_iff_not]); unfold okCrv fallsC; simp_all <;> omega) | (rw [decide_eq_decide]; unfold okCrv fallsC; simp_all <;> omega), hK0⟩
    refine OI_eq [(1, pt b1), (44, .bool false)] (by first | simp [hg28] | rfl) ?_
    refine Os 21 [(2, .bool false)] ?_
    refine Oe ?_
    refine V_ret ?_
    refine X_ret_block ?_
    refine X_ret_then ?_
    exact X_return (.bool false) rfl ⟨by congr 2; first | (apply Eq.symm; (try simp only [decide_eq_true_eq]); (try simp only [decide_eq_false_iff_not]); unfold okCrv fallsC; simp_all <;> omega) | (rw [decide_eq_decide]; unfold okCrv fallsC; simp_all <;> omega), hK0⟩
   refine OI_eq [(1, pt b1), (39, .bool false)] (by first | simp [hg24] | rfl) ?_
   refine Os 21 [(2, .bool false)] ?_
   refine Oe ?_
   refine V_ret ?_
   refine X_ret_block ?_
   refine X_ret_then ?_
   exact X_return (.bool false) rfl ⟨by congr 2; first | (apply Eq.symm; (try simp only [decide_eq_true_eq]); (try simp only [decide_eq_false_iff_not]); unfold okCrv fallsC; simp_all <;> omega) | (rw [decide_eq_decide]; unfold okCrv fallsC; simp_all <;> omega), hK0⟩
  refine OI_eq [(1, pt b1), (32, .bool false)] (by first | simp [hg20] | rfl) ?_
  refine Os 21 [(2, .bool false)] ?_
  refine Oe ?_
  refine V_ret ?_
  refine X_ret_block ?_
  refine X_ret_then ?_
  exact X_return (.bool false) rfl ⟨by congr 2; first | (apply Eq.symm; (try simp only [decide_eq_true_eq]); (try simp only [decide_eq_false_iff_not]); unfold okCrv fallsC; simp_all <;> omega) | (rw [decide_eq_decide]; unfold okCrv fallsC; simp_all <;> omega), hK0⟩
 refine Vr ?_
 refine Os 2 [(1, pt b1), (49, .bool (decide (c.k = 3)))] ?_
 refine Oe ?_
 refine V_if (c.k = 3) (by kernel_rfl) (fun hc32 => ?_) (fun hc32 => ?_)
 ·
  refine Vr ?_
  refine Os 1 [(1, pt b1), (51, .pointer (some ⟨b1, 1, none⟩))] ?_
  refine Oc 3 (.tmp 51) 1 (nt c.a) (some 52) hb1 rfl ?_
  refine Ok { callee := (Callee.value (Operand.func 168)), args := #[(Operand.tmp 52), (Operand.const (Value.int IntKind.i64 0)), (Operand.const (Value.int IntKind.i64 1000000000))], argTypes := #[3, 3, 3] } 168 #[nt c.a, nt 0, nt 1000000000] (some 53) (r4In_spec c.a 0 1000000000 _) ?_
  rintro _ w1 ⟨rfl, rfl⟩
  refine ⟨_, rfl, ?_⟩
  refine Os 4 [(1, pt b1), (54, .bool (decide ((0 : Int) ≤ c.a ∧ c.a ≤ 1000000000)))] ?_
  by_cases hg36 : (0 : Int) ≤ c.a ∧ c.a ≤ 1000000000
  ·
   refine OI_eq [(1, pt b1), (54, .bool true)] (by first | simp [hg36] | rfl) ?_
   refine Os 5 [(1, pt b1), (54, .bool true), (55, .pointer (some ⟨b1, 2, none⟩))] ?_
   refine Oc 3 (.tmp 55) 2 (nt c.b) (some 56) hb1 rfl ?_
   refine Ok { callee := (Callee.value (Operand.func 168)), args := #[(Operand.tmp 56), (Operand.const (Value.int IntKind.i64 1)), (Operand.const (Value.int IntKind.i64 1000000000))], argTypes := #[3, 3, 3] } 168 #[nt c.b, nt 1, nt 1000000000] (some 57) (r4In_spec c.b 1 1000000000 _) ?_
   rintro _ w1 ⟨rfl, rfl⟩
   refine ⟨_, rfl, ?_⟩
   refine Os 9 [(1, pt b1), (59, .bool (decide ((1 : Int) ≤ c.b ∧ c.b ≤ 1000000000)))] ?_
   by_cases hg40 : (1 : Int) ≤ c.b ∧ c.b ≤ 1000000000
   ·
    refine OI_eq [(1, pt b1), (59, .bool true)] (by first | simp [hg40] | rfl) ?_
    refine Os 10 [(1, pt b1), (59, .bool true), (60, .pointer (some ⟨b1, 3, none⟩))] ?_
    refine Oc 3 (.tmp 60) 3 (nt c.c) (some 61) hb1 rfl ?_
    refine Ok { callee := (Callee.value (Operand.func 168)), args := #[(Operand.tmp 61), (Operand.const (Value.int IntKind.i64 0)), (Operand.const (Value.int IntKind.i64 1000000000))], argTypes := #[3, 3, 3] } 168 #[nt c.c, nt 0, nt 1000000000] (some 62) (r4In_spec c.c 0 1000000000 _) ?_
    rintro _ w1 ⟨rfl, rfl⟩
    refine ⟨_, rfl, ?_⟩
    refine Os 14 [(1, pt b1), (64, .bool (decide ((0 : Int) ≤ c.c ∧ c.c ≤ 1000000000)))] ?_
    by_cases hg44 : (0 : Int) ≤ c.c ∧ c.c ≤ 1000000000
    ·
     refine OI_eq [(1, pt b1), (64, .bool true)] (by first | simp [hg44] | rfl) ?_
     refine Os 15 [(64, .bool true), (65, .pointer (some ⟨b1, 4, none⟩))] ?_
     refine Oc 3 (.tmp 65) 4 (nt c.d) (some 66) hb1 rfl ?_
     refine Os 19 [(2, .bool (decide (c.d = 0)))] ?_
     refine Oe ?_
     refine V_ret ?_
     refine X_ret_block ?_
     refine X_ret_then ?_
     exact X_return (.bool (decide (c.d = 0))) rfl ⟨by congr 2; first | (apply Eq.symm; (try simp only [decide_eq_true_eq]); (try simp only [decide_eq_false_iff_not]); unfold okCrv fallsC; simp_all <;> omega) | (rw [decide_eq_decide]; unfold okCrv fallsC; simp_all <;> omega), hK0⟩
    refine OI_eq [(1, pt b1), (64, .bool false)] (by first | simp [hg44] | rfl) ?_
    refine Os 19 [(2, .bool false)] ?_
    refine Oe ?_
    refine V_ret ?_
    refine X_ret_block ?_
    refine X_ret_then ?_
    exact X_return (.bool false) rfl ⟨by congr 2; first | (apply Eq.symm; (try simp only [decide_eq_true_eq]); (try simp only [decide_eq_false_iff_not]); unfold okCrv fallsC; simp_all <;> omega) | (rw [decide_eq_decide]; unfold okCrv fallsC; simp_all <;> omega), hK0⟩
   refine OI_eq [(1, pt b1), (59, .bool false)] (by first | simp [hg40] | rfl) ?_
   refine Os 19 [(2, .bool false)] ?_
   refine Oe ?_
   refine V_ret ?_
   refine X_ret_block ?_
   refine X_ret_then ?_
   exact X_return (.bool false) rfl ⟨by congr 2; first | (apply Eq.symm; (try simp only [decide_eq_true_eq]); (try simp only [decide_eq_false_iff_not]); unfold okCrv fallsC; simp_all <;> omega) | (rw [decide_eq_decide]; unfold okCrv fallsC; simp_all <;> omega), hK0⟩
  refine OI_eq [(1, pt b1), (54, .bool false)] (by first | simp [hg36] | rfl) ?_
  refine Os 19 [(2, .bool false)] ?_
  refine Oe ?_
  refine V_ret ?_
  refine X_ret_block ?_
  refine X_ret_then ?_
  exact X_return (.bool false) rfl ⟨by congr 2; first | (apply Eq.symm; (try simp only [decide_eq_true_eq]); (try simp only [decide_eq_false_iff_not]); unfold okCrv fallsC; simp_all <;> omega) | (rw [decide_eq_decide]; unfold okCrv fallsC; simp_all <;> omega), hK0⟩
 refine V_skip ?_
 refine X_block ?_
 refine X_then ?_
 refine Vr ?_
 refine Os 1 [(2, .bool false)] ?_
 refine Oe ?_
 refine V_ret ?_
 exact X_return (.bool false) rfl ⟨by congr 2; first | (apply Eq.symm; (try simp only [decide_eq_true_eq]); (try simp only [decide_eq_false_iff_not]); unfold okCrv fallsC; simp_all <;> omega) | (rw [decide_eq_decide]; unfold okCrv fallsC; simp_all <;> omega), hK0⟩

set_option maxRecDepth 10000 in
theorem r10Is_spec (x : Trk) (w : World) : Calls Tryz.prog 78 #[.agg x.cells.toArray] w fun e w' => e = .returned (.bool (decide (okTrk x))) ∧ Keep none_ w w' := by
 have hK0 : Keep none_ w w := Keep.refl _ _
 have hzhK0 := Keep.size hK0
 refine enterV Tryz.func78 rfl [.agg (Trk.cells x).toArray] 51 rfl rfl rfl ?_
 refine V_pick [(0, .agg (Trk.cells x).toArray)] rfl ?_
 refine Vr ?_
 refine OI_box 27 (.tmp 0) (.agg (Trk.cells x).toArray) (Trk.cells x) (some 1) (by kernel_rfl) (by kernel_rfl) rfl ?_
 intro b1 w1 e1 hb1 k1 z1
 have hsz2 := Keep.size k1
 replace hK0 := Keep.tr hK0 (Keep.ofNone k1)
 have hb1lt := hb1.lt
 refine Os 2 [(1, pt b1)] ?_
 refine Oer ?_
 refine Os 1 [(1, pt b1), (3, pt b1)] ?_
 refine Oc 3 (.tmp 3) 0 (nt x.most) (some 4) hb1 rfl ?_
 refine Ok { callee := (Callee.value (Operand.func 118)), args := #[(Operand.tmp 4), (Operand.const (Value.int IntKind.i64 1)), (Operand.const (Value.int IntKind.i64 12))], argTypes := #[3, 3, 3] } 118 #[nt x.most, nt 1, nt 12] (some 5) (r10In_spec x.most 1 12 _) ?_
 rintro _ w1 ⟨rfl, rfl⟩
 refine ⟨_, rfl, ?_⟩
 refine Os 4 [(1, pt b1), (6, .bool (decide ((1 : Int) ≤ x.most ∧ x.most ≤ 12)))] ?_
 by_cases hg6 : (1 : Int) ≤ x.most ∧ x.most ≤ 12
 ·
  refine OI_eq [(1, pt b1), (6, .bool true)] (by first | simp [hg6] | rfl) ?_
  refine Os 5 [(1, pt b1), (6, .bool true), (7, .pointer (some ⟨b1, 1, none⟩))] ?_
  refine Oc 3 (.tmp 7) 1 (nt x.deposit) (some 8) hb1 rfl ?_
  refine Ok { callee := (Callee.value (Operand.func 118)), args := #[(Operand.tmp 8), (Operand.const (Value.int IntKind.i64 0)), (Operand.const (Value.int IntKind.i64 1073741824))], argTypes := #[3, 3, 3] } 118 #[nt x.deposit, nt 0, nt 1073741824] (some 9) (r10In_spec x.deposit 0 1073741824 _) ?_
  rintro _ w1 ⟨rfl, rfl⟩
  refine ⟨_, rfl, ?_⟩
  refine Os 9 [(1, pt b1), (11, .bool (decide ((0 : Int) ≤ x.deposit ∧ x.deposit ≤ 1073741824)))] ?_
  by_cases hg10 : (0 : Int) ≤ x.deposit ∧ x.deposit ≤ 1073741824
  ·
   refine OI_eq [(1, pt b1), (11, .bool true)] (by first | simp [hg10] | rfl) ?_
   refine Os 10 [(1, pt b1), (11, .bool true), (12, .pointer (some ⟨b1, 16, none⟩))] ?_
   refine Oc 3 (.tmp 12) 16 (nt x.cap) (some 13) hb1 rfl ?_
   refine Ok { callee := (Callee.value (Operand.func 118)), args := #[(Operand.tmp 13), (Operand.const (Value.int IntKind.i64 0)), (Operand.const (Value.int IntKind.i64 1073741824))], argTypes := #[3, 3, 3] } 118 #[nt x.cap, nt 0, nt 1073741824] (some 14) (r10In_spec x.cap 0 1073741824 _) ?_
   rintro _ w1 ⟨rfl, rfl⟩
   refine ⟨_, rfl, ?_⟩
   refine Os 14 [(1, pt b1), (16, .bool (decide ((0 : Int) ≤ x.cap ∧ x.cap ≤ 1073741824)))] ?_
   by_cases hg14 : (0 : Int) ≤ x.cap ∧ x.cap ≤ 1073741824
   ·
    refine OI_eq [(1, pt b1), (16, .bool true)] (by first | simp [hg14] | rfl) ?_
    refine Os 15 [(1, pt b1), (16, .bool true), (17, .pointer (some ⟨b1, 2, none⟩))] ?_
    refine Oc 3 (.tmp 17) 2 (nt x.prepare) (some 18) hb1 rfl ?_
    refine Ok { callee := (Callee.value (Operand.func 118)), args := #[(Operand.tmp 18), (Operand.const (Value.int IntKind.i64 0)), (Operand.const (Value.int IntKind.i64 1000))], argTypes := #[3, 3, 3] } 118 #[nt x.prepare, nt 0, nt 1000] (some 19) (r10In_spec x.prepare 0 1000 _) ?_
    rintro _ w1 ⟨rfl, rfl⟩
    refine ⟨_, rfl, ?_⟩
    refine Os 19 [(1, pt b1), (21, .bool (decide ((0 : Int) ≤ x.prepare ∧ x.prepare ≤ 1000)))] ?_
    by_cases hg18 : (0 : Int) ≤ x.prepare ∧ x.prepare ≤ 1000
    ·
     refine OI_eq [(1, pt b1), (21, .bool true)] (by first | simp [hg18] | rfl) ?_
     refine Os 20 [(1, pt b1), (21, .bool true), (22, .pointer (some ⟨b1, 4, none⟩))] ?_
     refine Oc 3 (.tmp 22) 4 (nt x.confirm) (some 23) hb1 rfl ?_
     refine Ok { callee := (Callee.value (Operand.func 118)), args := #[(Operand.tmp 23), (Operand.const (Value.int IntKind.i64 0)), (Operand.const (Value.int IntKind.i64 1000))], argTypes := #[3, 3, 3] } 118 #[nt x.confirm, nt 0, nt 1000] (some 24) (r10In_spec x.confirm 0 1000 _) ?_
     rintro _ w1 ⟨rfl, rfl⟩
     refine ⟨_, rfl, ?_⟩
     refine Os 24 [(1, pt b1), (26, .bool (decide ((0 : Int) ≤ x.confirm ∧ x.confirm ≤ 1000)))] ?_
     by_cases hg22 : (0 : Int) ≤ x.confirm ∧ x.confirm ≤ 1000
     ·
      refine OI_eq [(1, pt b1), (26, .bool true)] (by first | simp [hg22] | rfl) ?_
      refine Os 25 [(1, pt b1), (26, .bool true), (27, .pointer (some ⟨b1, 5, none⟩))] ?_
      refine Oc 3 (.tmp 27) 5 (nt x.enact) (some 28) hb1 rfl ?_
      refine Ok { callee := (Callee.value (Operand.func 118)), args := #[(Operand.tmp 28), (Operand.const (Value.int IntKind.i64 0)), (Operand.const (Value.int IntKind.i64 1000))], argTypes := #[3, 3, 3] } 118 #[nt x.enact, nt 0, nt 1000] (some 29) (r10In_spec x.enact 0 1000 _) ?_
      rintro _ w1 ⟨rfl, rfl⟩
      refine ⟨_, rfl, ?_⟩
      refine Os 29 [(1, pt b1), (31, .bool (decide ((0 : Int) ≤ x.enact ∧ x.enact ≤ 1000)))] ?_
      by_cases hg26 : (0 : Int) ≤ x.enact ∧ x.enact ≤ 1000
      ·
       refine OI_eq [(1, pt b1), (31, .bool true)] (by first | simp [hg26] | rfl) ?_
       refine Os 30 [(1, pt b1), (31, .bool true), (32, .pointer (some ⟨b1, 3, none⟩))] ?_
       refine Oc 3 (.tmp 32) 3 (nt x.decision) (some 33) hb1 rfl ?_
       refine Ok { callee := (Callee.value (Operand.func 118)), args := #[(Operand.tmp 33), (Operand.const (Value.int IntKind.i64 1)), (Operand.const (Value.int IntKind.i64 1000))], argTypes := #[3, 3, 3] } 118 #[nt x.decision, nt 1, nt 1000] (some 34) (r10In_spec x.decision 1 1000 _) ?_
       rintro _ w1 ⟨rfl, rfl⟩
       refine ⟨_, rfl, ?_⟩
       refine Os 34 [(1, pt b1), (36, .bool (decide ((1 : Int) ≤ x.decision ∧ x.decision ≤ 1000)))] ?_
       by_cases hg30 : (1 : Int) ≤ x.decision ∧ x.decision ≤ 1000
       ·
        refine OI_eq [(1, pt b1), (36, .bool true)] (by first | simp [hg30] | rfl) ?_
        refine Os 35 [(1, pt b1), (36, .bool true), (37, .pointer (some ⟨b1, 6, none⟩))] ?_
        refine Oa 25 (.tmp 37) 6 (Crv.cells x.app) (some 38) 5 hb1 rfl rfl ?_
        refine Ok { callee := (Callee.value (Operand.func 119)), args := #[(Operand.tmp 38)], argTypes := #[25] } 119 #[.agg (Crv.cells x.app).toArray] (some 39) (r4Is_spec x.app _) ?_
        rintro _ w31 ⟨rfl, hk32⟩
        refine ⟨_, rfl, ?_⟩
        have hsz33 := Keep.size hk32
        replace hb1 := hb1.keep hk32 (fun f => f)
        replace hK0 := Keep.tr hK0 (Keep.ofNone hk32)
        refine Os 39 [(1, pt b1), (41, .bool (decide (okCrv x.app)))] ?_
        by_cases hg34 : okCrv x.app
        ·
         refine OI_eq [(1, pt b1), (41, .bool true)] (by first | simp [hg34] | rfl) ?_
         refine Os 40 [(1, pt b1), (41, .bool true), (42, .pointer (some ⟨b1, 11, none⟩))] ?_
         refine Oa 25 (.tmp 42) 11 (Crv.cells x.sup) (some 43) 5 hb1 rfl rfl ?_
         refine Ok { callee := (Callee.value (Operand.func 119)), args := #[(Operand.tmp 43)], argTypes := #[25] } 119 #[.agg (Crv.cells x.sup).toArray] (some 44) (r4Is_spec x.sup _) ?_
         rintro _ w35 ⟨rfl, hk36⟩
         refine ⟨_, rfl, ?_⟩
         have hsz37 := Keep.size hk36
         replace hb1 := hb1.keep hk36 (fun f => f)
         replace hK0 := Keep.tr hK0 (Keep.ofNone hk36)
         refine Os 44 [(1, pt b1), (46, .bool (decide (okCrv x.sup)))] ?_
         by_cases hg38 : okCrv x.sup
         ·
          refine OI_eq [(1, pt b1), (46, .bool true)] (by first | simp [hg38] | rfl) ?_
          refine Os 45 [(46, .bool true), (47, .pointer (some ⟨b1, 17, none⟩))] ?_
          refine Oc 3 (.tmp 47) 17 (nt x.rank) (some 48) hb1 rfl ?_
          refine Ok { callee := (Callee.value (Operand.func 118)), args := #[(Operand.tmp 48), (Operand.const (Value.int IntKind.i64 0)), (Operand.const (Value.int IntKind.i64 2))], argTypes := #[3, 3, 3] } 118 #[nt x.rank, nt 0, nt 2] (some 49) (r10In_spec x.rank 0 2 _) ?_
          rintro _ w35 ⟨rfl, rfl⟩
          refine ⟨_, rfl, ?_⟩
          refine Os 49 [(2, .bool (decide ((0 : Int) ≤ x.rank ∧ x.rank ≤ 2)))] ?_
          refine Oe ?_
          refine V_ret ?_
          exact X_return (.bool (decide ((0 : Int) ≤ x.rank ∧ x.rank ≤ 2))) rfl ⟨by congr 2; first | (apply Eq.symm; (try simp only [decide_eq_true_eq]); (try simp only [decide_eq_false_iff_not]); unfold okTrk; simp_all <;> omega) | (rw [decide_eq_decide]; unfold okTrk; simp_all <;> omega), hK0⟩
         refine OI_eq [(1, pt b1), (46, .bool false)] (by first | simp [hg38] | rfl) ?_
         refine Os 49 [(2, .bool false)] ?_
         refine Oe ?_
         refine V_ret ?_
         exact X_return (.bool false) rfl ⟨by congr 2; first | (apply Eq.symm; (try simp only [decide_eq_true_eq]); (try simp only [decide_eq_false_iff_not]); unfold okTrk; simp_all <;> omega) | (rw [decide_eq_decide]; unfold okTrk; simp_all <;> omega), hK0⟩
        refine OI_eq [(1, pt b1), (41, .bool false)] (by first | simp [hg34] | rfl) ?_
        refine Os 49 [(2, .bool false)] ?_
        refine Oe ?_
        refine V_ret ?_
        exact X_return (.bool false) rfl ⟨by congr 2; first | (apply Eq.symm; (try simp only [decide_eq_true_eq]); (try simp only [decide_eq_false_iff_not]); unfold okTrk; simp_all <;> omega) | (rw [decide_eq_decide]; unfold okTrk; simp_all <;> omega), hK0⟩
       refine OI_eq [(1, pt b1), (36, .bool false)] (by first | simp [hg30] | rfl) ?_
       refine Os 49 [(2, .bool false)] ?_
       refine Oe ?_
       refine V_ret ?_
       exact X_return (.bool false) rfl ⟨by congr 2; first | (apply Eq.symm; (try simp only [decide_eq_true_eq]); (try simp only [decide_eq_false_iff_not]); unfold okTrk; simp_all <;> omega) | (rw [decide_eq_decide]; unfold okTrk; simp_all <;> omega), hK0⟩
      refine OI_eq [(1, pt b1), (31, .bool false)] (by first | simp [hg26] | rfl) ?_
      refine Os 49 [(2, .bool false)] ?_
      refine Oe ?_
      refine V_ret ?_
      exact X_return (.bool false) rfl ⟨by congr 2; first | (apply Eq.symm; (try simp only [decide_eq_true_eq]); (try simp only [decide_eq_false_iff_not]); unfold okTrk; simp_all <;> omega) | (rw [decide_eq_decide]; unfold okTrk; simp_all <;> omega), hK0⟩
     refine OI_eq [(1, pt b1), (26, .bool false)] (by first | simp [hg22] | rfl) ?_
     refine Os 49 [(2, .bool false)] ?_
     refine Oe ?_
     refine V_ret ?_
     exact X_return (.bool false) rfl ⟨by congr 2; first | (apply Eq.symm; (try simp only [decide_eq_true_eq]); (try simp only [decide_eq_false_iff_not]); unfold okTrk; simp_all <;> omega) | (rw [decide_eq_decide]; unfold okTrk; simp_all <;> omega), hK0⟩
    refine OI_eq [(1, pt b1), (21, .bool false)] (by first | simp [hg18] | rfl) ?_
    refine Os 49 [(2, .bool false)] ?_
    refine Oe ?_
    refine V_ret ?_
    exact X_return (.bool false) rfl ⟨by congr 2; first | (apply Eq.symm; (try simp only [decide_eq_true_eq]); (try simp only [decide_eq_false_iff_not]); unfold okTrk; simp_all <;> omega) | (rw [decide_eq_decide]; unfold okTrk; simp_all <;> omega), hK0⟩
   refine OI_eq [(1, pt b1), (16, .bool false)] (by first | simp [hg14] | rfl) ?_
   refine Os 49 [(2, .bool false)] ?_
   refine Oe ?_
   refine V_ret ?_
   exact X_return (.bool false) rfl ⟨by congr 2; first | (apply Eq.symm; (try simp only [decide_eq_true_eq]); (try simp only [decide_eq_false_iff_not]); unfold okTrk; simp_all <;> omega) | (rw [decide_eq_decide]; unfold okTrk; simp_all <;> omega), hK0⟩
  refine OI_eq [(1, pt b1), (11, .bool false)] (by first | simp [hg10] | rfl) ?_
  refine Os 49 [(2, .bool false)] ?_
  refine Oe ?_
  refine V_ret ?_
  exact X_return (.bool false) rfl ⟨by congr 2; first | (apply Eq.symm; (try simp only [decide_eq_true_eq]); (try simp only [decide_eq_false_iff_not]); unfold okTrk; simp_all <;> omega) | (rw [decide_eq_decide]; unfold okTrk; simp_all <;> omega), hK0⟩
 refine OI_eq [(1, pt b1), (6, .bool false)] (by first | simp [hg6] | rfl) ?_
 refine Os 49 [(2, .bool false)] ?_
 refine Oe ?_
 refine V_ret ?_
 exact X_return (.bool false) rfl ⟨by congr 2; first | (apply Eq.symm; (try simp only [decide_eq_true_eq]); (try simp only [decide_eq_false_iff_not]); unfold okTrk; simp_all <;> omega) | (rw [decide_eq_decide]; unfold okTrk; simp_all <;> omega), hK0⟩

def okTs (ts : List Trk) : Prop := 1 ≤ ts.length ∧ ts.length ≤ 4 ∧ ∀ t ∈ ts, okTrk t
instance (ts : List Trk) : Decidable (okTs ts) := by unfold okTs; infer_instance

set_option maxRecDepth 10000 in
theorem rbad_spec (x : Trk) (w : World) : Calls Tryz.prog 79 #[.agg x.cells.toArray] w fun e w' => e = .returned (.bool (!decide (okTrk x))) ∧ Keep none_ w w' := by
 have hK0 : Keep none_ w w := Keep.refl _ _
 have hzhK0 := Keep.size hK0
 refine enterV Tryz.func79 rfl [.agg (Trk.cells x).toArray] 6 rfl rfl rfl ?_
 refine V_pick [(0, .agg (Trk.cells x).toArray)] rfl ?_
 refine Vr ?_
 refine OI_box 27 (.tmp 0) (.agg (Trk.cells x).toArray) (Trk.cells x) (some 1) (by kernel_rfl) (by kernel_rfl) rfl ?_
 intro b1 w1 e1 hb1 k1 z1
 have hsz2 := Keep.size k1
 replace hK0 := Keep.tr hK0 (Keep.ofNone k1)
 have hb1lt := hb1.lt
 refine Os 2 [(1, pt b1)] ?_
 refine Oer ?_
 refine Oa 27 (.tmp 1) 0 (Trk.cells x) (some 3) 18 hb1 (take_all (Trk.len _)) (Trk.len _) ?_
 refine Ok { callee := (Callee.value (Operand.func 80)), args := #[(Operand.tmp 3)], argTypes := #[27] } 80 #[.agg (Trk.cells x).toArray] (some 4) (trkIs_spec x _) ?_
 rintro _ w3 ⟨rfl, hk4⟩
 refine ⟨_, rfl, ?_⟩
 have hsz5 := Keep.size hk4
 replace hb1 := hb1.keep hk4 (fun f => f)
 replace hK0 := Keep.tr hK0 (Keep.ofNone hk4)
 refine Os 4 [(2, .bool (!(decide (okTrk x))))] ?_
 refine Oe ?_
 refine V_ret ?_
 exact X_return (.bool (!(decide (okTrk x)))) rfl ⟨rfl, hK0⟩

set_option maxRecDepth 10000 in
theorem ixf_spec (A : Option Addr) (cap : Nat) (ts : List Trk) (w : World) (hA : SlT w 18 Trk.cells A cap ts) (hok : ∀ t ∈ ts, okTrk t) (hn4 : ts.length ≤ 4) : Calls Tryz.prog 122 #[.slice A ts.length cap, .func (.func 79) #[] #[]] w fun e w' => e = .returned (.int .i64 (-1)) ∧ Keep none_ w w' := by
 have hAlt := SlT.lt hA
 have hK0 : Keep none_ w w := Keep.refl _ _
 have hzhK0 := Keep.size hK0
 refine enterV Tryz.func122 rfl [.slice A ts.length cap, .func (.func 79) #[] #[]] 19 rfl rfl rfl ?_
 refine V_pick [(0, .slice A ts.length cap), (1, .func (.func 79) #[] #[])] rfl ?_
 refine Vr ?_
 refine Os 1 [(0, .slice A ts.length cap), (1, .func (.func 79) #[] #[])] ?_
 refine Oe ?_
 refine V_seq ?_
 refine Vr ?_
 refine Os 3 [(0, .slice A ts.length cap), (1, .func (.func 79) #[] #[]), (7, nt ((ts.length : Nat) : Int)), (8, nt 0)] ?_
 refine Oe ?_
 refine V_block ?_
 refine V_pick [(0, .slice A ts.length cap), (1, .func (.func 79) #[] #[]), (7, nt ((ts.length : Nat) : Int)), (8, nt 0)] rfl ?_
 refine V_loop (fun k wI e => ∃ i : Nat, (k + i = ts.length) ∧ Keep none_ w wI ∧ e = [(0, .slice A ts.length cap), (1, .func (.func 79) #[] #[]), (7, nt ((ts.length : Nat) : Int)), (8, nt ((i : Nat) : Int))]) ts.length ⟨0, rfl, Keep.refl _ _, rfl⟩ ?_
 rintro k2 w1 _ ⟨i, hki, hk3, rfl⟩
 have hsz4 := Keep.size hk3
 replace hA := SlT.keep0 hA hk3
 replace hK0 := Keep.tr hK0 (Keep.ofNone hk3)
 have hzhk3 := Keep.size hk3
 refine Vr ?_
 refine Os 1 [(0, .slice A ts.length cap), (1, .func (.func 79) #[] #[]), (7, nt ((ts.length : Nat) : Int)), (8, nt ((i : Nat) : Int)), (9, .bool (decide (((i : Nat) : Int) < ((ts.length : Nat) : Int))))] ?_
 refine Oe ?_
 refine V_seq ?_
 refine V_if (((i : Nat) : Int) < ((ts.length : Nat) : Int)) (by kernel_rfl) (fun hc5 => ?_) (fun hc5 => ?_)
 ·
  refine V_skip ?_
  refine X_then ?_
  refine V_seq ?_
  refine V_block ?_
  refine Vr ?_
  refine Os 2 [(0, .slice A ts.length cap), (1, .func (.func 79) #[] #[]), (5, nt ((i : Nat) : Int)), (7, nt ((ts.length : Nat) : Int)), (8, nt ((i : Nat) : Int))] ?_
  refine Oer ?_
  refine Os 3 [(0, .slice A ts.length cap), (1, .func (.func 79) #[] #[]), (5, nt ((i : Nat) : Int)), (7, nt ((ts.length : Nat) : Int)), (8, nt ((i : Nat) : Int)), (11, .func (.func 79) #[] #[]), (12, .slice A ts.length cap), (13, nt ((i : Nat) : Int))] ?_
  obtain ⟨b6, o6, L6, T6, rfl, hat6⟩ := SlT.open_ hA (by first | omega | (simp only [List.length_map]; omega) | (simp; done) | (simp; omega))
  have hb6lt := hat6.blk.lt
  have hob7 := hAlt b6 ⟨_, rfl, rfl⟩
  refine OI_pure (some 14) (.indexAddr 29 (.tmp 12) (.tmp 13)) (by kernel_rfl) (pure_idxN (b := b6) (o := o6) (len := ts.length) (cap := cap) (kd := .i64) (j := i) (E := 27) (sz := 18) (by_ := 144) (by kernel_rfl) (by kernel_rfl) (by kernel_rfl) (by omega)) ?_
  obtain ⟨x8, hx9⟩ : ∃ x, ts[i]? = some x := ⟨_, List.getElem?_eq_getElem (by first | omega | (simp only [List.length_map]; omega))⟩
  have hokx : okTrk x8 := hok x8 (List.mem_of_getElem? hx9)
  refine Oa 27 (.tmp 14) (o6 + i * 18) (Trk.cells x8) (some 15) 18 hat6.blk (At.elem' hat6 (es_at hx9)) (At.len hat6 (es_at hx9)) ?_
  refine Ok { callee := (Callee.value (Operand.tmp 11)), args := #[(Operand.tmp 15)], argTypes := #[27] } 79 #[.agg (Trk.cells x8).toArray] (some 16) (rbad_spec x8 _) ?_
  rintro _ w10 ⟨rfl, hk11⟩
  refine ⟨_, rfl, ?_⟩
  have hsz12 := Keep.size hk11
  replace hat6 := hat6.keep hk11 (fun f => f)
  replace hK0 := Keep.tr hK0 (Keep.ofNone hk11)
  replace hk3 := Keep.tr hk3 (Keep.ofNone hk11)
  refine Oe ?_
  refine V_pick [(0, .slice (some ⟨b6, o6, none⟩) ts.length cap), (1, .func (.func 79) #[] #[]), (5, nt ((i : Nat) : Int)), (7, nt ((ts.length : Nat) : Int)), (8, nt ((i : Nat) : Int)), (16, .bool (!(decide (okTrk x8))))] rfl ?_
  refine V_eq [(0, .slice (some ⟨b6, o6, none⟩) ts.length cap), (1, .func (.func 79) #[] #[]), (5, nt ((i : Nat) : Int)), (7, nt ((ts.length : Nat) : Int)), (8, nt ((i : Nat) : Int)), (16, .bool false)] (by rw [decide_eq_true hokx]; rfl) ?_
  refine V_false rfl ?_
  refine V_skip ?_
  refine X_block ?_
  refine X_then ?_
  refine V_region ?_
  have hw14 : IntKind.i64.wrap (((i : Nat) : Int) + 1) = ((i + 1 : Nat) : Int) := (wrap64_id (by omega) (by omega)).trans (by omega)
  refine Os 1 [(0, .slice (some ⟨b6, o6, none⟩) ts.length cap), (1, .func (.func 79) #[] #[]), (7, nt ((ts.length : Nat) : Int)), (18, nt (IntKind.i64.wrap (((i : Nat) : Int) + 1)))] ?_
  refine OI_eq [(0, .slice (some ⟨b6, o6, none⟩) ts.length cap), (1, .func (.func 79) #[] #[]), (7, nt ((ts.length : Nat) : Int)), (18, nt ((i + 1 : Nat) : Int))] (by rw [hw14]) ?_
  refine Os 2 [(0, .slice (some ⟨b6, o6, none⟩) ts.length cap), (1, .func (.func 79) #[] #[]), (7, nt ((ts.length : Nat) : Int)), (8, nt ((i + 1 : Nat) : Int))] ?_
  refine OI_end rfl ?_
  exact V_again (k2 - 1) (by omega) [(0, .slice (some ⟨b6, o6, none⟩) ts.length cap), (1, .func (.func 79) #[] #[]), (7, nt ((ts.length : Nat) : Int)), (8, nt ((i + 1 : Nat) : Int))] rfl ⟨i + 1, by omega, hk3, rfl⟩
 refine V_exit ?_
 refine X_exit_then ?_
 refine X_exit_then ?_
 refine X_exit_here ?_
 refine X_then ?_
 refine Vr ?_
 refine Os 1 [(4, nt (-1))] ?_
 refine Oe ?_
 refine V_ret ?_
 exact X_return (nt (-1)) rfl ⟨rfl, hK0⟩

set_option maxRecDepth 10000 in
theorem ctf_spec (A : Option Addr) (cap : Nat) (ts : List Trk) (w : World) (hA : SlT w 18 Trk.cells A cap ts) (hok : ∀ t ∈ ts, okTrk t) (hn4 : ts.length ≤ 4) : Calls Tryz.prog 81 #[.slice A ts.length cap, .func (.func 79) #[] #[]] w fun e w' => e = .returned (.bool false) ∧ Keep none_ w w' := by
 have hAlt := SlT.lt hA
 have hK0 : Keep none_ w w := Keep.refl _ _
 have hzhK0 := Keep.size hK0
 refine enterV Tryz.func81 rfl [.slice A ts.length cap, .func (.func 79) #[] #[]] 9 rfl rfl rfl ?_
 refine V_pick [(0, .slice A ts.length cap), (1, .func (.func 79) #[] #[])] rfl ?_
 refine Vr ?_
 refine Os 1 [(0, .slice A ts.length cap), (1, .func (.func 79) #[] #[])] ?_
 refine Oer ?_
 refine Os 2 [(5, .slice A ts.length cap), (6, .func (.func 79) #[] #[])] ?_
 refine Ok { callee := (Callee.value (Operand.func 122)), args := #[(Operand.tmp 5), (Operand.tmp 6)], argTypes := #[29, 150] } 122 #[.slice A ts.length cap, .func (.func 79) #[] #[]] (some 7) (ixf_spec A cap ts _ hA hok hn4) ?_
 rintro _ w1 ⟨rfl, hk2⟩
 refine ⟨_, rfl, ?_⟩
 have hsz3 := Keep.size hk2
 replace hA := SlT.keep0 hA hk2
 replace hK0 := Keep.tr hK0 (Keep.ofNone hk2)
 refine Os 5 [(4, .bool false)] ?_
 refine Oe ?_
 refine V_ret ?_
 exact X_return (.bool false) rfl ⟨rfl, hK0⟩

set_option maxRecDepth 10000 in
theorem tclone_nil (w : World) : Calls Tryz.prog 82 #[.slice none 0 0] w fun e w' => e = .returned (.slice none 0 0) ∧ w' = w := by
 refine enterV Tryz.func82 rfl [.slice none 0 0] 8 rfl rfl rfl ?_
 refine V_pick [(0, .slice none 0 0)] rfl ?_
 refine Vr ?_
 refine Os 1 [(0, .slice none 0 0)] ?_
 refine Oe ?_
 refine V_seq ?_
 refine Vr ?_
 refine Os 2 [(0, .slice none 0 0), (4, .bool true)] ?_
 refine Oe ?_
 refine V_true rfl ?_
 refine Vr ?_
 refine Os 1 [(2, .slice none 0 0)] ?_
 refine Oe ?_
 refine V_ret ?_
 refine X_ret_then ?_
 exact X_return _ rfl ⟨rfl, rfl⟩

set_option maxRecDepth 10000 in
theorem tclone_at (b o cap : Nat) (L : List Value) (T : TypeId) (xs : List Trk) (w : World) (h : At w b o L T 18 cap (xs.map Trk.cells)) (hn : xs.length ≤ 1000000) : Calls Tryz.prog 82 #[.slice (some ⟨b, o, none⟩) xs.length cap] w fun e w' => ∃ A' cap', e = .returned (.slice A' xs.length cap') ∧ SlT w' 18 Trk.cells A' cap' xs ∧ Keep none_ w w' ∧ (∀ k, inA A' k → w.heap.size ≤ k) := by
 have hblt := h.blk.lt
 have hK0 : Keep none_ w w := Keep.refl _ _
 have hzhK0 := Keep.size hK0
 refine enterV Tryz.func82 rfl [.slice (some ⟨b, o, none⟩) xs.length cap] 8 rfl rfl rfl ?_
 refine V_pick [(0, .slice (some ⟨b, o, none⟩) xs.length cap)] rfl ?_
 refine Vr ?_
 refine Os 1 [(0, .slice (some ⟨b, o, none⟩) xs.length cap)] ?_
 refine Oe ?_
 refine V_seq ?_
 refine Vr ?_
 refine Os 2 [(0, .slice (some ⟨b, o, none⟩) xs.length cap), (4, .bool false)] ?_
 refine Oe ?_
 refine V_false rfl ?_
 refine V_skip ?_
 refine X_then ?_
 refine Vr ?_
 refine OI_slit (E := 27) (zv := .agg #[nt 0, nt 0, nt 0, nt 0, nt 0, nt 0, nt 0, nt 0, nt 0, nt 0, nt 0, nt 0, nt 0, nt 0, nt 0, nt 0, nt 0, nt 0]) (sz := 18) (by_ := 144) 29 0 #[] [] [] (some 5) (by kernel_rfl) (by kernel_rfl) (by kernel_rfl) (by omega) rfl (by omega) (by intro v hv; cases hv) (by kernel_rfl) rfl ?_
 intro b1 w1 e1 hb1 k1 z1
 have hsz2 := Keep.size k1
 replace h := h.keep k1 (fun f => f)
 replace hK0 := Keep.tr hK0 (Keep.ofNone k1)
 have hb1lt := hb1.lt
 refine Os 2 [(5, .slice (some ⟨b1, 0, none⟩) 0 0), (6, .slice (some ⟨b, o, none⟩) xs.length cap)] ?_
 refine OI_append (t := 29) (at2 := 29) (E := 27) (E2 := 27) (sz := 18) (by_ := 144) (zv := .agg #[nt 0, nt 0, nt 0, nt 0, nt 0, nt 0, nt 0, nt 0, nt 0, nt 0, nt 0, nt 0, nt 0, nt 0, nt 0, nt 0, nt 0, nt 0]) (m := 0) (k := xs.length) (.tmp 5) (.tmp 6) (.slice (some ⟨b1, 0, none⟩) 0 0) (.slice (some ⟨b, o, none⟩) xs.length cap) (some 7) (by kernel_rfl) (by kernel_rfl) (by kernel_rfl) (by kernel_rfl) (by kernel_rfl) (by kernel_rfl) (by kernel_rfl) (SlT.slr (slt_blk (f := Trk.cells) (xs := []) hb1 Trk.len rfl)) (SlT.slr (At.slt h)) (one_flat Trk.one) (by omega) (by omega) (by omega) (by omega) ?_
 intro v w9 hap
 obtain ⟨A9, cap9, rfl, h9, hin⟩ := SlT.of (xs := xs) hap.holds (by omega) (by simp) (fun x _ => Trk.len x)
 have hk9 : Keep (only b1) w1 w9 := hap.keep
 have hown : ∀ k, inA A9 k → w.heap.size ≤ k := fun k hk => by rcases hap.own k (hin k hk) with h | h; (have h : k = b1 := h; omega); omega
 have hsz3 := Keep.size hk9
 replace h := h.keep hk9 (by show ¬ (_ = _); omega)
 replace hK0 := Keep.fresh hK0 hk9 (by intro i hi hs; first | exact hs | exact Or.inl hs | exact Or.inr hs | (exfalso; have hs2 : i = b1 := hs; omega))
 refine Op_ [(7, .slice A9 (0 + xs.length) cap9)] ?_
 refine OI_eq [(7, .slice A9 xs.length cap9)] (by rw [Nat.zero_add]) ?_
 refine Os 4 [(2, .slice A9 xs.length cap9)] ?_
 refine Oe ?_
 refine V_ret ?_
 exact X_return _ rfl ⟨A9, cap9, rfl, h9, hK0, hown⟩

theorem tclone_spec (A : Option Addr) (cap : Nat) (xs : List Trk) (w : World) (hA : SlT w 18 Trk.cells A cap xs) (hn : xs.length ≤ 1000000) : Calls Tryz.prog 82 #[.slice A xs.length cap] w fun e w' => ∃ A' cap', e = .returned (.slice A' xs.length cap') ∧ SlT w' 18 Trk.cells A' cap' xs ∧ Keep none_ w w' ∧ (∀ k, inA A' k → w.heap.size ≤ k) := by
  rcases Nat.eq_zero_or_pos xs.length with h0 | h0
  · obtain rfl := List.length_eq_zero_iff.1 h0
    rcases hA with ⟨rfl, rfl, _⟩ | ⟨b, o, L, T, rfl, h1, h2, h3, h4, h5⟩
    · exact (tclone_nil w).mono (by rintro e w' ⟨rfl, rfl⟩; exact ⟨none, 0, rfl, SlT.nil _ _ _, Keep.refl _ _, fun k hk => (inA_none hk).elim⟩)
    · exact tclone_at b o cap L T [] w ⟨h1, h2, h3, h4, h5⟩ hn
  · obtain ⟨b, o, L, T, rfl, h⟩ := hA.open_ h0
    exact tclone_at b o cap L T xs w h hn

set_option maxRecDepth 10000 in
theorem rnw_spec (A : Option Addr) (cap : Nat) (ts : List Trk) (w : World) (hA : SlT w 18 Trk.cells A cap ts) (hok : okTs ts) : Calls Tryz.prog 35 #[.slice A ts.length cap] w fun e w' => ∃ r g H, e = .returned (.tuple #[.pointer (some ⟨r, 0, none⟩), .int .i64 0]) ∧ Rfr H w' r g ts [] ∧ Keep none_ w w' ∧ (∀ q, H q → w.heap.size ≤ q) := by
 have hAlt := SlT.lt hA
 have hok1 := hok.1
 have hok2 := hok.2.1
 have hK0 : Keep none_ w w := Keep.refl _ _
 have hzhK0 := Keep.size hK0
 refine enterV Tryz.func35 rfl [.slice A ts.length cap] 23 rfl rfl rfl ?_
 refine V_pick [(0, .slice A ts.length cap)] rfl ?_
 refine Vr ?_
 refine Os 2 [(0, .slice A ts.length cap)] ?_
 refine Oer ?_
 refine Os 1 [(0, .slice A ts.length cap), (4, .func (.func 79) #[] #[])] ?_
 refine Oe ?_
 refine V_seq ?_
 refine Vr ?_
 refine Os 4 [(0, .slice A ts.length cap), (4, .func (.func 79) #[] #[]), (8, .bool (decide (((ts.length : Nat) : Int) = 0)))] ?_
 refine OI_eq [(0, .slice A ts.length cap), (4, .func (.func 79) #[] #[]), (8, .bool false)] (by rw [decide_eq_false (by omega : ¬ (((ts.length : Nat) : Int) = 0))]) ?_
 refine Os 9 [(0, .slice A ts.length cap), (4, .func (.func 79) #[] #[]), (13, .bool (decide (((ts.length : Nat) : Int) > 4)))] ?_
 refine OI_eq [(0, .slice A ts.length cap), (4, .func (.func 79) #[] #[]), (13, .bool false)] (by rw [decide_eq_false (by omega : ¬ (((ts.length : Nat) : Int) > 4))]) ?_
 refine Os 11 [(0, .slice A ts.length cap), (13, .bool false), (14, .slice A ts.length cap), (15, .func (.func 79) #[] #[])] ?_
 refine Ok { callee := (Callee.value (Operand.func 81)), args := #[(Operand.tmp 14), (Operand.tmp 15)], argTypes := #[29, 150] } 81 #[.slice A ts.length cap, .func (.func 79) #[] #[]] (some 16) (ctf_spec A cap ts _ hA hok.2.2 (by omega)) ?_
 rintro _ w3 ⟨rfl, hk4⟩
 refine ⟨_, rfl, ?_⟩
 have hsz5 := Keep.size hk4
 replace hA := SlT.keep0 hA hk4
 replace hK0 := Keep.tr hK0 (Keep.ofNone hk4)
 refine Os 13 [(0, .slice A ts.length cap), (17, .bool false)] ?_
 refine Oe ?_
 refine V_false rfl ?_
 refine V_skip ?_
 refine X_then ?_
 refine Vr ?_
 refine Os 1 [(18, .slice A ts.length cap)] ?_
 refine Ok { callee := (Callee.value (Operand.func 82)), args := #[(Operand.tmp 18)], argTypes := #[29] } 82 #[.slice A ts.length cap] (some 19) (tclone_spec A cap ts _ hA (by omega)) ?_
 rintro _ w6 ⟨A8, cap8, rfl, hA8, hk7, ow8⟩
 refine ⟨_, rfl, ?_⟩
 have hsz9 := Keep.size hk7
 replace hA := SlT.keep0 hA hk7
 replace hK0 := Keep.tr hK0 (Keep.ofNone hk7)
 have lt8 := SlT.lt hA8
 refine Ok { callee := (Callee.value (Operand.func 83)), args := #[], argTypes := #[] } 83 #[] (some 20) (GQ.new_grd _) ?_
 rintro _ w12 ⟨g14, F15, rfl, ho16, hk13, hge17⟩
 refine ⟨_, rfl, ?_⟩
 have hsz18 := Keep.size hk13
 replace hA := SlT.keep0 hA hk13
 replace hA8 := SlT.keep0 hA8 hk13
 replace hK0 := Keep.tr hK0 (Keep.ofNone hk13)
 have own19 : ∀ q, F15 q → w6.heap.size ≤ q := fun q hq => by have h1 := hge17 q hq; omega
 have lt20 := GQ.Grd.lt ho16
 have dis21 : ∀ q, F15 q → ¬ inA A q := fun q h1 h2 => by have h3 := hge17 q h1; have h4 := hAlt q h2; omega
 have dis22 : ∀ q, F15 q → ¬ inA A8 q := fun q h1 h2 => by have h3 := hge17 q h1; have h4 := lt8 q h2; omega
 have hg14lt : g14 < w12.heap.size := GQ.Grd.lt ho16 _ (GQ.Grd.at_ ho16)
 have hg14ge := hge17 _ (GQ.Grd.at_ ho16)
 refine Os 4 [(21, .agg #[.slice A8 ts.length cap8, pt g14])] ?_
 refine OI_box 97 (.tmp 21) (.agg #[.slice A8 ts.length cap8, pt g14]) [.slice A8 ts.length cap8, pt g14] (some 22) (by kernel_rfl) (by kernel_rfl) (by kernel_rfl) ?_
 intro b23 w23 e23 hb23 k23 z23
 have hsz24 := Keep.size k23
 replace hA := SlT.keep0 hA k23
 replace hA8 := SlT.keep0 hA8 k23
 replace hK0 := Keep.tr hK0 (Keep.ofNone k23)
 replace ho16 := GQ.Grd.keep ho16 k23 (fun _ _ f => f)
 have hb23lt := hb23.lt
 refine Os 7 [(2, pt b23), (3, nt 0)] ?_
 refine Oe ?_
 refine V_ret ?_
 exact X_return _ rfl ⟨b23, g14, (fun q => F15 q ∨ inA A8 q ∨ q = b23), rfl, ⟨⟨by omega, hok.2.2, by simp, fun x hx => by cases hx⟩, fun q hq => by rcases hq with h | h | h; (have h1 := lt20 q h; omega); (have h1 := lt8 q h; omega); omega, F15, A8, cap8, ⟨hb23, hA8, ho16, (fun q h1 h2 => dis22 q h2 h1), (fun q h => by have h1 := ow8 q h; have h2 := lt8 q h; omega), (fun q h => by have h1 := lt20 q h; omega)⟩, .inr (.inr rfl), fun q h => .inl h, fun q h => .inr (.inl h)⟩, hK0, fun q hq => by rcases hq with h | h | h; (have h1 := own19 q h; omega); (have h1 := ow8 q h; omega); omega⟩
end Go.Al


namespace Go.Al
open Go Go.RowKit Go.Proofs
set_option maxRecDepth 10000 in
theorem rnew6_weak (A : Option Addr) (cap : Nat) (fs : List Int) (w : World) (hA0 : ArgT w 1 intc A cap fs) (hn : fs.length ≤ 100000) : Calls Tryz.prog 39 #[.slice A fs.length cap] w fun e w' => ∃ pv n, e = .returned (.tuple #[.pointer pv, .int .i64 n]) ∧ Keep none_ w w' := by
 have hA := hA0
 have hK0 : Keep none_ w w := Keep.refl _ _
 have hzhK0 := Keep.size hK0
 refine enterV Tryz.func39 rfl [.slice A fs.length cap] 51 rfl rfl rfl ?_
 refine V_pick [(0, .slice A fs.length cap)] rfl ?_
 refine Vr ?_
 refine Os 2 [(0, .slice A fs.length cap)] ?_
 refine Oe ?_
 refine V_seq ?_
 refine Vr ?_
 refine Os 3 [(0, .slice A fs.length cap), (9, .bool (decide (((fs.length : Nat) : Int) > 10)))] ?_
 refine Oe ?_
 refine V_if (((fs.length : Nat) : Int) > 10) (by kernel_rfl) (fun hc1 => ?_) (fun hc1 => ?_)
 ·
  refine Vr ?_
  refine Os 2 [(2, .pointer none), (3, nt 1)] ?_
  refine Oe ?_
  refine V_ret ?_
  refine X_ret_then ?_
  exact X_return (.tuple #[.pointer none, nt 1]) rfl ⟨_, _, rfl, hK0⟩
 refine V_skip ?_
 refine X_then ?_
 refine Vr ?_
 refine OI_make (E := 171) (sz := 3) (by_ := 40) (m := 10) (kd := .i64) (zv := .agg #[nt 0, nt 0, .slice none 0 0]) 166 (.const (Value.int IntKind.i64 10)) (.const (Value.int IntKind.i64 10)) ((List.replicate 10 [nt 0, nt 0, .slice none 0 0]).flatten) (some 10) (by kernel_rfl) (by kernel_rfl) (by kernel_rfl) (by kernel_rfl) (by kernel_rfl) (by decide) (by decide) (by kernel_rfl) ?_
 intro b2 w2 e2 hb2 k2 z2
 have hsz3 := Keep.size k2
 replace hA := ArgT.keep0 hA k2
 replace hK0 := Keep.tr hK0 (Keep.ofNone k2)
 have hb2lt := hb2.lt
 refine Os 2 [(0, .slice A fs.length cap), (11, .agg #[.slice (some ⟨b2, 0, none⟩) 10 10])] ?_
 refine OI_box 168 (.tmp 11) (.agg #[.slice (some ⟨b2, 0, none⟩) 10 10]) [.slice (some ⟨b2, 0, none⟩) 10 10] (some 12) (by kernel_rfl) (by kernel_rfl) (by kernel_rfl) ?_
 intro b4 w4 e4 hb4 k4 z4
 have hsz5 := Keep.size k4
 replace hb2 := hb2.keep k4 (fun f => f)
 replace hA := ArgT.keep0 hA k4
 replace hK0 := Keep.tr hK0 (Keep.ofNone k4)
 have hb4lt := hb4.lt
 refine Os 4 [(0, .slice A fs.length cap), (4, pt b4)] ?_
 refine Oer ?_
 refine Os 1 [(0, .slice A fs.length cap), (4, pt b4), (5, nt 0)] ?_
 refine Oe ?_
 refine V_seq ?_
 refine Vr ?_
 refine Os 1 [(0, .slice A fs.length cap), (4, pt b4), (5, nt 0), (6, nt 0)] ?_
 refine Oe ?_
 refine V_block ?_
 refine V_pick [(0, .slice A fs.length cap), (4, pt b4), (5, nt 0), (6, nt 0)] rfl ?_
 refine V_loop (fun k wI e => ∃ i : Nat, ∃ s5 : Int, ∃ Lx : List Value, (k + i = fs.length) ∧ (Blk wI b2 Lx 171) ∧ (Lx.length = 30) ∧ Keep (only b2) w4 wI ∧ e = [(0, .slice A fs.length cap), (4, pt b4), (5, nt s5), (6, nt ((i : Nat) : Int))]) fs.length ⟨0, 0, (List.replicate 10 [nt 0, nt 0, .slice none 0 0]).flatten, by omega, hb2, by decide, Keep.refl _ _, rfl⟩ ?_
 rintro k7 w6 _ ⟨i, s5, Lx, hki, hB, hLx, hk8, rfl⟩
 have hsz9 := Keep.size hk8
 replace hb4 := hb4.keep hk8 (by show ¬ (_ = _); omega)
 replace hA := ArgT.keep hA hk8 hA0 (fun k hk hs => by have hs : k = b2 := hs; omega)
 replace hK0 := Keep.fresh hK0 hk8 (by intro i hi hs; first | exact hs | exact Or.inl hs | exact Or.inr hs | (exfalso; have hs2 : i = b2 := hs; omega))
 have hzhk8 := Keep.size hk8
 have hb2lt := hB.lt
 refine V_seq ?_
 refine Vr ?_
 refine Os 4 [(0, .slice A fs.length cap), (4, pt b4), (5, nt s5), (6, nt ((i : Nat) : Int)), (16, .bool (decide (((i : Nat) : Int) < ((fs.length : Nat) : Int))))] ?_
 refine Oe ?_
 refine V_if (((i : Nat) : Int) < ((fs.length : Nat) : Int)) (by kernel_rfl) (fun hc10 => ?_) (fun hc10 => ?_)
 ·
  refine V_skip ?_
  refine X_then ?_
  refine V_seq ?_
  refine V_block ?_
  refine V_seq ?_
  refine Vr ?_
  refine Os 2 [(0, .slice A fs.length cap), (4, pt b4), (5, nt s5), (6, nt ((i : Nat) : Int)), (19, .slice A fs.length cap), (20, nt ((i : Nat) : Int))] ?_
  obtain ⟨b11, o11, L11, rfl, hat11⟩ := ArgT.open_ hA (by first | omega | (simp only [List.length_map]; omega) | (simp; done) | (simp; omega))
  have hb11lt0 := ArgT.lt hA0 (by first | omega | (simp only [List.length_map]; omega) | (simp; done) | (simp; omega))
  have hb11lt := hat11.blk.lt
  refine OI_pure (some 21) (.indexAddr 72 (.tmp 19) (.tmp 20)) (by kernel_rfl) (pure_idxN (b := b11) (o := o11) (len := fs.length) (cap := cap) (kd := .i64) (j := i) (E := 3) (sz := 1) (by_ := 8) (by kernel_rfl) (by kernel_rfl) (by kernel_rfl) (by omega)) ?_
  obtain ⟨x12, hx13⟩ : ∃ x, fs[i]? = some x := ⟨_, List.getElem?_eq_getElem (by first | omega | (simp only [List.length_map]; omega))⟩
  refine OI_cellR 3 (.tmp 21) (o11 + i * 1) (nt x12) (some 22) (by kernel_rfl) (by kernel_rfl) hat11.blk (m := 1) (by kernel_rfl) (AtR.cell0 hat11 (es_at hx13) rfl) ?_
  refine Os 6 [(0, .slice (some ⟨b11, o11, none⟩) fs.length cap), (4, pt b4), (5, nt s5), (6, nt ((i : Nat) : Int)), (24, .bool (decide (x12 < 0)))] ?_
  by_cases hg14 : x12 < 0
  ·
   refine OI_eq [(0, .slice (some ⟨b11, o11, none⟩) fs.length cap), (4, pt b4), (5, nt s5), (6, nt ((i : Nat) : Int)), (24, .bool true)] (by first | simp [hg14] | rfl) ?_
   refine Os 12 [(0, .slice (some ⟨b11, o11, none⟩) fs.length cap), (4, pt b4), (5, nt s5), (6, nt ((i : Nat) : Int)), (25, undef), (26, undef), (27, undef), (28, undef), (29, undef), (30, .bool true)] ?_
   refine Oe ?_
   refine V_true rfl ?_
   refine Vr ?_
   refine Os 2 [(2, .pointer none), (3, nt 1)] ?_
   refine Oe ?_
   refine V_ret ?_
   refine X_ret_then ?_
   refine X_ret_block ?_
   refine X_ret_then ?_
   refine X_ret_then ?_
   refine X_ret_block ?_
   refine X_ret_then ?_
   exact X_return (.tuple #[.pointer none, nt 1]) rfl ⟨_, _, rfl, hK0⟩
  refine OI_eq [(0, .slice (some ⟨b11, o11, none⟩) fs.length cap), (4, pt b4), (5, nt s5), (6, nt ((i : Nat) : Int)), (24, .bool false)] (by first | simp [hg14] | rfl) ?_
  refine Os 8 [(0, .slice (some ⟨b11, o11, none⟩) fs.length cap), (4, pt b4), (5, nt s5), (6, nt ((i : Nat) : Int)), (24, .bool false), (25, .slice (some ⟨b11, o11, none⟩) fs.length cap), (26, nt ((i : Nat) : Int))] ?_
  refine OI_pure (some 27) (.indexAddr 72 (.tmp 25) (.tmp 26)) (by kernel_rfl) (pure_idxN (b := b11) (o := o11) (len := fs.length) (cap := cap) (kd := .i64) (j := i) (E := 3) (sz := 1) (by_ := 8) (by kernel_rfl) (by kernel_rfl) (by kernel_rfl) (by omega)) ?_
  refine OI_cellR 3 (.tmp 27) (o11 + i * 1) (nt x12) (some 28) (by kernel_rfl) (by kernel_rfl) hat11.blk (m := 1) (by kernel_rfl) (AtR.cell0 hat11 (es_at hx13) rfl) ?_
  refine Os 12 [(0, .slice (some ⟨b11, o11, none⟩) fs.length cap), (4, pt b4), (5, nt s5), (6, nt ((i : Nat) : Int)), (25, .slice (some ⟨b11, o11, none⟩) fs.length cap), (26, nt ((i : Nat) : Int)), (27, .pointer (some ⟨b11, o11 + i * 1, none⟩)), (28, nt x12), (29, .bool (decide (x12 > 1073741824))), (30, .bool (decide (x12 > 1073741824)))] ?_
  refine Oe ?_
  refine V_if (x12 > 1073741824) (by kernel_rfl) (fun hc15 => ?_) (fun hc15 => ?_)
  ·
   refine Vr ?_
   refine Os 2 [(2, .pointer none), (3, nt 1)] ?_
   refine Oe ?_
   refine V_ret ?_
   refine X_ret_then ?_
   refine X_ret_block ?_
   refine X_ret_then ?_
   refine X_ret_then ?_
   refine X_ret_block ?_
   refine X_ret_then ?_
   exact X_return (.tuple #[.pointer none, nt 1]) rfl ⟨_, _, rfl, hK0⟩
  refine V_skip ?_
  refine X_then ?_
  refine V_seq ?_
  refine V_draws (acts [11]) (only b2) [[0, 1, 2, 3, 4, 5, 6, 7, 8, 9, 10, 11]] (by kernel_rfl) (by repeat first | exact sure_body (by rintro _ _ ⟨_, _, h, _⟩; exact ⟨_, h⟩) | refine sure_then ?_ | refine sure_block ?_ | refine sure_join ?_) (by kernel_rfl) ?_
  intro w17 hk16 he18 L hL19
  have hsz20 := Keep.size hk16
  replace hB := hB.keep hk16 (fun f => f)
  replace hb4 := hb4.keep hk16 (fun f => f)
  replace hat11 := hat11.keep hk16 (fun f => f)
  replace hK0 := Keep.tr hK0 (Keep.ofNone hk16)
  replace hk8 := Keep.tr hk8 (Keep.ofNone hk16)
  have qhB := hB
  have qhb4 := hb4
  have qhat11 := hat11
  have K21 : Keep (only b2) w17 w17 := Keep.refl _ _
  obtain rfl := List.mem_singleton.1 hL19
  refine Gs [3, 4, 5, 6, 7, 8, 9, 10, 11] [(0, .slice (some ⟨b11, o11, none⟩) fs.length cap), (4, pt b4), (5, nt s5), (6, nt ((i : Nat) : Int)), (25, .slice (some ⟨b11, o11, none⟩) fs.length cap), (26, nt ((i : Nat) : Int)), (27, .pointer (some ⟨b11, o11 + i * 1, none⟩)), (28, nt x12), (29, .bool (decide (x12 > 1073741824))), (33, pt b4)] ?_
  refine Gc 166 (.tmp 33) 0 (.slice (some ⟨b2, 0, none⟩) 10 10) (some 34) qhb4 (by show ¬ (_ = _); omega) rfl ?_
  refine Gs [7, 8, 9, 10, 11] [(0, .slice (some ⟨b11, o11, none⟩) fs.length cap), (4, pt b4), (5, nt s5), (6, nt ((i : Nat) : Int)), (25, .slice (some ⟨b11, o11, none⟩) fs.length cap), (26, nt ((i : Nat) : Int)), (27, .pointer (some ⟨b11, o11 + i * 1, none⟩)), (28, nt x12), (29, .bool (decide (x12 > 1073741824))), (34, .slice (some ⟨b2, 0, none⟩) 10 10), (35, nt ((i : Nat) : Int)), (36, .slice (some ⟨b11, o11, none⟩) fs.length cap), (37, nt ((i : Nat) : Int))] ?_
  refine GI_pure (some 38) (.indexAddr 72 (.tmp 36) (.tmp 37)) (by kernel_rfl) (by kernel_rfl) (pure_idxN (b := b11) (o := o11) (len := fs.length) (cap := cap) (kd := .i64) (j := i) (E := 3) (sz := 1) (by_ := 8) (by kernel_rfl) (by kernel_rfl) (by kernel_rfl) (by omega)) ?_
  refine GI_cellR 3 (.tmp 38) (o11 + i * 1) (nt x12) (some 39) (by kernel_rfl) (by kernel_rfl) (by kernel_rfl) qhat11.blk (by show ¬ (_ = _); omega) (m := 1) (by kernel_rfl) (AtR.cell0 qhat11 (es_at hx13) rfl) ?_
  refine GI_pure (some 40) (.indexAddr 166 (.tmp 34) (.tmp 35)) (by kernel_rfl) (by kernel_rfl) (pure_idxN (b := b2) (o := 0) (len := 10) (cap := 10) (kd := .i64) (j := i) (E := 171) (sz := 3) (by_ := 40) (by kernel_rfl) (by kernel_rfl) (by kernel_rfl) (by omega)) ?_
  refine Gs [11] [(0, .slice (some ⟨b11, o11, none⟩) fs.length cap), (4, pt b4), (5, nt s5), (6, nt ((i : Nat) : Int)), (25, .slice (some ⟨b11, o11, none⟩) fs.length cap), (26, nt ((i : Nat) : Int)), (27, .pointer (some ⟨b11, o11 + i * 1, none⟩)), (28, nt x12), (29, .bool (decide (x12 > 1073741824))), (39, nt x12), (41, .pointer (some ⟨b2, 0 + i * 3, none⟩))] ?_
  refine GI_final 11 (by kernel_rfl) (by kernel_rfl) ?_
  refine OI_set (m := 1) (kd := false) 3 (.tmp 41) (.tmp 39) (0 + i * 3) (nt x12) [nt x12] none (by kernel_rfl) (by kernel_rfl) (by kernel_rfl) hB (by kernel_rfl) (by kernel_rfl) (by kernel_rfl) (by rw [hLx]; show 0 + i * 3 + 1 ≤ 30; omega) (by simp [Value.oneCell']) ?_
  intro w22 hb2_25 hk23 hz24
  replace hb2_25 : Blk w22 b2 (over Lx (0 + i * 3) [nt x12]) 171 := hb2_25
  have hsz26 := Keep.size hk23
  replace hb4 := hb4.keep hk23 (by show ¬ (_ = _); omega)
  replace hat11 := hat11.keep hk23 (by show ¬ (_ = _); omega)
  replace hK0 := Keep.fresh hK0 hk23 (by intro i hi hs; first | exact hs | exact Or.inl hs | exact Or.inr hs | (exfalso; have hs2 : i = b2 := hs; omega))
  replace hk8 := Keep.fresh hk8 hk23 (by intro i hi hs; first | exact hs | exact Or.inl hs | exact Or.inr hs | (exfalso; have hs2 : i = b2 := hs; omega))
  refine Oe ?_
  refine V_region ?_
  refine Os 3 [(0, .slice (some ⟨b11, o11, none⟩) fs.length cap), (4, pt b4), (6, nt ((i : Nat) : Int)), (25, .slice (some ⟨b11, o11, none⟩) fs.length cap), (26, nt ((i : Nat) : Int)), (27, .pointer (some ⟨b11, o11 + i * 1, none⟩)), (28, nt x12), (29, .bool (decide (x12 > 1073741824))), (42, nt s5), (43, .slice (some ⟨b11, o11, none⟩) fs.length cap), (44, nt ((i : Nat) : Int))] ?_
  refine OI_pure (some 45) (.indexAddr 72 (.tmp 43) (.tmp 44)) (by kernel_rfl) (pure_idxN (b := b11) (o := o11) (len := fs.length) (cap := cap) (kd := .i64) (j := i) (E := 3) (sz := 1) (by_ := 8) (by kernel_rfl) (by kernel_rfl) (by kernel_rfl) (by omega)) ?_
  refine OI_cellR 3 (.tmp 45) (o11 + i * 1) (nt x12) (some 46) (by kernel_rfl) (by kernel_rfl) hat11.blk (m := 1) (by kernel_rfl) (AtR.cell0 hat11 (es_at hx13) rfl) ?_
  refine Os 7 [(0, .slice (some ⟨b11, o11, none⟩) fs.length cap), (4, pt b4), (5, nt (IntKind.i64.wrap (s5 + x12))), (6, nt ((i : Nat) : Int)), (25, .slice (some ⟨b11, o11, none⟩) fs.length cap), (26, nt ((i : Nat) : Int)), (27, .pointer (some ⟨b11, o11 + i * 1, none⟩)), (28, nt x12), (29, .bool (decide (x12 > 1073741824)))] ?_
  refine OI_end rfl ?_
  refine X_block ?_
  refine X_then ?_
  refine V_region ?_
  have hw27 : IntKind.i64.wrap (((i : Nat) : Int) + 1) = ((i + 1 : Nat) : Int) := (wrap64_id (by omega) (by omega)).trans (by omega)
  refine Os 2 [(0, .slice (some ⟨b11, o11, none⟩) fs.length cap), (4, pt b4), (5, nt (IntKind.i64.wrap (s5 + x12))), (18, nt (IntKind.i64.wrap (((i : Nat) : Int) + 1))), (25, .slice (some ⟨b11, o11, none⟩) fs.length cap), (26, nt ((i : Nat) : Int)), (27, .pointer (some ⟨b11, o11 + i * 1, none⟩)), (28, nt x12), (29, .bool (decide (x12 > 1073741824)))] ?_
  refine OI_eq [(0, .slice (some ⟨b11, o11, none⟩) fs.length cap), (4, pt b4), (5, nt (IntKind.i64.wrap (s5 + x12))), (18, nt ((i + 1 : Nat) : Int)), (25, .slice (some ⟨b11, o11, none⟩) fs.length cap), (26, nt ((i : Nat) : Int)), (27, .pointer (some ⟨b11, o11 + i * 1, none⟩)), (28, nt x12), (29, .bool (decide (x12 > 1073741824)))] (by rw [hw27]) ?_
  refine Os 3 [(0, .slice (some ⟨b11, o11, none⟩) fs.length cap), (4, pt b4), (5, nt (IntKind.i64.wrap (s5 + x12))), (6, nt ((i + 1 : Nat) : Int)), (25, .slice (some ⟨b11, o11, none⟩) fs.length cap), (26, nt ((i : Nat) : Int)), (27, .pointer (some ⟨b11, o11 + i * 1, none⟩)), (28, nt x12), (29, .bool (decide (x12 > 1073741824)))] ?_
  refine OI_end rfl ?_
  exact V_again (k7 - 1) (by omega) [(0, .slice (some ⟨b11, o11, none⟩) fs.length cap), (4, pt b4), (5, nt (IntKind.i64.wrap (s5 + x12))), (6, nt ((i + 1 : Nat) : Int))] rfl ⟨i + 1, IntKind.i64.wrap (s5 + x12), (over Lx (0 + i * 3) [nt x12]), by omega, hb2_25, by rw [over_length (by rw [hLx]; show 0 + i * 3 + 1 ≤ 30; omega)]; exact hLx, hk8, rfl⟩
 refine V_exit ?_
 refine X_exit_then ?_
 refine X_exit_then ?_
 refine X_exit_here ?_
 refine X_then ?_
 refine V_seq ?_
 refine Vr ?_
 refine Os 2 [(4, pt b4), (49, .bool (decide (s5 > 1073741824)))] ?_
 refine Oe ?_
 refine V_if (s5 > 1073741824) (by kernel_rfl) (fun hc28 => ?_) (fun hc28 => ?_)
 ·
  refine Vr ?_
  refine Os 2 [(2, .pointer none), (3, nt 1)] ?_
  refine Oe ?_
  refine V_ret ?_
  refine X_ret_then ?_
  exact X_return (.tuple #[.pointer none, nt 1]) rfl ⟨_, _, rfl, hK0⟩
 refine V_skip ?_
 refine X_then ?_
 refine Vr ?_
 refine Os 3 [(2, pt b4), (3, nt 0)] ?_
 refine Oe ?_
 refine V_ret ?_
 exact X_return (.tuple #[pt b4, nt 0]) rfl ⟨_, _, rfl, hK0⟩

set_option maxRecDepth 10000 in
theorem rnew11_weak (w : World) : Calls Tryz.prog 40 #[] w fun e w' => ∃ pv, e = .returned (.pointer pv) ∧ Keep none_ w w' := by
 have hK0 : Keep none_ w w := Keep.refl _ _
 have hzhK0 := Keep.size hK0
 refine enterV Tryz.func40 rfl [] 5 rfl rfl rfl ?_
 refine V_pick [] rfl ?_
 refine Vr ?_
 refine Os 1 [] ?_
 refine Oe ?_
 refine V_seq ?_
 refine V_draws (acts [0, 1, 3]) none_ [[0, 1, 2, 3, 4], [1, 0, 2, 3, 4]] (by kernel_rfl) (by repeat first | exact sure_body (by rintro _ _ ⟨_, h, _⟩; exact ⟨_, h⟩) | refine sure_then ?_ | refine sure_block ?_ | refine sure_join ?_) (by kernel_rfl) ?_
 intro w2 hk1 he3 L hL4
 have hsz5 := Keep.size hk1
 replace hK0 := Keep.tr hK0 (Keep.ofNone hk1)
 have K6 : Keep none_ w2 w2 := Keep.refl _ _
 simp only [List.mem_cons, List.not_mem_nil, or_false] at hL4
 rcases hL4 with rfl | rfl
 ·
  refine GI_make (E := 222) (sz := 7) (by_ := 56) (m := 12) (kd := .i64) (zv := .agg #[.bool false, nt 0, nt 0, nt 0, nt 0, nt 0, nt 0]) 172 (.const (Value.int IntKind.i64 12)) (.const (Value.int IntKind.i64 12)) ((List.replicate 12 [.bool false, nt 0, nt 0, nt 0, nt 0, nt 0, nt 0]).flatten) (some 1) (by kernel_rfl) (by kernel_rfl) K6 (by kernel_rfl) (by kernel_rfl) (by kernel_rfl) (by kernel_rfl) (by decide) (by decide) (by kernel_rfl) ?_
  intro b7 w7 e7 hb7 k7 z7 K8
  have hsz9 := Keep.size k7
  replace hK0 := Keep.tr hK0 (Keep.ofNone k7)
  have hb7lt := hb7.lt
  refine GI_make (E := 228) (sz := 9) (by_ := 88) (m := 40) (kd := .i64) (zv := .agg #[.slice none 0 0, .bool false, nt 0, nt 0, nt 0, nt 0, nt 0, nt 0, nt 0]) 173 (.const (Value.int IntKind.i64 40)) (.const (Value.int IntKind.i64 40)) ((List.replicate 40 [.slice none 0 0, .bool false, nt 0, nt 0, nt 0, nt 0, nt 0, nt 0, nt 0]).flatten) (some 2) (by kernel_rfl) (by kernel_rfl) K8 (by kernel_rfl) (by kernel_rfl) (by kernel_rfl) (by kernel_rfl) (by decide) (by decide) (by kernel_rfl) ?_
  intro b10 w10 e10 hb10 k10 z10 K11
  have hsz12 := Keep.size k10
  replace hb7 := hb7.keep k10 (fun f => f)
  replace hK0 := Keep.tr hK0 (Keep.ofNone k10)
  have hb10lt := hb10.lt
  refine Gs [3, 4] [(3, .agg #[.slice (some ⟨b7, 0, none⟩) 12 12, .slice (some ⟨b10, 0, none⟩) 40 40])] ?_
  refine GI_box 175 (.tmp 3) (.agg #[.slice (some ⟨b7, 0, none⟩) 12 12, .slice (some ⟨b10, 0, none⟩) 40 40]) [.slice (some ⟨b7, 0, none⟩) 12 12, .slice (some ⟨b10, 0, none⟩) 40 40] (some 4) (by kernel_rfl) (by kernel_rfl) K11 (by kernel_rfl) (by kernel_rfl) ?_
  intro b13 w13 e13 hb13 k13 z13 K14
  have hsz15 := Keep.size k13
  replace hb7 := hb7.keep k13 (fun f => f)
  replace hb10 := hb10.keep k13 (fun f => f)
  replace hK0 := Keep.tr hK0 (Keep.ofNone k13)
  have hb13lt := hb13.lt
  refine Gs [] [(0, pt b13)] ?_
  refine GI_end ?_
  refine X_then ?_
  refine V_ret ?_
  exact X_return _ rfl ⟨_, rfl, hK0⟩
 ·
  refine GI_make (E := 228) (sz := 9) (by_ := 88) (m := 40) (kd := .i64) (zv := .agg #[.slice none 0 0, .bool false, nt 0, nt 0, nt 0, nt 0, nt 0, nt 0, nt 0]) 173 (.const (Value.int IntKind.i64 40)) (.const (Value.int IntKind.i64 40)) ((List.replicate 40 [.slice none 0 0, .bool false, nt 0, nt 0, nt 0, nt 0, nt 0, nt 0, nt 0]).flatten) (some 2) (by kernel_rfl) (by kernel_rfl) K6 (by kernel_rfl) (by kernel_rfl) (by kernel_rfl) (by kernel_rfl) (by decide) (by decide) (by kernel_rfl) ?_
  intro b16 w16 e16 hb16 k16 z16 K17
  have hsz18 := Keep.size k16
  replace hK0 := Keep.tr hK0 (Keep.ofNone k16)
  have hb16lt := hb16.lt
  refine GI_make (E := 222) (sz := 7) (by_ := 56) (m := 12) (kd := .i64) (zv := .agg #[.bool false, nt 0, nt 0, nt 0, nt 0, nt 0, nt 0]) 172 (.const (Value.int IntKind.i64 12)) (.const (Value.int IntKind.i64 12)) ((List.replicate 12 [.bool false, nt 0, nt 0, nt 0, nt 0, nt 0, nt 0]).flatten) (some 1) (by kernel_rfl) (by kernel_rfl) K17 (by kernel_rfl) (by kernel_rfl) (by kernel_rfl) (by kernel_rfl) (by decide) (by decide) (by kernel_rfl) ?_
  intro b19 w19 e19 hb19 k19 z19 K20
  have hsz21 := Keep.size k19
  replace hb16 := hb16.keep k19 (fun f => f)
  replace hK0 := Keep.tr hK0 (Keep.ofNone k19)
  have hb19lt := hb19.lt
  refine Gs [3, 4] [(3, .agg #[.slice (some ⟨b19, 0, none⟩) 12 12, .slice (some ⟨b16, 0, none⟩) 40 40])] ?_
  refine GI_box 175 (.tmp 3) (.agg #[.slice (some ⟨b19, 0, none⟩) 12 12, .slice (some ⟨b16, 0, none⟩) 40 40]) [.slice (some ⟨b19, 0, none⟩) 12 12, .slice (some ⟨b16, 0, none⟩) 40 40] (some 4) (by kernel_rfl) (by kernel_rfl) K20 (by kernel_rfl) (by kernel_rfl) ?_
  intro b22 w22 e22 hb22 k22 z22 K23
  have hsz24 := Keep.size k22
  replace hb16 := hb16.keep k22 (fun f => f)
  replace hb19 := hb19.keep k22 (fun f => f)
  replace hK0 := Keep.tr hK0 (Keep.ofNone k22)
  have hb22lt := hb22.lt
  refine Gs [] [(0, pt b22)] ?_
  refine GI_end ?_
  refine X_then ?_
  refine V_ret ?_
  exact X_return _ rfl ⟨_, rfl, hK0⟩

set_option maxRecDepth 10000 in
theorem rnew12_weak (A : Option Addr) (cap : Nat) (ts : List Trk) (w : World) (hA : SlT w 18 Trk.cells A cap ts) (hok : okTs ts) : Calls Tryz.prog 34 #[.slice A ts.length cap] w fun e w' => ∃ pv, e = .returned (.tuple #[.pointer pv, .int .i64 0]) ∧ Keep none_ w w' := by
 have hAlt := SlT.lt hA
 have hok1 := hok.1
 have hok2 := hok.2.1
 have hK0 : Keep none_ w w := Keep.refl _ _
 have hzhK0 := Keep.size hK0
 refine enterV Tryz.func34 rfl [.slice A ts.length cap] 30 rfl rfl rfl ?_
 refine V_pick [(0, .slice A ts.length cap)] rfl ?_
 refine Vr ?_
 refine Os 2 [(0, .slice A ts.length cap)] ?_
 refine Oe ?_
 refine V_seq ?_
 refine Vr ?_
 refine Os 4 [(0, .slice A ts.length cap), (8, .bool (decide (((ts.length : Nat) : Int) < 1)))] ?_
 refine OI_eq [(0, .slice A ts.length cap), (8, .bool false)] (by rw [decide_eq_false (by omega : ¬ (((ts.length : Nat) : Int) < 1))]) ?_
 refine Os 8 [(0, .slice A ts.length cap), (12, .bool (decide (((ts.length : Nat) : Int) > 4)))] ?_
 refine Oe ?_
 refine V_pick [(0, .slice A ts.length cap), (12, .bool (decide (((ts.length : Nat) : Int) > 4)))] rfl ?_
 refine V_eq [(0, .slice A ts.length cap), (12, .bool false)] (by rw [decide_eq_false (by omega : ¬ (((ts.length : Nat) : Int) > 4))]) ?_
 refine V_false rfl ?_
 refine V_skip ?_
 refine X_then ?_
 refine V_seq ?_
 refine Vr ?_
 refine Os 1 [(0, .slice A ts.length cap), (4, nt 0)] ?_
 refine Oe ?_
 refine V_block ?_
 refine V_pick [(0, .slice A ts.length cap), (4, nt 0)] rfl ?_
 refine V_loop (fun k wI e => ∃ i : Nat, (k + i = ts.length) ∧ Keep none_ w wI ∧ e = [(0, .slice A ts.length cap), (4, nt ((i : Nat) : Int))]) ts.length ⟨0, rfl, Keep.refl _ _, rfl⟩ ?_
 rintro k4 w3 _ ⟨i, hki, hk5, rfl⟩
 have hsz6 := Keep.size hk5
 replace hA := SlT.keep0 hA hk5
 replace hK0 := Keep.tr hK0 (Keep.ofNone hk5)
 have hzhk5 := Keep.size hk5
 refine V_seq ?_
 refine Vr ?_
 refine Os 4 [(0, .slice A ts.length cap), (4, nt ((i : Nat) : Int)), (16, .bool (decide (((i : Nat) : Int) < ((ts.length : Nat) : Int))))] ?_
 refine Oe ?_
 refine V_if (((i : Nat) : Int) < ((ts.length : Nat) : Int)) (by kernel_rfl) (fun hc7 => ?_) (fun hc7 => ?_)
 ·
  refine V_skip ?_
  refine X_then ?_
  refine V_seq ?_
  refine V_block ?_
  refine Vr ?_
  refine Os 2 [(0, .slice A ts.length cap), (4, nt ((i : Nat) : Int)), (19, .slice A ts.length cap), (20, nt ((i : Nat) : Int))] ?_
  obtain ⟨b8, o8, L8, T8, rfl, hat8⟩ := SlT.open_ hA (by first | omega | (simp only [List.length_map]; omega) | (simp; done) | (simp; omega))
  have hb8lt := hat8.blk.lt
  have hob9 := hAlt b8 ⟨_, rfl, rfl⟩
  refine OI_pure (some 21) (.indexAddr 29 (.tmp 19) (.tmp 20)) (by kernel_rfl) (pure_idxN (b := b8) (o := o8) (len := ts.length) (cap := cap) (kd := .i64) (j := i) (E := 27) (sz := 18) (by_ := 144) (by kernel_rfl) (by kernel_rfl) (by kernel_rfl) (by omega)) ?_
  obtain ⟨x10, hx11⟩ : ∃ x, ts[i]? = some x := ⟨_, List.getElem?_eq_getElem (by first | omega | (simp only [List.length_map]; omega))⟩
  have hokx : okTrk x10 := hok.2.2 x10 (List.mem_of_getElem? hx11)
  refine Oa 27 (.tmp 21) (o8 + i * 18) (Trk.cells x10) (some 22) 18 hat8.blk (At.elem' hat8 (es_at hx11)) (At.len hat8 (es_at hx11)) ?_
  refine Ok { callee := (Callee.value (Operand.func 78)), args := #[(Operand.tmp 22)], argTypes := #[27] } 78 #[.agg (Trk.cells x10).toArray] (some 23) (r10Is_spec x10 _) ?_
  rintro _ w12 ⟨rfl, hk13⟩
  refine ⟨_, rfl, ?_⟩
  have hsz14 := Keep.size hk13
  replace hat8 := hat8.keep hk13 (fun f => f)
  replace hK0 := Keep.tr hK0 (Keep.ofNone hk13)
  replace hk5 := Keep.tr hk5 (Keep.ofNone hk13)
  refine Os 6 [(0, .slice (some ⟨b8, o8, none⟩) ts.length cap), (4, nt ((i : Nat) : Int)), (24, .bool (!(decide (okTrk x10))))] ?_
  refine Oe ?_
  refine V_pick [(0, .slice (some ⟨b8, o8, none⟩) ts.length cap), (4, nt ((i : Nat) : Int)), (24, .bool (!(decide (okTrk x10))))] rfl ?_
  refine V_eq [(0, .slice (some ⟨b8, o8, none⟩) ts.length cap), (4, nt ((i : Nat) : Int)), (24, .bool false)] (by rw [decide_eq_true hokx]; rfl) ?_
  refine V_false rfl ?_
  refine V_skip ?_
  refine X_block ?_
  refine X_then ?_
  refine V_region ?_
  have hw16 : IntKind.i64.wrap (((i : Nat) : Int) + 1) = ((i + 1 : Nat) : Int) := (wrap64_id (by omega) (by omega)).trans (by omega)
  refine Os 2 [(0, .slice (some ⟨b8, o8, none⟩) ts.length cap), (18, nt (IntKind.i64.wrap (((i : Nat) : Int) + 1)))] ?_
  refine OI_eq [(0, .slice (some ⟨b8, o8, none⟩) ts.length cap), (18, nt ((i + 1 : Nat) : Int))] (by rw [hw16]) ?_
  refine Os 3 [(0, .slice (some ⟨b8, o8, none⟩) ts.length cap), (4, nt ((i + 1 : Nat) : Int))] ?_
  refine OI_end rfl ?_
  exact V_again (k4 - 1) (by omega) [(0, .slice (some ⟨b8, o8, none⟩) ts.length cap), (4, nt ((i + 1 : Nat) : Int))] rfl ⟨i + 1, by omega, hk5, rfl⟩
 refine V_exit ?_
 refine X_exit_then ?_
 refine X_exit_then ?_
 refine X_exit_here ?_
 refine X_then ?_
 refine Vr ?_
 refine OI_slit (E := 27) (zv := .agg #[nt 0, nt 0, nt 0, nt 0, nt 0, nt 0, nt 0, nt 0, nt 0, nt 0, nt 0, nt 0, nt 0, nt 0, nt 0, nt 0, nt 0, nt 0]) (sz := 18) (by_ := 144) 29 0 #[] [] [] (some 25) (by kernel_rfl) (by kernel_rfl) (by kernel_rfl) (by omega) rfl (by omega) (by intro v hv; cases hv) (by kernel_rfl) rfl ?_
 intro b17 w17 e17 hb17 k17 z17
 have hsz18 := Keep.size k17
 replace hA := SlT.keep0 hA k17
 replace hK0 := Keep.tr hK0 (Keep.ofNone k17)
 have hb17lt := hb17.lt
 refine Os 2 [(25, .slice (some ⟨b17, 0, none⟩) 0 0), (26, .slice A ts.length cap)] ?_
 have hl19 : ts.length = ts.length := rfl
 have hy19 := SlT.slr hA
 refine OI_append (t := 29) (at2 := 29) (E := 27) (E2 := 27) (sz := 18) (by_ := 144) (zv := .agg #[nt 0, nt 0, nt 0, nt 0, nt 0, nt 0, nt 0, nt 0, nt 0, nt 0, nt 0, nt 0, nt 0, nt 0, nt 0, nt 0, nt 0, nt 0]) (m := ([] : List Trk).length) (k := ts.length) (.tmp 25) (.tmp 26) (.slice (some ⟨b17, 0, none⟩) 0 0) (.slice A ts.length cap) (some 27) (by kernel_rfl) (by kernel_rfl) (by kernel_rfl) (by kernel_rfl) (by kernel_rfl) (by kernel_rfl) (by kernel_rfl) (SlT.slr (slt_blk (xs := ([] : List Trk)) (f := Trk.cells) (sz := 18) hb17 Trk.len rfl)) hy19 (fun u hu => by obtain ⟨z, _, hz⟩ := List.mem_flatMap.1 hu; exact Trk.one z u hz) (by first | omega | ((repeat first | rw [List.length_append] | rw [List.length_cons] | rw [List.length_nil] | rw [List.length_take] | rw [List.length_drop]) <;> omega)) (by omega) (by first | omega | ((repeat first | rw [List.length_append] | rw [List.length_cons] | rw [List.length_nil] | rw [List.length_take] | rw [List.length_drop]) <;> omega)) (by omega) ?_
 intro vv9 w19 hap
 obtain ⟨A19, cap19, rfl, hA19, hk19, own19x⟩ := app_many (f := Trk.cells) (xs := ([] : List Trk)) (ys := ts) (A := (some ⟨b17, 0, none⟩)) (cap := 0) hap hl19 Trk.len
 replace hk19 : Keep (only b17) w17 w19 := hk19.mono (fun i _ h => inA_some h)
 have own19 : ∀ q, inA A19 q → w.heap.size ≤ q := fun q hq => by rcases own19x q hq with h | h; (have h9 := inA_some h; show w.heap.size ≤ q; omega); (show w.heap.size ≤ q; omega)
 rw [List.nil_append] at hA19
 have hsz20 := Keep.size hk19
 replace hA := SlT.keep hA hk19 (fun q hq hs => by have hs : q = b17 := hs; have g1 := hAlt q hq; omega)
 replace hK0 := Keep.fresh hK0 hk19 (by intro i hi hs; first | exact hs | exact Or.inl hs | exact Or.inr hs | (exfalso; have hs2 : i = b17 := hs; omega))
 have lt19 := SlT.lt hA19
 have hcap19 := SlT.cap_le hA19
 refine Os 4 [(28, .agg #[.slice A19 ts.length cap19, .slice none 0 0])] ?_
 refine OI_box 152 (.tmp 28) (.agg #[.slice A19 ts.length cap19, .slice none 0 0]) [.slice A19 ts.length cap19, .slice none 0 0] (some 29) (by kernel_rfl) (by kernel_rfl) (by kernel_rfl) ?_
 intro b21 w21 e21 hb21 k21 z21
 have hsz22 := Keep.size k21
 replace hA := SlT.keep0 hA k21
 replace hA19 := SlT.keep0 hA19 k21
 replace hK0 := Keep.tr hK0 (Keep.ofNone k21)
 have hb21lt := hb21.lt
 refine Os 7 [(2, pt b21), (3, nt 0)] ?_
 refine Oe ?_
 refine V_ret ?_
 exact X_return _ rfl ⟨_, rfl, hK0⟩
end Go.Al


namespace Go.Al
open Go Go.RowKit Go.Proofs
theorem new_ok (A : Option Addr) (cap : Nat) (fs : List Int) (w : World) (hA : ArgT w 1 intc A cap fs) (hn : fs.length ≤ 100000) (hok : okP fs) : Calls Tryz.prog 26 #[.slice A fs.length cap] w fun e w' => ∃ l F, e = .returned (.tuple #[.pointer (some ⟨l, 0, none⟩), .int .i64 0]) ∧ Led F w' l (newX fs 10) [] ∧ Keep none_ w w' ∧ (∀ q, F q → w.heap.size ≤ q) :=
  (new_spec6 A cap fs w hA hn).mono (by
    rintro e w' (⟨_, h⟩ | ⟨h, _⟩)
    · exact h
    · exact absurd hok h)
def rfF : List Int := [1000, 1000, 1000, 1000, 1000, 1000, 1000, 1000, 1000, 1000]
theorem rfF_step {i : Nat} (h : i < 10) : rfF.take (i + 1) = rfF.take i ++ [1000] := by
  have h2 : i < rfF.length := h
  rw [List.take_succ_eq_append_getElem h2]
  congr 2
  exact (by decide : ∀ x ∈ rfF, x = 1000) _ (List.getElem_mem h2)
def rfX : List Acc := newX rfF 10
theorem rfF_ok : okP rfF := by
  refine ⟨by decide, by decide, ?_⟩
  have h : tot (newX rfF 10) = 10000 := by kernel_rfl
  omega

set_option maxRecDepth 10000 in
set_option maxHeartbeats 1000000 in
theorem begin_weak (A : Option Addr) (cap : Nat) (ts : List Trk) (w : World) (hA : SlT w 18 Trk.cells A cap ts) (hok : okTs ts) : Calls Tryz.prog 15 #[.slice A ts.length cap] w fun e w' => ∃ b r g v l H F G xv yv zv, e = .returned (.pointer (some ⟨b, 0, none⟩)) ∧ Blk w' b [.pointer (some ⟨l, 0, none⟩), .pointer (some ⟨v, 0, none⟩), .pointer (some ⟨r, 0, none⟩), .pointer xv, .pointer yv, .pointer zv, .int .i64 0] 39 ∧ Rfr H w' r g ts [] ∧ VotT F w' v VS.zero ∧ Led G w' l rfX [] ∧ Keep none_ w w' ∧ w.heap.size ≤ b ∧ (∀ q, H q → w.heap.size ≤ q ∧ q ≠ b) ∧ (∀ q, F q → w.heap.size ≤ q ∧ q ≠ b) ∧ (∀ q, G q → w.heap.size ≤ q ∧ q ≠ b) ∧ (∀ q, H q → ¬ F q) ∧ (∀ q, H q → ¬ G q) ∧ (∀ q, F q → ¬ G q) := by
 have hAlt := SlT.lt hA
 have hK0 : Keep none_ w w := Keep.refl _ _
 have hzhK0 := Keep.size hK0
 refine enterV Tryz.func15 rfl [.slice A ts.length cap] 76 rfl rfl rfl ?_
 refine V_pick [(0, .slice A ts.length cap)] rfl ?_
 refine Vr ?_
 refine Os 1 [(0, .slice A ts.length cap)] ?_
 refine Oer ?_
 refine Os 1 [(0, .slice A ts.length cap), (3, .slice none 0 0)] ?_
 refine Oe ?_
 refine V_seq ?_
 refine Vr ?_
 refine Os 1 [(0, .slice A ts.length cap), (3, .slice none 0 0), (4, nt 0)] ?_
 refine Oe ?_
 refine V_block ?_
 refine V_pick [(0, .slice A ts.length cap), (3, .slice none 0 0), (4, nt 0)] rfl ?_
 refine V_loop (fun k wI e => ∃ i : Nat, ∃ A2 : Option Addr, ∃ cap2 : Nat, ∃ ms : List Int, (k + i = 10) ∧ (i ≤ 10) ∧ (ms = rfF.take i) ∧ (SlT wI 1 intc A2 cap2 ms) ∧ (∀ q, inA A2 q → w.heap.size ≤ q) ∧ Keep none_ w wI ∧ e = [(0, .slice A ts.length cap), (3, .slice A2 ms.length cap2), (4, nt ((i : Nat) : Int))]) 10 ⟨0, none, 0, [], by omega, by omega, rfl, SlT.nil _ _ _, fun q h => (inA_none h).elim, Keep.refl _ _, rfl⟩ ?_
 rintro k2 w1 _ ⟨i, A2, cap2, ms, hki, hi10, hms, hA2, ow2, hk3, rfl⟩
 have hsz4 := Keep.size hk3
 replace hA := SlT.keep0 hA hk3
 replace hK0 := Keep.tr hK0 (Keep.ofNone hk3)
 have hzhk3 := Keep.size hk3
 have lt2 := SlT.lt hA2
 have hml : ms.length = i := by rw [hms, List.length_take]; show min i 10 = i; omega
 refine V_seq ?_
 refine Vr ?_
 refine Os 2 [(0, .slice A ts.length cap), (3, .slice A2 ms.length cap2), (4, nt ((i : Nat) : Int)), (15, .bool (decide (((i : Nat) : Int) < 10)))] ?_
 refine Oe ?_
 refine V_if (((i : Nat) : Int) < 10) (by kernel_rfl) (fun hc5 => ?_) (fun hc5 => ?_)
 ·
  refine V_skip ?_
  refine X_then ?_
  refine V_seq ?_
  refine V_block ?_
  refine V_region ?_
  refine Os 1 [(0, .slice A ts.length cap), (4, nt ((i : Nat) : Int)), (18, .slice A2 ms.length cap2)] ?_
  refine OI_slit (E := 3) (zv := nt 0) (sz := 1) (by_ := 8) 72 1 #[(0, (Operand.const (Value.int IntKind.i64 1000)))] [nt 1000] [nt 1000] (some 19) (by kernel_rfl) (by kernel_rfl) (by kernel_rfl) (by omega) rfl (by omega) (by intro v hv; simp only [List.mem_cons, List.not_mem_nil, or_false] at hv; rcases hv with rfl <;> rfl) (by kernel_rfl) rfl ?_
  intro b6 w6 e6 hb6 k6 z6
  have hsz7 := Keep.size k6
  replace hA := SlT.keep0 hA k6
  replace hA2 := SlT.keep0 hA2 k6
  replace hK0 := Keep.tr hK0 (Keep.ofNone k6)
  replace hk3 := Keep.tr hk3 (Keep.ofNone k6)
  have hb6lt := hb6.lt
  refine OI_append (t := 72) (at2 := 72) (E := 3) (E2 := 3) (sz := 1) (by_ := 8) (zv := nt 0) (m := ms.length) (k := 1) (.tmp 18) (.tmp 19) (.slice A2 ms.length cap2) (.slice (some ⟨b6, 0, none⟩) 1 1) (some 20) (by kernel_rfl) (by kernel_rfl) (by kernel_rfl) (by kernel_rfl) (by kernel_rfl) (by kernel_rfl) (by kernel_rfl) (SlT.slr hA2) (slr_one hb6 (intc_len 1000)) (intc_one 1000) (by first | omega | (simp only [List.length_nil]; omega)) (by omega) (by first | omega | (simp only [List.length_nil]; omega)) (by omega) ?_
  intro vv9 w8 hap
  obtain ⟨A8, cap8, rfl, hA8, hk8, own8x⟩ := app_one (f := intc) (xs := ms) (x := 1000) (A := A2) (cap := cap2) hap (fun x _ => intc_len x) (intc_len _)
  have own8 : ∀ q, inA A8 q → w.heap.size ≤ q := fun q hq => by rcases own8x q hq with h | h; exact ow2 q h; (show w.heap.size ≤ q; omega)
  have hsz9 := Keep.size hk8
  replace hA := SlT.keep hA hk8 (fun q hq hs => by have g1 := hAlt q hq; have h1 := ow2 q hs; have h2 := lt2 q hs; omega)
  replace hK0 := Keep.fresh hK0 hk8 (by intro i hi hs; first | exact hs | (exfalso; have h1 := ow2 i hs; have h2 := lt2 i hs; omega) | (have h1 := ow2 i hs; have h2 := lt2 i hs; show _ ∨ _; omega))
  replace hk3 := Keep.fresh hk3 hk8 (by intro i hi hs; first | exact hs | (exfalso; have h1 := ow2 i hs; have h2 := lt2 i hs; omega) | (have h1 := ow2 i hs; have h2 := lt2 i hs; show _ ∨ _; omega))
  have lt8 := SlT.lt hA8
  refine Os 4 [(0, .slice A ts.length cap), (3, .slice A8 ((ms ++ [1000]).length) cap8), (4, nt ((i : Nat) : Int))] ?_
  refine OI_end rfl ?_
  refine X_block ?_
  refine X_then ?_
  refine V_region ?_
  have hw10 : IntKind.i64.wrap (((i : Nat) : Int) + 1) = ((i + 1 : Nat) : Int) := (wrap64_id (by omega) (by omega)).trans (by omega)
  refine Os 2 [(0, .slice A ts.length cap), (3, .slice A8 ((ms ++ [1000]).length) cap8), (17, nt (IntKind.i64.wrap (((i : Nat) : Int) + 1)))] ?_
  refine OI_eq [(0, .slice A ts.length cap), (3, .slice A8 ((ms ++ [1000]).length) cap8), (17, nt ((i + 1 : Nat) : Int))] (by rw [hw10]) ?_
  refine Os 3 [(0, .slice A ts.length cap), (3, .slice A8 ((ms ++ [1000]).length) cap8), (4, nt ((i + 1 : Nat) : Int))] ?_
  refine OI_end rfl ?_
  exact V_again (k2 - 1) (by omega) [(0, .slice A ts.length cap), (3, .slice A8 ((ms ++ [1000]).length) cap8), (4, nt ((i + 1 : Nat) : Int))] rfl ⟨i + 1, A8, cap8, ms ++ [1000], by omega, by omega, by rw [rfF_step (by omega), ← hms], hA8, own8, hk3, rfl⟩
 refine V_exit ?_
 refine X_exit_then ?_
 refine X_exit_then ?_
 refine X_exit_here ?_
 refine X_then ?_
 refine Vr ?_
 refine Os 1 [(0, .slice A ts.length cap), (3, .slice A2 ms.length cap2), (22, .slice A2 ms.length cap2)] ?_
 have hie : i = 10 := by omega
 replace hms : ms = rfF := by rw [hms, hie]; rfl
 refine Ok { callee := (Callee.value (Operand.func 26)), args := #[(Operand.tmp 22)], argTypes := #[72] } 26 #[.slice A2 ms.length cap2] (some 23) (new_ok A2 cap2 ms _ (SlT.arg hA2) (by omega) (by rw [hms]; exact rfF_ok)) ?_
 rintro _ w11 ⟨l13, F14, rfl, ho15, hk12, hge16⟩
 refine ⟨_, rfl, ?_⟩
 have hsz17 := Keep.size hk12
 replace hA := SlT.keep0 hA hk12
 replace hA2 := SlT.keep0 hA2 hk12
 replace hK0 := Keep.tr hK0 (Keep.ofNone hk12)
 replace ho15 : Led F14 w11 l13 rfX [] := by rw [hms] at ho15; exact ho15
 have own18 : ∀ q, F14 q → w1.heap.size ≤ q := fun q hq => by have h1 := hge16 q hq; omega
 have lt19 := Led.lt ho15
 have dis20 : ∀ q, F14 q → ¬ inA A q := fun q h1 h2 => by have h3 := hge16 q h1; have h4 := hAlt q h2; omega
 have dis21 : ∀ q, F14 q → ¬ inA A2 q := fun q h1 h2 => by have h3 := hge16 q h1; have h4 := lt2 q h2; omega
 have hl13lt : l13 < w11.heap.size := Led.lt ho15 _ (Led.at_ ho15)
 have hl13ge := hge16 _ (Led.at_ ho15)
 refine Os 7 [(0, .slice A ts.length cap), (3, .slice A2 ms.length cap2), (5, pt l13), (6, nt 0)] ?_
 refine Oer ?_
 refine Os 1 [(0, .slice A ts.length cap), (5, pt l13), (6, nt 0), (27, .slice A2 ms.length cap2)] ?_
 refine Ok { callee := (Callee.value (Operand.func 39)), args := #[(Operand.tmp 27)], argTypes := #[72] } 39 #[.slice A2 ms.length cap2] (some 28) (rnew6_weak A2 cap2 ms _ (SlT.arg hA2) (by omega)) ?_
 rintro _ w22 ⟨pv24, n25, rfl, hk23⟩
 refine ⟨_, rfl, ?_⟩
 have hsz26 := Keep.size hk23
 replace hA := SlT.keep0 hA hk23
 replace hA2 := SlT.keep0 hA2 hk23
 replace hK0 := Keep.tr hK0 (Keep.ofNone hk23)
 replace ho15 := Led.keep ho15 hk23 (fun _ _ f => f)
 refine Os 7 [(0, .slice A ts.length cap), (5, pt l13), (6, nt 0), (7, .pointer pv24)] ?_
 refine Oer ?_
 refine Os 1 [(0, .slice A ts.length cap), (5, pt l13), (6, nt 0), (7, .pointer pv24), (32, .slice A ts.length cap)] ?_
 refine Ok { callee := (Callee.value (Operand.func 35)), args := #[(Operand.tmp 32)], argTypes := #[29] } 35 #[.slice A ts.length cap] (some 33) (rnw_spec A cap ts _ hA hok) ?_
 rintro _ w27 ⟨r29, gg33, H30, rfl, hR31, hk28, hge32⟩
 refine ⟨_, rfl, ?_⟩
 have hsz34 := Keep.size hk28
 replace hA := SlT.keep0 hA hk28
 replace hA2 := SlT.keep0 hA2 hk28
 replace hK0 := Keep.tr hK0 (Keep.ofNone hk28)
 replace ho15 := Led.keep ho15 hk28 (fun _ _ f => f)
 have own35 : ∀ q, H30 q → w22.heap.size ≤ q := fun q hq => by have h1 := hge32 q hq; omega
 have lt36 := Rfr.lt hR31
 have dis37 : ∀ q, H30 q → ¬ inA A q := fun q h1 h2 => by have h3 := hge32 q h1; have h4 := hAlt q h2; omega
 have dis38 : ∀ q, H30 q → ¬ inA A2 q := fun q h1 h2 => by have h3 := hge32 q h1; have h4 := lt2 q h2; omega
 have dis39 : ∀ q, H30 q → ¬ F14 q := fun q h1 h2 => by have h3 := hge32 q h1; have h4 := lt19 q h2; omega
 have hr29lt : r29 < w27.heap.size := Rfr.lt hR31 _ (Rfr.at_ hR31)
 have hr29ge := hge32 _ (Rfr.at_ hR31)
 refine Os 7 [(0, .slice A ts.length cap), (5, pt l13), (6, nt 0), (7, .pointer pv24), (9, pt r29), (10, nt 0)] ?_
 refine Oer ?_
 refine Os 1 [(5, pt l13), (6, nt 0), (7, .pointer pv24), (9, pt r29), (10, nt 0), (37, .slice A ts.length cap)] ?_
 refine Ok { callee := (Callee.value (Operand.func 34)), args := #[(Operand.tmp 37)], argTypes := #[29] } 34 #[.slice A ts.length cap] (some 38) (rnew12_weak A cap ts _ hA hok) ?_
 rintro _ w40 ⟨pv42, rfl, hk41⟩
 refine ⟨_, rfl, ?_⟩
 have hsz43 := Keep.size hk41
 replace hA := SlT.keep0 hA hk41
 replace hA2 := SlT.keep0 hA2 hk41
 replace hK0 := Keep.tr hK0 (Keep.ofNone hk41)
 replace ho15 := Led.keep ho15 hk41 (fun _ _ f => f)
 replace hR31 := Rfr.keep hR31 hk41 (fun _ _ f => f)
 refine Os 7 [(5, pt l13), (6, nt 0), (7, .pointer pv24), (9, pt r29), (10, nt 0), (11, .pointer pv42), (12, nt 0)] ?_
 refine Oer ?_
 refine Os 1 [(5, pt l13), (6, nt 0), (7, .pointer pv24), (9, pt r29), (10, nt 0), (11, .pointer pv42), (12, nt 0), (41, pt l13)] ?_
 refine Ok { callee := (Callee.value (Operand.func 27)), args := #[], argTypes := #[] } 27 #[] (some 42) (new_votT _) ?_
 rintro _ w46 ⟨g48, F49, rfl, ho50, hk47, hge51⟩
 refine ⟨_, rfl, ?_⟩
 have hsz52 := Keep.size hk47
 replace hA := SlT.keep0 hA hk47
 replace hA2 := SlT.keep0 hA2 hk47
 replace hK0 := Keep.tr hK0 (Keep.ofNone hk47)
 replace ho15 := Led.keep ho15 hk47 (fun _ _ f => f)
 replace hR31 := Rfr.keep hR31 hk47 (fun _ _ f => f)
 have own53 : ∀ q, F49 q → w40.heap.size ≤ q := fun q hq => by have h1 := hge51 q hq; omega
 have lt54 := VotT.lt ho50
 have dis55 : ∀ q, F49 q → ¬ inA A q := fun q h1 h2 => by have h3 := hge51 q h1; have h4 := hAlt q h2; omega
 have dis56 : ∀ q, F49 q → ¬ inA A2 q := fun q h1 h2 => by have h3 := hge51 q h1; have h4 := lt2 q h2; omega
 have dis57 : ∀ q, F49 q → ¬ F14 q := fun q h1 h2 => by have h3 := hge51 q h1; have h4 := lt19 q h2; omega
 have dis58 : ∀ q, F49 q → ¬ H30 q := fun q h1 h2 => by have h3 := hge51 q h1; have h4 := lt36 q h2; omega
 have hg48lt : g48 < w46.heap.size := VotT.lt ho50 _ (VotT.at_ ho50)
 have hg48ge := hge51 _ (VotT.at_ ho50)
 refine Os 4 [(5, pt l13), (6, nt 0), (9, pt r29), (10, nt 0), (11, .pointer pv42), (12, nt 0), (41, pt l13), (42, pt g48), (43, pt r29), (44, .pointer pv24)] ?_
 refine Ok { callee := (Callee.value (Operand.func 40)), args := #[], argTypes := #[] } 40 #[] (some 45) (rnew11_weak _) ?_
 rintro _ w59 ⟨pv61, rfl, hk60⟩
 refine ⟨_, rfl, ?_⟩
 have hsz62 := Keep.size hk60
 replace hA := SlT.keep0 hA hk60
 replace hA2 := SlT.keep0 hA2 hk60
 replace hK0 := Keep.tr hK0 (Keep.ofNone hk60)
 replace ho15 := Led.keep ho15 hk60 (fun _ _ f => f)
 replace hR31 := Rfr.keep hR31 hk60 (fun _ _ f => f)
 replace ho50 := VotT.keep ho50 hk60 (fun _ _ f => f)
 refine Os 7 [(5, pt l13), (6, nt 0), (9, pt r29), (10, nt 0), (12, nt 0), (47, .agg #[pt l13, pt g48, pt r29, .pointer pv24, .pointer pv61, .pointer pv42, nt 0])] ?_
 refine OI_box 39 (.tmp 47) (.agg #[pt l13, pt g48, pt r29, .pointer pv24, .pointer pv61, .pointer pv42, nt 0]) [pt l13, pt g48, pt r29, .pointer pv24, .pointer pv61, .pointer pv42, nt 0] (some 48) (by kernel_rfl) (by kernel_rfl) (by kernel_rfl) ?_
 intro b63 w63 e63 hb63 k63 z63
 have hsz64 := Keep.size k63
 replace hA := SlT.keep0 hA k63
 replace hA2 := SlT.keep0 hA2 k63
 replace hK0 := Keep.tr hK0 (Keep.ofNone k63)
 replace ho15 := Led.keep ho15 k63 (fun _ _ f => f)
 replace hR31 := Rfr.keep hR31 k63 (fun _ _ f => f)
 replace ho50 := VotT.keep ho50 k63 (fun _ _ f => f)
 have hb63lt := hb63.lt
 refine Os 9 [(5, pt l13), (6, nt 0), (9, pt r29), (10, nt 0), (12, nt 0), (13, pt b63)] ?_
 refine Oe ?_
 refine V_seq ?_
 refine Vr ?_
 refine Os 10 [(9, pt r29), (10, nt 0), (12, nt 0), (13, pt b63), (55, .bool false), (58, .pointer (some ⟨b63, 1, none⟩))] ?_
 refine Oc 33 (.tmp 58) 1 (pt g48) (some 59) hb63 rfl ?_
 refine Os 26 [(13, pt b63), (74, .bool false)] ?_
 refine Oe ?_
 refine V_false rfl ?_
 refine V_skip ?_
 refine X_then ?_
 refine Vr ?_
 refine Os 2 [(2, pt b63)] ?_
 refine Oe ?_
 refine V_ret ?_
 exact X_return _ rfl ⟨b63, r29, gg33, g48, l13, H30, F49, F14, pv24, pv61, pv42, rfl, hb63, hR31, ho50, ho15, hK0, by omega, (fun q hq => ⟨by have h1 := own35 q hq; omega, by have h1 := lt36 q hq; omega⟩), (fun q hq => ⟨by have h1 := own53 q hq; omega, by have h1 := lt54 q hq; omega⟩), (fun q hq => ⟨by have h1 := own18 q hq; omega, by have h1 := lt19 q hq; omega⟩), (fun q h1 h2 => dis58 q h2 h1), dis39, dis57⟩
end Go.Al


namespace Go.Al
open Go Go.RowKit Go.Proofs
/-! ### States, and what is done to them -/
structure RW where
  xs : List Acc
  cs : List Ci
  s : VS
  rs : List Rfm
def rwQ0 : RW := ⟨rfX, [], VS.zero, []⟩
def rwSub (ts : List Trk) (q : RW) (who of after : Int) (sum : Nat → Int) (now : Int) : RW := ⟨subX q.xs q.cs q.s ts q.rs who of after, q.cs, subS q.xs q.cs q.s ts q.rs who of after, subR q.xs q.cs q.s ts q.rs who of after sum now⟩
def rwDep (ts : List Trk) (q : RW) (who ref : Int) : RW := ⟨depX q.xs q.cs ts q.rs who ref, q.cs, q.s, depR q.xs q.cs ts q.rs who ref⟩
def rwCan (q : RW) (ref now : Int) : RW := ⟨q.xs, q.cs, canS q.s q.rs ref now, canR q.s q.rs ref now⟩
def rwSvc (ts : List Trk) (q : RW) (now : Int) : RW := ⟨q.xs, q.cs, (svcQ ts q.xs q.s q.rs now).s, (svcQ ts q.xs q.s q.rs now).rs⟩
def rwEvs (ts : List Trk) (q : RW) (now : Int) : List Evt := (svcQ ts q.xs q.s q.rs now).out
def RW.subE (ts : List Trk) (q : RW) (who of after : Int) : Int := _root_.Go.Al.subE q.xs q.cs q.s ts q.rs who of after
def RW.depE (ts : List Trk) (q : RW) (who ref : Int) : Int := _root_.Go.Al.depE q.xs q.cs ts q.rs who ref
theorem SlT.ofE {α : Type} {w : World} {sz cap : Nat} {f : α → List Value} {A : Option Addr} {xs ys : List α} (h : SlT w sz f A cap xs) (e : xs = ys) : SlT w sz f A cap ys := e ▸ h
def plainT : Trk := ⟨1, 20, 2, 10, 3, 1, ⟨1, 500000000, 500000000, 1, 0⟩, ⟨1, 100000000, 100000000, 1, 0⟩, 50, 2⟩
theorem plain_ok : okTs [plainT] := ⟨by decide, by decide, by decide⟩

set_option maxRecDepth 10000 in
theorem plain_spec (w : World) : Calls Tryz.prog 16 #[] w fun e w' => e = .returned (.agg plainT.cells.toArray) ∧ Keep none_ w w' := by
 have hK0 : Keep none_ w w := Keep.refl _ _
 have hzhK0 := Keep.size hK0
 refine enterM Tryz.func16 rfl [] 4 rfl rfl rfl ?_
 refine V_pick [] rfl ?_
 refine Vr ?_
 refine OI_alloc 27 (.agg (Trk.cells Trk.zero).toArray) (Trk.cells Trk.zero) (some 0) (by kernel_rfl) (by kernel_rfl) (by kernel_rfl) ?_
 intro b1 w1 e1 hb1 k1 z1
 have hsz2 := Keep.size k1
 replace hK0 := Keep.tr hK0 (Keep.ofNone k1)
 have hb1lt := hb1.lt
 refine Oer ?_
 refine Os 3 [(0, pt b1), (3, .agg (Trk.cells plainT).toArray)] ?_
 refine OI_set (m := 18) (kd := true) 27 (.tmp 0) (.tmp 3) 0 (.agg (Trk.cells plainT).toArray) (Trk.cells plainT) none (by kernel_rfl) (by kernel_rfl) (by kernel_rfl) hb1 (by kernel_rfl) rfl (Trk.len _) (Nat.le_of_ble_eq_true (by kernel_rfl)) (Trk.one _) ?_
 intro w3 hb1_6 hk4 hz5
 replace hb1_6 : Blk w3 b1 (Trk.cells plainT) 27 := (Blk.eqL (Trk.over _ _) hb1_6)
 have hsz7 := Keep.size hk4
 replace hK0 := Keep.fresh hK0 hk4 (by intro i hi hs; first | exact hs | exact Or.inl hs | exact Or.inr hs | (exfalso; have hs2 : i = b1 := hs; omega))
 refine Oe ?_
 refine V_ret ?_
 exact leave0 (.agg (Trk.cells plainT).toArray) (.inl rfl) (res_agg1 (m := 18) rfl rfl (by kernel_rfl) hb1_6 rfl) ⟨rfl, hK0⟩

def kwQ1 : RW := rwSub [plainT] rwQ0 1 0 0 z0 0
def kwQ2 : RW := rwSvc [plainT] kwQ1 29
def kwQ3 : RW := rwSvc [plainT] kwQ2 30
theorem kw1 : RW.subE [plainT] rwQ0 1 0 0 = 0 := by kernel_rfl
theorem kw2 : rwEvs [plainT] kwQ1 29 = [] := by kernel_rfl
theorem kw3 : rwEvs [plainT] kwQ2 30 = [Evt.mk 1 0 4] := by kernel_rfl

set_option maxRecDepth 10000 in
set_option maxHeartbeats 1000000 in
theorem known_spec (w : World) : Calls Tryz.prog 18 #[] w fun e w' => e = .returned (.bool true) ∧ Keep none_ w w' := by
 have hK0 : Keep none_ w w := Keep.refl _ _
 have hzhK0 := Keep.size hK0
 refine enterV Tryz.func18 rfl [] 77 rfl rfl rfl ?_
 refine V_pick [] rfl ?_
 refine Vr ?_
 refine Os 1 [] ?_
 refine Oer ?_
 refine Ok { callee := (Callee.value (Operand.func 16)), args := #[], argTypes := #[] } 16 #[] (some 6) (plain_spec _) ?_
 rintro _ w1 ⟨rfl, hk2⟩
 refine ⟨_, rfl, ?_⟩
 have hsz3 := Keep.size hk2
 replace hK0 := Keep.tr hK0 (Keep.ofNone hk2)
 refine OI_slit (E := 27) (zv := .agg #[nt 0, nt 0, nt 0, nt 0, nt 0, nt 0, nt 0, nt 0, nt 0, nt 0, nt 0, nt 0, nt 0, nt 0, nt 0, nt 0, nt 0, nt 0]) (sz := 18) (by_ := 144) 29 1 #[(0, (Operand.tmp 6))] [.agg (Trk.cells plainT).toArray] (Trk.cells plainT) (some 7) (by kernel_rfl) (by kernel_rfl) (by kernel_rfl) (by omega) rfl (by omega) (by intro v hv; obtain rfl := List.mem_singleton.1 hv; show (Trk.cells plainT).toArray.size = 18; simp [Trk.len]) (by kernel_rfl) (by show (Trk.cells plainT).toArray.toList ++ [] = _; simp) ?_
 intro b4 w4 e4 hb4 k4 z4
 have hsz5 := Keep.size k4
 replace hK0 := Keep.tr hK0 (Keep.ofNone k4)
 have hb4lt := hb4.lt
 refine Ok { callee := (Callee.value (Operand.func 15)), args := #[(Operand.tmp 7)], argTypes := #[29] } 15 #[.slice (some ⟨b4, 0, none⟩) 1 1] (some 8) (begin_weak (some ⟨b4, 0, none⟩) 1 [(plainT)] _ (slt_blk (xs := [(plainT)]) (f := Trk.cells) hb4 Trk.len rfl) plain_ok) ?_
 rintro _ w8 ⟨b10, r11, gg12, v13, l14, H15, F16, G17, xv18, yv19, zv20, rfl, hb21, hR22, hV23, hL24, hk9, hge25, oH26, oF27, oG28, dHF29, dHG30, dFG31⟩
 refine ⟨_, rfl, ?_⟩
 have hsz32 := Keep.size hk9
 replace hb4 := hb4.keep hk9 (fun f => f)
 replace hK0 := Keep.tr hK0 (Keep.ofNone hk9)
 have hb10lt := hb21.lt
 have own33 : ∀ q, H15 q → w4.heap.size ≤ q ∧ q ≠ b4 ∧ q ≠ b10 := fun q hq => by have h1 := oH26 q hq; omega
 have lt34 := Rfr.lt hR22
 have own35 : ∀ q, F16 q → w4.heap.size ≤ q ∧ q ≠ b4 ∧ q ≠ b10 := fun q hq => by have h1 := oF27 q hq; omega
 have lt36 := VotT.lt hV23
 have own37 : ∀ q, G17 q → w4.heap.size ≤ q ∧ q ≠ b4 ∧ q ≠ b10 := fun q hq => by have h1 := oG28 q hq; omega
 have lt38 := Led.lt hL24
 replace hR22 : Rfr H15 w8 r11 gg12 [(plainT)] rwQ0.rs := hR22
 replace hV23 : VotT F16 w8 v13 rwQ0.s := hV23
 replace hL24 : Led G17 w8 l14 rwQ0.xs rwQ0.cs := hL24
 refine Os 4 [(1, pt b10)] ?_
 refine Oe ?_
 refine V_seq ?_
 refine Vr ?_
 refine Os 2 [(1, pt b10), (10, .bool false)] ?_
 refine Oe ?_
 refine V_false rfl ?_
 refine V_skip ?_
 refine X_then ?_
 refine V_seq ?_
 refine V_draws (acts [13]) none_ [[0, 1, 2, 3, 4, 5, 6, 7, 8, 9, 10, 11, 12, 13, 14, 15, 16, 17, 18]] (by kernel_rfl) (by repeat first | exact (by first | exact sure_body (by rintro _ _ ⟨_, _, h, _⟩; exact ⟨_, h⟩) | exact sure_body (by rintro _ _ ⟨_, _, _, _, _, _, _, _, _, _, _, h, _⟩; exact ⟨_, h⟩) | exact sure_body (by rintro _ _ ⟨h, _⟩; exact ⟨_, h⟩)) | refine sure_then ?_ | refine sure_block ?_ | refine sure_join ?_) (by kernel_rfl) ?_
 intro w40 hk39 he41 L hL42
 have hsz43 := Keep.size hk39
 replace hb4 := hb4.keep hk39 (fun f => f)
 replace hb21 := hb21.keep hk39 (fun f => f)
 replace hK0 := Keep.tr hK0 (Keep.ofNone hk39)
 replace hR22 := Rfr.keep hR22 hk39 (fun _ _ f => f)
 replace hV23 := VotT.keep hV23 hk39 (fun _ _ f => f)
 replace hL24 := Led.keep hL24 hk39 (fun _ _ f => f)
 have qhb4 := hb4
 have qhb21 := hb21
 have K44 : Keep none_ w40 w40 := Keep.refl _ _
 obtain rfl := List.mem_singleton.1 hL42
 refine Gs [3, 4, 5, 6, 7, 8, 9, 10, 11, 12, 13, 14, 15, 16, 17, 18] [(1, pt b10), (14, .pointer (some ⟨b10, 2, none⟩))] ?_
 refine Gc0 34 (.tmp 14) 2 (pt r11) (some 15) qhb21 rfl ?_
 refine Gs [7, 8, 9, 10, 11, 12, 13, 14, 15, 16, 17, 18] [(1, pt b10), (15, pt r11), (18, pt b10)] ?_
 refine Gc0 32 (.tmp 18) 0 (pt l14) (some 19) qhb21 rfl ?_
 refine Gs [11, 12, 13, 14, 15, 16, 17, 18] [(1, pt b10), (15, pt r11), (19, pt l14), (22, .pointer (some ⟨b10, 1, none⟩))] ?_
 refine Gc0 33 (.tmp 22) 1 (pt v13) (some 23) qhb21 rfl ?_
 refine Gs [13, 14, 15, 16, 17, 18] [(1, pt b10), (15, pt r11), (19, pt l14), (23, pt v13), (24, .agg (hshc z0).toArray)] ?_
 refine Gk0 { callee := (Callee.value (Operand.func 17)), args := #[(Operand.tmp 15), (Operand.tmp 19), (Operand.tmp 23), (Operand.const (Value.int IntKind.i64 1)), (Operand.const (Value.int IntKind.i64 0)), (Operand.tmp 24), (Operand.const (Value.int IntKind.i64 0)), (Operand.const (Value.int IntKind.i64 0))], argTypes := #[34, 32, 33, 3, 3, 42, 3, 3] } 17 #[pt r11, pt l14, pt v13, nt 1, nt 0, .agg (hshc z0).toArray, nt 0, nt 0] (some 25) (submit_spec H15 r11 gg12 [(plainT)] rwQ0.rs F16 v13 rwQ0.s G17 l14 rwQ0.xs rwQ0.cs 1 0 z0 0 0 _ hR22 hV23 hL24 dHF29 dHG30 dFG31) ?_
 rintro _ w47 ⟨rfl, ⟨F49, F52, F55, ho50, ho53, ho56, hfr51, hfr54, hfr57, hdis58, hdis59, hdis60⟩, hk48⟩
 refine ⟨_, rfl, ?_⟩
 have hsz61 := Keep.size hk48
 replace hb4 := hb4.keep hk48 (fun hs => by rcases hs with hs | hs | hs; (have u9 : _ = gg12 := hs; have u0 := own33 _ (Rfr.atg hR22); have u1 := lt34 _ (Rfr.atg hR22); omega); (have u0 := own35 _ hs; have u1 := lt36 _ hs; omega); (have u0 := own37 _ hs; have u1 := lt38 _ hs; omega))
 replace hb21 := hb21.keep hk48 (fun hs => by rcases hs with hs | hs | hs; (have u9 : _ = gg12 := hs; have u0 := own33 _ (Rfr.atg hR22); have u1 := lt34 _ (Rfr.atg hR22); omega); (have u0 := own35 _ hs; have u1 := lt36 _ hs; omega); (have u0 := own37 _ hs; have u1 := lt38 _ hs; omega))
 replace hK0 := Keep.fresh hK0 hk48 (by intro i hi hs; first | exact hs | (rcases hs with hs | hs | hs; (have u9 : _ = gg12 := hs; have u0 := own33 _ (Rfr.atg hR22); have u1 := lt34 _ (Rfr.atg hR22); omega); (have u0 := own35 i hs; have u1 := lt36 i hs; omega); (have u0 := own37 i hs; have u1 := lt38 i hs; omega)))
 have own63 : ∀ q, F49 q → w4.heap.size ≤ q ∧ q ≠ b4 ∧ q ≠ b10 := fun q hq => by rcases hfr51 q hq with h | h; (have h1 := own33 q h; have h2 := lt34 q h; omega); omega
 have lt62 := Rfr.lt ho50
 have own65 : ∀ q, F52 q → w4.heap.size ≤ q ∧ q ≠ b4 ∧ q ≠ b10 := fun q hq => by rcases hfr54 q hq with h | h; (have h1 := own35 q h; have h2 := lt36 q h; omega); omega
 have lt64 := VotT.lt ho53
 have own67 : ∀ q, F55 q → w4.heap.size ≤ q ∧ q ≠ b4 ∧ q ≠ b10 := fun q hq => by rcases hfr57 q hq with h | h; (have h1 := own37 q h; have h2 := lt38 q h; omega); omega
 have lt66 := Led.lt ho56
 replace ho50 : Rfr F49 w47 r11 gg12 [(plainT)] kwQ1.rs := ho50
 replace ho53 : VotT F52 w47 v13 kwQ1.s := ho53
 replace ho56 : Led F55 w47 l14 kwQ1.xs kwQ1.cs := ho56
 refine Gp_ [(1, pt b10), (25, .tuple #[nt (if RW.subE [(plainT)] rwQ0 1 0 0 = 0 then ((rwQ0.rs.length : Nat) : Int) else 0), nt (RW.subE [(plainT)] rwQ0 1 0 0)])] ?_
 refine GI_eq [(1, pt b10), (25, .tuple #[nt 0, nt 0])] (by rw [kw1]; rfl) ?_
 refine Gs [] [(1, pt b10), (2, nt 0), (3, nt 0)] ?_
 refine GI_end ?_
 refine X_then ?_
 refine V_seq ?_
 refine V_draws (acts [12]) none_ [[0, 1, 2, 3, 4, 5, 6, 7, 8, 9, 10, 11, 12, 13]] (by kernel_rfl) (by repeat first | exact (by first | exact sure_body (by rintro _ _ ⟨_, _, h, _⟩; exact ⟨_, h⟩) | exact sure_body (by rintro _ _ ⟨_, _, _, _, _, _, _, _, _, _, _, h, _⟩; exact ⟨_, h⟩) | exact sure_body (by rintro _ _ ⟨h, _⟩; exact ⟨_, h⟩)) | refine sure_then ?_ | refine sure_block ?_ | refine sure_join ?_) (by kernel_rfl) ?_
 intro w69 hk68 he70 L hL71
 have hsz72 := Keep.size hk68
 replace hb4 := hb4.keep hk68 (fun f => f)
 replace hb21 := hb21.keep hk68 (fun f => f)
 replace hK0 := Keep.tr hK0 (Keep.ofNone hk68)
 replace ho50 := Rfr.keep ho50 hk68 (fun _ _ f => f)
 replace ho53 := VotT.keep ho53 hk68 (fun _ _ f => f)
 replace ho56 := Led.keep ho56 hk68 (fun _ _ f => f)
 have qhb4 := hb4
 have qhb21 := hb21
 have K73 : Keep none_ w69 w69 := Keep.refl _ _
 obtain rfl := List.mem_singleton.1 hL71
 refine Gs [3, 4, 5, 6, 7, 8, 9, 10, 11, 12, 13] [(1, pt b10), (2, nt 0), (3, nt 0), (30, .pointer (some ⟨b10, 2, none⟩))] ?_
 refine Gc0 34 (.tmp 30) 2 (pt r11) (some 31) qhb21 rfl ?_
 refine Gs [7, 8, 9, 10, 11, 12, 13] [(1, pt b10), (2, nt 0), (3, nt 0), (31, pt r11), (34, pt b10)] ?_
 refine Gc0 32 (.tmp 34) 0 (pt l14) (some 35) qhb21 rfl ?_
 refine Gs [11, 12, 13] [(1, pt b10), (2, nt 0), (3, nt 0), (31, pt r11), (35, pt l14), (38, .pointer (some ⟨b10, 1, none⟩))] ?_
 refine Gc0 33 (.tmp 38) 1 (pt v13) (some 39) qhb21 rfl ?_
 refine Gk0 { callee := (Callee.value (Operand.func 22)), args := #[(Operand.tmp 31), (Operand.tmp 35), (Operand.tmp 39), (Operand.const (Value.int IntKind.i64 29))], argTypes := #[34, 32, 33, 3] } 22 #[pt r11, pt l14, pt v13, nt 29] (some 40) (service_spec F49 r11 gg12 [(plainT)] kwQ1.rs F52 v13 kwQ1.s F55 l14 kwQ1.xs kwQ1.cs 29 _ ho50 ho53 ho56 hdis58 hdis59 hdis60) ?_
 rintro _ w76 ⟨A78, cap78, rfl, hA78, ow78, ⟨F79, F82, ho80, ho83, hfr81, hfr84, hdis85, dA86, dA87⟩, hk77⟩
 refine ⟨_, rfl, ?_⟩
 have hsz88 := Keep.size hk77
 replace hb4 := hb4.keep hk77 (fun hs => by rcases hs with hs | hs; (have u9 : _ = gg12 := hs; have u0 := own63 _ (Rfr.atg ho50); have u1 := lt62 _ (Rfr.atg ho50); omega); (have u0 := own65 _ hs; have u1 := lt64 _ hs; omega))
 replace hb21 := hb21.keep hk77 (fun hs => by rcases hs with hs | hs; (have u9 : _ = gg12 := hs; have u0 := own63 _ (Rfr.atg ho50); have u1 := lt62 _ (Rfr.atg ho50); omega); (have u0 := own65 _ hs; have u1 := lt64 _ hs; omega))
 replace hK0 := Keep.fresh hK0 hk77 (by intro i hi hs; first | exact hs | (rcases hs with hs | hs; (have u9 : _ = gg12 := hs; have u0 := own63 _ (Rfr.atg ho50); have u1 := lt62 _ (Rfr.atg ho50); omega); (have u0 := own65 i hs; have u1 := lt64 i hs; omega)))
 replace ho56 := Led.keep ho56 hk77 (fun q hq hs => by rcases hs with hs | hs; exact (fun q h1 h2 => hdis59 q h2 h1) q hq (by rw [show q = gg12 from hs]; exact (Rfr.atg ho50)); exact (fun q h1 h2 => hdis60 q h2 h1) q hq hs)
 have own90 : ∀ q, F79 q → w4.heap.size ≤ q ∧ q ≠ b4 ∧ q ≠ b10 := fun q hq => by rcases hfr81 q hq with h | h; (have h1 := own63 q h; have h2 := lt62 q h; omega); omega
 have lt89 := Rfr.lt ho80
 have dis91 : ∀ q, F79 q → ¬ F55 q := fun q h1 h2 => by rcases hfr81 q h1 with h | h; exact hdis59 q h h2; (have h4 := lt66 q h2; omega)
 have own93 : ∀ q, F82 q → w4.heap.size ≤ q ∧ q ≠ b4 ∧ q ≠ b10 := fun q hq => by rcases hfr84 q hq with h | h; (have h1 := own65 q h; have h2 := lt64 q h; omega); omega
 have lt92 := VotT.lt ho83
 have dis94 : ∀ q, F82 q → ¬ F55 q := fun q h1 h2 => by rcases hfr84 q h1 with h | h; exact hdis60 q h h2; (have h4 := lt66 q h2; omega)
 have ltA78 := SlT.lt hA78
 have dis95 : ∀ q, inA A78 q → ¬ F55 q := fun q h1 h2 => by have h3 := ow78 q h1; have h4 := lt66 q h2; omega
 replace hA78 := SlT.ofE (xs := (rwEvs [(plainT)] kwQ1 29)) hA78 (show _ = ([] : List Evt) from kw2)
 replace ho80 : Rfr F79 w76 r11 gg12 [(plainT)] kwQ2.rs := ho80
 replace ho83 : VotT F82 w76 v13 kwQ2.s := ho83
 replace ho56 : Led F55 w76 l14 kwQ2.xs kwQ2.cs := ho56
 refine Gp_ [(1, pt b10), (2, nt 0), (3, nt 0), (40, .slice A78 ((rwEvs [(plainT)] kwQ1 29).length) cap78)] ?_
 refine GI_eq [(1, pt b10), (2, nt 0), (3, nt 0), (40, .slice A78 0 cap78)] (by rw [show (rwEvs [(plainT)] kwQ1 29) = ([] : List Evt) from kw2]; rfl) ?_
 refine Gs [] [(1, pt b10), (2, nt 0), (3, nt 0), (4, .slice A78 0 cap78)] ?_
 refine GI_end ?_
 refine X_then ?_
 refine V_seq ?_
 refine V_draws (acts [12]) none_ [[0, 1, 2, 3, 4, 5, 6, 7, 8, 9, 10, 11, 12, 13]] (by kernel_rfl) (by repeat first | exact (by first | exact sure_body (by rintro _ _ ⟨_, _, h, _⟩; exact ⟨_, h⟩) | exact sure_body (by rintro _ _ ⟨_, _, _, _, _, _, _, _, _, _, _, h, _⟩; exact ⟨_, h⟩) | exact sure_body (by rintro _ _ ⟨h, _⟩; exact ⟨_, h⟩)) | refine sure_then ?_ | refine sure_block ?_ | refine sure_join ?_) (by kernel_rfl) ?_
 intro w97 hk96 he98 L hL99
 have hsz100 := Keep.size hk96
 replace hb4 := hb4.keep hk96 (fun f => f)
 replace hb21 := hb21.keep hk96 (fun f => f)
 replace hA78 := SlT.keep0 hA78 hk96
 replace hK0 := Keep.tr hK0 (Keep.ofNone hk96)
 replace ho56 := Led.keep ho56 hk96 (fun _ _ f => f)
 replace ho80 := Rfr.keep ho80 hk96 (fun _ _ f => f)
 replace ho83 := VotT.keep ho83 hk96 (fun _ _ f => f)
 have qhb4 := hb4
 have qhb21 := hb21
 have qhA78 := hA78
 have K101 : Keep none_ w97 w97 := Keep.refl _ _
 obtain rfl := List.mem_singleton.1 hL99
 refine Gs [3, 4, 5, 6, 7, 8, 9, 10, 11, 12, 13] [(1, pt b10), (2, nt 0), (3, nt 0), (4, .slice A78 0 cap78), (43, .pointer (some ⟨b10, 2, none⟩))] ?_
 refine Gc0 34 (.tmp 43) 2 (pt r11) (some 44) qhb21 rfl ?_
 refine Gs [7, 8, 9, 10, 11, 12, 13] [(1, pt b10), (2, nt 0), (3, nt 0), (4, .slice A78 0 cap78), (44, pt r11), (47, pt b10)] ?_
 refine Gc0 32 (.tmp 47) 0 (pt l14) (some 48) qhb21 rfl ?_
 refine Gs [11, 12, 13] [(2, nt 0), (3, nt 0), (4, .slice A78 0 cap78), (44, pt r11), (48, pt l14), (51, .pointer (some ⟨b10, 1, none⟩))] ?_
 refine Gc0 33 (.tmp 51) 1 (pt v13) (some 52) qhb21 rfl ?_
 refine Gk0 { callee := (Callee.value (Operand.func 22)), args := #[(Operand.tmp 44), (Operand.tmp 48), (Operand.tmp 52), (Operand.const (Value.int IntKind.i64 30))], argTypes := #[34, 32, 33, 3] } 22 #[pt r11, pt l14, pt v13, nt 30] (some 53) (service_spec F79 r11 gg12 [(plainT)] kwQ2.rs F82 v13 kwQ2.s F55 l14 kwQ2.xs kwQ2.cs 30 _ ho80 ho83 ho56 hdis85 dis91 dis94) ?_
 rintro _ w104 ⟨A106, cap106, rfl, hA106, ow106, ⟨F107, F110, ho108, ho111, hfr109, hfr112, hdis113, dA114, dA115⟩, hk105⟩
 refine ⟨_, rfl, ?_⟩
 have hsz116 := Keep.size hk105
 replace hb4 := hb4.keep hk105 (fun hs => by rcases hs with hs | hs; (have u9 : _ = gg12 := hs; have u0 := own90 _ (Rfr.atg ho80); have u1 := lt89 _ (Rfr.atg ho80); omega); (have u0 := own93 _ hs; have u1 := lt92 _ hs; omega))
 replace hA78 := SlT.keep hA78 hk105 (fun q hq hs => by rcases hs with hs | hs; exact dA86 q hq (by rw [show q = gg12 from hs]; exact (Rfr.atg ho80)); exact dA87 q hq hs)
 replace hK0 := Keep.fresh hK0 hk105 (by intro i hi hs; first | exact hs | (rcases hs with hs | hs; (have u9 : _ = gg12 := hs; have u0 := own90 _ (Rfr.atg ho80); have u1 := lt89 _ (Rfr.atg ho80); omega); (have u0 := own93 i hs; have u1 := lt92 i hs; omega)))
 replace ho56 := Led.keep ho56 hk105 (fun q hq hs => by rcases hs with hs | hs; exact (fun q h1 h2 => dis91 q h2 h1) q hq (by rw [show q = gg12 from hs]; exact (Rfr.atg ho80)); exact (fun q h1 h2 => dis94 q h2 h1) q hq hs)
 have own118 : ∀ q, F107 q → w4.heap.size ≤ q ∧ q ≠ b4 := fun q hq => by rcases hfr109 q hq with h | h; (have h1 := own90 q h; have h2 := lt89 q h; omega); omega
 have lt117 := Rfr.lt ho108
 have dis119 : ∀ q, F107 q → ¬ inA A78 q := fun q h1 h2 => by rcases hfr109 q h1 with h | h; exact (fun q h1 h2 => dA86 q h2 h1) q h h2; (have h4 := ltA78 q h2; omega)
 have dis120 : ∀ q, F107 q → ¬ F55 q := fun q h1 h2 => by rcases hfr109 q h1 with h | h; exact dis91 q h h2; (have h4 := lt66 q h2; omega)
 have own122 : ∀ q, F110 q → w4.heap.size ≤ q ∧ q ≠ b4 := fun q hq => by rcases hfr112 q hq with h | h; (have h1 := own93 q h; have h2 := lt92 q h; omega); omega
 have lt121 := VotT.lt ho111
 have dis123 : ∀ q, F110 q → ¬ inA A78 q := fun q h1 h2 => by rcases hfr112 q h1 with h | h; exact (fun q h1 h2 => dA87 q h2 h1) q h h2; (have h4 := ltA78 q h2; omega)
 have dis124 : ∀ q, F110 q → ¬ F55 q := fun q h1 h2 => by rcases hfr112 q h1 with h | h; exact dis94 q h h2; (have h4 := lt66 q h2; omega)
 have ltA106 := SlT.lt hA106
 have dis125 : ∀ q, inA A106 q → ¬ F55 q := fun q h1 h2 => by have h3 := ow106 q h1; have h4 := lt66 q h2; omega
 replace hA106 := SlT.ofE (xs := (rwEvs [(plainT)] kwQ2 30)) hA106 (show _ = [Evt.mk 1 0 4] from kw3)
 replace ho108 : Rfr F107 w104 r11 gg12 [(plainT)] kwQ3.rs := ho108
 replace ho111 : VotT F110 w104 v13 kwQ3.s := ho111
 replace ho56 : Led F55 w104 l14 kwQ3.xs kwQ3.cs := ho56
 refine Gp_ [(2, nt 0), (3, nt 0), (4, .slice A78 0 cap78), (53, .slice A106 ((rwEvs [(plainT)] kwQ2 30).length) cap106)] ?_
 refine GI_eq [(2, nt 0), (3, nt 0), (4, .slice A78 0 cap78), (53, .slice A106 1 cap106)] (by rw [show (rwEvs [(plainT)] kwQ2 30) = [Evt.mk 1 0 4] from kw3]; rfl) ?_
 refine Gs [] [(2, nt 0), (3, nt 0), (4, .slice A78 0 cap78), (5, .slice A106 1 cap106)] ?_
 refine GI_end ?_
 refine X_then ?_
 refine Vr ?_
 refine Os 18 [(70, .bool true), (71, .slice A106 1 cap106)] ?_
 obtain ⟨b126, o126, L126, T126, rfl, hat126⟩ := SlT.open_ hA106 (by first | omega | (simp only [List.length_map]; omega) | (simp; done) | (simp; omega))
 have hb126lt := hat126.blk.lt
 have hob127 := ow106 b126 ⟨_, rfl, rfl⟩
 have hob128 := ltA106 b126 ⟨_, rfl, rfl⟩
 have hne129 : ∀ q, F55 q → q ≠ b126 := fun q hq hs => (fun q h1 h2 => dis125 q h2 h1) q hq ⟨_, rfl, hs⟩
 have own130 := fun q hq => And.intro (own67 q hq) (hne129 q hq)
 have hne131 : ∀ q, F107 q → q ≠ b126 := fun q hq hs => (fun q h1 h2 => dA114 q h2 h1) q hq ⟨_, rfl, hs⟩
 have own132 := fun q hq => And.intro (own118 q hq) (hne131 q hq)
 have hne133 : ∀ q, F110 q → q ≠ b126 := fun q hq hs => (fun q h1 h2 => dA115 q h2 h1) q hq ⟨_, rfl, hs⟩
 have own134 := fun q hq => And.intro (own122 q hq) (hne133 q hq)
 refine OI_pure (some 72) (.indexAddr 50 (.tmp 71) (.const (Value.int IntKind.i64 0))) (by kernel_rfl) (pure_idxN (b := b126) (o := o126) (len := 1) (cap := cap106) (kd := .i64) (j := 0) (E := 53) (sz := 3) (by_ := 24) (by kernel_rfl) (by kernel_rfl) (by kernel_rfl) (by omega)) ?_
 refine Oa 53 (.tmp 72) (o126 + 0 * 3) (Evt.cells (Evt.mk 1 0 4)) (some 73) 3 hat126.blk (At.elem' hat126 (es_at (rfl : ([Evt.mk 1 0 4] : List Evt)[0]? = some (Evt.mk 1 0 4)))) (At.len hat126 (es_at (rfl : ([Evt.mk 1 0 4] : List Evt)[0]? = some (Evt.mk 1 0 4)))) ?_
 refine Os 21 [(70, .bool true), (73, .agg (Evt.cells (Evt.mk 1 0 4)).toArray), (74, .agg (Evt.cells (Evt.mk 1 0 4)).toArray)] ?_
 refine OI_pure (some 75) ((Op.binOp BinOp.eql 53 (Operand.tmp 73) (Operand.tmp 74) 53)) (by kernel_rfl) (pure_eql_same (xs := Evt.cells (Evt.mk 1 0 4)) (by kernel_rfl) (by kernel_rfl) (by kernel_rfl) (by kernel_rfl)) ?_
 refine Os 24 [(0, .bool true)] ?_
 refine Oe ?_
 refine V_ret ?_
 exact X_return (.bool true) rfl ⟨rfl, hK0⟩
end Go.Al


namespace Go.Al
open Go Go.RowKit Go.Proofs
/-! ### It is backed once -/
def bkT (d : Int) : Trk := { plainT with deposit := d }
theorem bk_ok {d : Int} (h : 0 ≤ d ∧ d ≤ 2000) : okTs [bkT d] := by
  refine ⟨Nat.le_refl 1, (by decide : 1 ≤ 4), fun t ht => ?_⟩
  rw [List.mem_singleton.1 ht]
  exact ⟨(by decide : (1 : Int) ≤ 1 ∧ (1 : Int) ≤ 12), (by omega : 0 ≤ d ∧ d ≤ 1073741824), (by decide : (0 : Int) ≤ 50 ∧ (50 : Int) ≤ 1073741824), (by decide : (0 : Int) ≤ 2 ∧ (2 : Int) ≤ 1000), (by decide : (0 : Int) ≤ 3 ∧ (3 : Int) ≤ 1000), (by decide : (0 : Int) ≤ 1 ∧ (1 : Int) ≤ 1000), (by decide : (1 : Int) ≤ 10 ∧ (10 : Int) ≤ 1000),
    (by decide : okCrv ⟨1, 500000000, 500000000, 1, 0⟩), (by decide : okCrv ⟨1, 100000000, 100000000, 1, 0⟩), (by decide : (0 : Int) ≤ 2 ∧ (2 : Int) ≤ 2)⟩
def bkX (m : Int) : List Acc := resX rfX [] m 10
def bkR (m : Int) : List Rfm := [newR 0 z0 0 0 m]
theorem bk_all : ((List.range 10).all fun a => decide (spendsE rfX [] (a : Int) 10 = 0) && (List.range 10).all fun b => decide ((acct (bkX a) b).free = if a = b then 990 else 1000)) = true := by kernel_rfl
theorem bk_sp {m : Int} (h : 0 ≤ m ∧ m < 10) : spendsE rfX [] m 10 = 0 ∧ ∀ b : Int, 0 ≤ b → b < 10 → (acct (bkX m) b).free = if m = b then 990 else 1000 := by
  obtain ⟨m, rfl⟩ : ∃ n : Nat, m = n := ⟨m.toNat, by omega⟩
  have h1 := List.all_eq_true.1 bk_all m (List.mem_range.2 (by omega))
  obtain ⟨h2, h3⟩ := Bool.and_eq_true_iff.1 h1
  refine ⟨of_decide_eq_true h2, fun b hb1 hb2 => ?_⟩
  obtain ⟨b, rfl⟩ : ∃ n : Nat, b = n := ⟨b.toNat, by omega⟩
  have := of_decide_eq_true (List.all_eq_true.1 h3 b (List.mem_range.2 (by omega)))
  rw [this]
  by_cases e : m = b
  · rw [if_pos e, if_pos (by omega)]
  · rw [if_neg e, if_neg (by omega)]
theorem bk1 {d m : Int} (h : 0 ≤ m ∧ m < 10) : rwSub [bkT d] rwQ0 m 0 0 z0 0 = ⟨bkX m, [], openS VS.zero 0 0, bkR m⟩ := by
  have hE : subE rfX [] VS.zero [bkT d] [] m 0 0 = 0 := by
    rw [subEx (who := m) (of := 0) (after := 0) (ts := [bkT d]) rfl (by omega)]
    rw [if_neg (by decide), if_neg (by decide)]; exact (bk_sp h).1
  obtain ⟨h1, h2, h3⟩ := sub_go hE
  show RW.mk (subX rfX [] VS.zero [bkT d] [] m 0 0) [] (subS rfX [] VS.zero [bkT d] [] m 0 0) (subR rfX [] VS.zero [bkT d] [] m 0 0 z0 0) = _
  rw [h1, h2, h3]; rfl
theorem bk_dep {d m a : Int} (hm : 0 ≤ m ∧ m < 10) (ha : 0 ≤ a ∧ a < 10) (hd : 0 ≤ d ∧ d ≤ 2000) : spendsE (bkX m) [] a d = if d > (acct (bkX m) a).free then 6 else 0 := by
  have hA : isA a = true := by unfold isA; exact decide_eq_true ha
  unfold spendsE
  rw [if_neg (by rintro (h | h); (rw [hA] at h; cases h); exact h ⟨hd.1, by omega⟩)]
  split
  · rfl
  · rw [if_neg]
    rintro ⟨h1, h2⟩
    rw [show lockedL [] a = 0 from rfl] at h2
    omega
def bkD (a m : Int) : Rfm := { newR 0 z0 0 0 m with backer := a }
theorem bk2 {d m a : Int} (hm : 0 ≤ m ∧ m < 10) (ha : 0 ≤ a ∧ a < 10) (hd : 0 ≤ d ∧ d ≤ 1000) (hne : m ≠ a) : RW.depE [bkT d] ⟨bkX m, [], openS VS.zero 0 0, bkR m⟩ a 0 = 0 ∧ rwDep [bkT d] ⟨bkX m, [], openS VS.zero 0 0, bkR m⟩ a 0 = ⟨resX (bkX m) [] a d, [], openS VS.zero 0 0, [bkD a m]⟩ := by
  have hE : depE (bkX m) [] [bkT d] (bkR m) a 0 = 0 := by
    show spendsE (bkX m) [] a d = 0
    rw [bk_dep hm ha ⟨hd.1, by omega⟩, (bk_sp hm).2 a ha.1 ha.2, if_neg hne, if_neg (by omega)]
  obtain ⟨h1, h2⟩ := dep_go hE
  refine ⟨hE, ?_⟩
  show RW.mk (depX (bkX m) [] [bkT d] (bkR m) a 0) [] _ (depR (bkX m) [] [bkT d] (bkR m) a 0) = _
  rw [h1, h2]; rfl
theorem bk3 {d m a : Int} (hm : 0 ≤ m ∧ m < 10) (ha : 0 ≤ a ∧ a < 10) (hd : 1000 < d ∧ d ≤ 2000) : RW.depE [bkT d] ⟨bkX m, [], openS VS.zero 0 0, bkR m⟩ a 0 = 6 ∧ rwDep [bkT d] ⟨bkX m, [], openS VS.zero 0 0, bkR m⟩ a 0 = ⟨bkX m, [], openS VS.zero 0 0, bkR m⟩ := by
  have hE : depE (bkX m) [] [bkT d] (bkR m) a 0 = 6 := by
    show spendsE (bkX m) [] a d = 6
    rw [bk_dep hm ha ⟨by omega, hd.2⟩, (bk_sp hm).2 a ha.1 ha.2, if_pos]
    split <;> omega
  obtain ⟨h1, h2⟩ := dep_no hE (by decide)
  refine ⟨hE, ?_⟩
  show RW.mk (depX (bkX m) [] [bkT d] (bkR m) a 0) [] _ (depR (bkX m) [] [bkT d] (bkR m) a 0) = _
  rw [h1, h2]
theorem bk_free {d m a : Int} (hm : 0 ≤ m ∧ m < 10) (ha : 0 ≤ a ∧ a < 10) (hd : 0 ≤ d ∧ d ≤ 1000) (hne : m ≠ a) : (acct (resX (bkX m) [] a d) a).free = 1000 - d := by
  have hE : spendsE (bkX m) [] a d = 0 := by rw [bk_dep hm ha ⟨hd.1, by omega⟩, (bk_sp hm).2 a ha.1 ha.2, if_neg hne, if_neg (by omega)]
  have hf := (bk_sp hm).2 a ha.1 ha.2
  rw [if_neg hne] at hf
  have hl : (bkX m).length = 10 := by unfold bkX resX; rw [(bk_sp hm).1, if_pos rfl]; unfold addH subF setA; rw [List.length_set, List.length_set]; rfl
  have e1 : resX (bkX m) [] a d = addH (subF (bkX m) a d) a d := by unfold resX; rw [if_pos hE]
  have e2 : ∀ (xs : List Acc) (y : Acc), xs.length = 10 → acct (setA xs a y) a = y := by
    intro xs y hx
    unfold acct setA
    rw [if_pos ha, List.getElem?_set_self (by omega)]; rfl
  have e3 : acct (subF (bkX m) a d) a = ⟨(acct (bkX m) a).free - d, (acct (bkX m) a).held⟩ := e2 _ _ hl
  rw [e1]
  unfold addH
  rw [e2 _ _ (by unfold subF setA; rw [List.length_set]; exact hl), e3, hf]
def bkE (d : Int) : Int := if d > 1000 then 6 else 0
def bkF (d : Int) : Int := if d > 1000 then 6 else 5
def bkM (a : Int) : Int := Int.tmod (a + 1) 10
theorem bkM_ok {a : Int} (h : 0 ≤ a ∧ a < 10) : (0 ≤ bkM a ∧ bkM a < 10) ∧ bkM a ≠ a := by
  unfold bkM
  rw [Int.tmod_eq_emod_of_nonneg (by omega)]
  omega
def bkA (d a : Int) : RW := if d > 1000 then ⟨bkX (bkM a), [], openS VS.zero 0 0, bkR (bkM a)⟩ else ⟨resX (bkX (bkM a)) [] a d, [], openS VS.zero 0 0, [bkD a (bkM a)]⟩
theorem bk_go {d a b : Int} (ha : 0 ≤ a ∧ a < 10) (hb : 0 ≤ b ∧ b < 10) (hd : 0 ≤ d ∧ d ≤ 2000) :
    RW.depE [bkT d] (rwSub [bkT d] rwQ0 (bkM a) 0 0 z0 0) a 0 = (if d > 1000 then 6 else 0) ∧ rwDep [bkT d] (rwSub [bkT d] rwQ0 (bkM a) 0 0 z0 0) a 0 = bkA d a ∧ RW.depE [bkT d] (bkA d a) b 0 = (if d > 1000 then 6 else 5) ∧ rwDep [bkT d] (bkA d a) b 0 = bkA d a ∧
    RW.depE [bkT d] (rwCan (bkA d a) 0 1) b 0 = 9 ∧ RW.depE [bkT d] (rwDep [bkT d] (rwCan (bkA d a) 0 1) b 0) b 1 = 4 := by
  obtain ⟨hm, hne⟩ := bkM_ok ha
  rw [bk1 hm]
  by_cases h : d > 1000
  · have e : bkA d a = ⟨bkX (bkM a), [], openS VS.zero 0 0, bkR (bkM a)⟩ := if_pos h
    rw [if_pos h, if_pos h, e]
    exact ⟨(bk3 hm ha ⟨h, hd.2⟩).1, (bk3 hm ha ⟨h, hd.2⟩).2, (bk3 hm hb ⟨h, hd.2⟩).1, (bk3 hm hb ⟨h, hd.2⟩).2, rfl, rfl⟩
  · have e : bkA d a = ⟨resX (bkX (bkM a)) [] a d, [], openS VS.zero 0 0, [bkD a (bkM a)]⟩ := if_neg h
    have h5 : RW.depE [bkT d] ⟨resX (bkX (bkM a)) [] a d, [], openS VS.zero 0 0, [bkD a (bkM a)]⟩ b 0 = 5 := by
      show (if (1 : Int) ≠ 1 then (9 : Int) else if a ≠ -1 then 5 else _) = 5
      rw [if_neg (by decide), if_pos (by omega)]
    obtain ⟨h6, h7⟩ := dep_no (xs := resX (bkX (bkM a)) [] a d) (cs := []) (ts := [bkT d]) (rs := [bkD a (bkM a)]) (who := b) (ref := 0) h5 (by decide)
    rw [if_neg h, if_neg h, e]
    refine ⟨(bk2 hm ha ⟨hd.1, by omega⟩ hne).1, (bk2 hm ha ⟨hd.1, by omega⟩ hne).2, h5, ?_, rfl, rfl⟩
    show RW.mk (depX _ [] [bkT d] [bkD a (bkM a)] b 0) [] _ (depR _ [] [bkT d] [bkD a (bkM a)] b 0) = _
    rw [h6, h7]
theorem bk_end {d a b : Int} (ha : 0 ≤ a ∧ a < 10) (hd : 0 ≤ d ∧ d ≤ 1000) : (getR (rwDep [bkT d] (rwDep [bkT d] (rwCan (bkA d a) 0 1) b 0) b 1).rs 0).isSome = true ∧ (getA (rwDep [bkT d] (rwDep [bkT d] (rwCan (bkA d a) 0 1) b 0) b 1).rs 0).backer = a ∧ (acct (rwDep [bkT d] (rwDep [bkT d] (rwCan (bkA d a) 0 1) b 0) b 1).xs a).free = 1000 - d := by
  obtain ⟨hm, hne⟩ := bkM_ok ha
  have e : bkA d a = ⟨resX (bkX (bkM a)) [] a d, [], openS VS.zero 0 0, [bkD a (bkM a)]⟩ := if_neg (by omega)
  rw [e]
  exact ⟨rfl, rfl, bk_free hm ha hd hne⟩
end Go.Al


namespace Go.Al
open Go Go.RowKit Go.Proofs
set_option maxRecDepth 10000 in
set_option maxHeartbeats 2000000 in
theorem walk_ReferBacks (deposit a b : Int) (w : World) : Calls Tryz.prog 6 #[.int .i64 deposit, .int .i64 a, .int .i64 b] w fun e w' => e = .returned (.bool true) ∧ Keep none_ w w' := by
 have hK0 : Keep none_ w w := Keep.refl _ _
 have hzhK0 := Keep.size hK0
 refine enterV Tryz.func6 rfl [nt deposit, nt a, nt b] 175 rfl rfl rfl ?_
 refine V_pick [(0, nt deposit), (1, nt a), (2, nt b)] rfl ?_
 refine Vr ?_
 refine Os 1 [(0, nt deposit), (1, nt a), (2, nt b)] ?_
 refine Oe ?_
 refine V_seq ?_
 refine Vr ?_
 refine Os 3 [(0, nt deposit), (1, nt a), (2, nt b), (17, .bool (decide (deposit < 0)))] ?_
 by_cases hg1 : deposit < 0
 ·
  refine OI_eq [(0, nt deposit), (1, nt a), (2, nt b), (17, .bool true)] (by first | simp [hg1] | rfl) ?_
  refine Os 22 [(0, nt deposit), (1, nt a), (2, nt b), (36, .bool true)] ?_
  refine Oe ?_
  refine V_true rfl ?_
  refine Vr ?_
  refine Os 1 [(6, .bool true)] ?_
  refine Oe ?_
  refine V_ret ?_
  refine X_ret_then ?_
  exact X_return (.bool true) rfl ⟨rfl, hK0⟩
 refine OI_eq [(0, nt deposit), (1, nt a), (2, nt b), (17, .bool false)] (by first | simp [hg1] | rfl) ?_
 refine Os 7 [(0, nt deposit), (1, nt a), (2, nt b), (21, .bool (decide (deposit > 2000)))] ?_
 by_cases hg2 : deposit > 2000
 ·
  refine OI_eq [(0, nt deposit), (1, nt a), (2, nt b), (21, .bool true)] (by first | simp [hg2] | rfl) ?_
  refine Os 22 [(0, nt deposit), (1, nt a), (2, nt b), (36, .bool true)] ?_
  refine Oe ?_
  refine V_true rfl ?_
  refine Vr ?_
  refine Os 1 [(6, .bool true)] ?_
  refine Oe ?_
  refine V_ret ?_
  refine X_ret_then ?_
  exact X_return (.bool true) rfl ⟨rfl, hK0⟩
 refine OI_eq [(0, nt deposit), (1, nt a), (2, nt b), (21, .bool false)] (by first | simp [hg2] | rfl) ?_
 refine Os 11 [(0, nt deposit), (1, nt a), (2, nt b), (25, .bool (decide (a < 0)))] ?_
 by_cases hg3 : a < 0
 ·
  refine OI_eq [(0, nt deposit), (1, nt a), (2, nt b), (25, .bool true)] (by first | simp [hg3] | rfl) ?_
  refine Os 22 [(0, nt deposit), (1, nt a), (2, nt b), (36, .bool true)] ?_
  refine Oe ?_
  refine V_true rfl ?_
  refine Vr ?_
  refine Os 1 [(6, .bool true)] ?_
  refine Oe ?_
  refine V_ret ?_
  refine X_ret_then ?_
  exact X_return (.bool true) rfl ⟨rfl, hK0⟩
 refine OI_eq [(0, nt deposit), (1, nt a), (2, nt b), (25, .bool false)] (by first | simp [hg3] | rfl) ?_
 refine Os 15 [(0, nt deposit), (1, nt a), (2, nt b), (29, .bool (decide (a ≥ 10)))] ?_
 by_cases hg4 : a ≥ 10
 ·
  refine OI_eq [(0, nt deposit), (1, nt a), (2, nt b), (29, .bool true)] (by first | simp [hg4] | rfl) ?_
  refine Os 22 [(0, nt deposit), (1, nt a), (2, nt b), (36, .bool true)] ?_
  refine Oe ?_
  refine V_true rfl ?_
  refine Vr ?_
  refine Os 1 [(6, .bool true)] ?_
  refine Oe ?_
  refine V_ret ?_
  refine X_ret_then ?_
  exact X_return (.bool true) rfl ⟨rfl, hK0⟩
 refine OI_eq [(0, nt deposit), (1, nt a), (2, nt b), (29, .bool false)] (by first | simp [hg4] | rfl) ?_
 refine Os 19 [(0, nt deposit), (1, nt a), (2, nt b), (33, .bool (decide (b < 0)))] ?_
 by_cases hg5 : b < 0
 ·
  refine OI_eq [(0, nt deposit), (1, nt a), (2, nt b), (33, .bool true)] (by first | simp [hg5] | rfl) ?_
  refine Os 22 [(0, nt deposit), (1, nt a), (2, nt b), (36, .bool true)] ?_
  refine Oe ?_
  refine V_true rfl ?_
  refine Vr ?_
  refine Os 1 [(6, .bool true)] ?_
  refine Oe ?_
  refine V_ret ?_
  refine X_ret_then ?_
  exact X_return (.bool true) rfl ⟨rfl, hK0⟩
 refine OI_eq [(0, nt deposit), (1, nt a), (2, nt b), (33, .bool false)] (by first | simp [hg5] | rfl) ?_
 refine Os 22 [(0, nt deposit), (1, nt a), (2, nt b), (36, .bool (decide (b ≥ 10)))] ?_
 refine Oe ?_
 refine V_if (b ≥ 10) (by kernel_rfl) (fun hc6 => ?_) (fun hc6 => ?_)
 ·
  refine Vr ?_
  refine Os 1 [(6, .bool true)] ?_
  refine Oe ?_
  refine V_ret ?_
  refine X_ret_then ?_
  exact X_return (.bool true) rfl ⟨rfl, hK0⟩
 refine V_skip ?_
 refine X_then ?_
 refine Vr ?_
 refine Ok { callee := (Callee.value (Operand.func 16)), args := #[], argTypes := #[] } 16 #[] (some 37) (plain_spec _) ?_
 rintro _ w7 ⟨rfl, hk8⟩
 refine ⟨_, rfl, ?_⟩
 have hsz9 := Keep.size hk8
 replace hK0 := Keep.tr hK0 (Keep.ofNone hk8)
 refine OI_alloc 27 (.agg (Trk.cells Trk.zero).toArray) (Trk.cells Trk.zero) (some 7) (by kernel_rfl) (by kernel_rfl) (by kernel_rfl) ?_
 intro b10 w10 e10 hb10 k10 z10
 have hsz11 := Keep.size k10
 replace hK0 := Keep.tr hK0 (Keep.ofNone k10)
 have hb10lt := hb10.lt
 refine OI_set (m := 18) (kd := true) 27 (.tmp 7) (.tmp 37) 0 (.agg (Trk.cells plainT).toArray) (Trk.cells plainT) none (by kernel_rfl) (by kernel_rfl) (by kernel_rfl) hb10 (by kernel_rfl) rfl (Trk.len _) (Nat.le_of_ble_eq_true (by kernel_rfl)) (Trk.one _) ?_
 intro w12 hb10_15 hk13 hz14
 replace hb10_15 : Blk w12 b10 (Trk.cells plainT) 27 := (Blk.eqL (Trk.over _ _) hb10_15)
 have hsz16 := Keep.size hk13
 replace hK0 := Keep.fresh hK0 hk13 (by intro i hi hs; first | exact hs | exact Or.inl hs | exact Or.inr hs | (exfalso; have hs2 : i = b10 := hs; omega))
 refine Oer ?_
 refine Os 2 [(0, nt deposit), (1, nt a), (2, nt b), (7, pt b10), (38, nt deposit), (39, .pointer (some ⟨b10, 1, none⟩))] ?_
 refine OI_set (m := 1) (kd := false) 3 (.tmp 39) (.tmp 38) 1 (nt deposit) [nt deposit] none (by kernel_rfl) (by kernel_rfl) (by kernel_rfl) hb10_15 (by kernel_rfl) (by kernel_rfl) (by kernel_rfl) (Nat.le_of_ble_eq_true (by kernel_rfl)) (by simp [Value.oneCell']) ?_
 intro w17 hb10_20 hk18 hz19
 replace hb10_20 : Blk w17 b10 (Trk.cells { plainT with deposit := deposit }) 27 := (Blk.eqL (by kernel_rfl) hb10_20)
 have hsz21 := Keep.size hk18
 replace hK0 := Keep.fresh hK0 hk18 (by intro i hi hs; first | exact hs | exact Or.inl hs | exact Or.inr hs | (exfalso; have hs2 : i = b10 := hs; omega))
 refine Oer ?_
 refine Oa 27 (.tmp 7) 0 (Trk.cells { plainT with deposit := deposit }) (some 40) 18 hb10_20 (take_all (Trk.len _)) (Trk.len _) ?_
 refine OI_slit (E := 27) (zv := .agg #[nt 0, nt 0, nt 0, nt 0, nt 0, nt 0, nt 0, nt 0, nt 0, nt 0, nt 0, nt 0, nt 0, nt 0, nt 0, nt 0, nt 0, nt 0]) (sz := 18) (by_ := 144) 29 1 #[(0, (Operand.tmp 40))] [.agg (Trk.cells { plainT with deposit := deposit }).toArray] (Trk.cells { plainT with deposit := deposit }) (some 41) (by kernel_rfl) (by kernel_rfl) (by kernel_rfl) (by omega) rfl (by omega) (by intro v hv; obtain rfl := List.mem_singleton.1 hv; show (Trk.cells { plainT with deposit := deposit }).toArray.size = 18; simp [Trk.len]) (by kernel_rfl) (by show (Trk.cells { plainT with deposit := deposit }).toArray.toList ++ [] = _; simp) ?_
 intro b22 w22 e22 hb22 k22 z22
 have hsz23 := Keep.size k22
 replace hb10_20 := hb10_20.keep k22 (fun f => f)
 replace hK0 := Keep.tr hK0 (Keep.ofNone k22)
 have hb22lt := hb22.lt
 refine Ok { callee := (Callee.value (Operand.func 15)), args := #[(Operand.tmp 41)], argTypes := #[29] } 15 #[.slice (some ⟨b22, 0, none⟩) 1 1] (some 42) (begin_weak (some ⟨b22, 0, none⟩) 1 [({ plainT with deposit := deposit })] _ (slt_blk (xs := [({ plainT with deposit := deposit })]) (f := Trk.cells) hb22 Trk.len rfl) (bk_ok (by omega))) ?_
 rintro _ w26 ⟨b28, r29, gg30, v31, l32, H33, F34, G35, xv36, yv37, zv38, rfl, hb39, hR40, hV41, hL42, hk27, hge43, oH44, oF45, oG46, dHF47, dHG48, dFG49⟩
 refine ⟨_, rfl, ?_⟩
 have hsz50 := Keep.size hk27
 replace hb10_20 := hb10_20.keep hk27 (fun f => f)
 replace hb22 := hb22.keep hk27 (fun f => f)
 replace hK0 := Keep.tr hK0 (Keep.ofNone hk27)
 have hb28lt := hb39.lt
 replace hR40 : Rfr H33 w26 r29 gg30 [bkT deposit] [] := hR40
 have own51 : ∀ q, H33 q → w22.heap.size ≤ q ∧ q ≠ b10 ∧ q ≠ b22 ∧ q ≠ b28 := fun q hq => by have h1 := oH44 q hq; omega
 have lt52 := Rfr.lt hR40
 have own53 : ∀ q, F34 q → w22.heap.size ≤ q ∧ q ≠ b10 ∧ q ≠ b22 ∧ q ≠ b28 := fun q hq => by have h1 := oF45 q hq; omega
 have lt54 := VotT.lt hV41
 have own55 : ∀ q, G35 q → w22.heap.size ≤ q ∧ q ≠ b10 ∧ q ≠ b22 ∧ q ≠ b28 := fun q hq => by have h1 := oG46 q hq; omega
 have lt56 := Led.lt hL42
 replace hR40 : Rfr H33 w26 r29 gg30 [bkT deposit] rwQ0.rs := hR40
 replace hV41 : VotT F34 w26 v31 rwQ0.s := hV41
 replace hL42 : Led G35 w26 l32 rwQ0.xs rwQ0.cs := hL42
 refine Os 4 [(0, nt deposit), (1, nt a), (2, nt b), (8, pt b28)] ?_
 refine Oe ?_
 refine V_seq ?_
 refine Vr ?_
 refine Os 2 [(0, nt deposit), (1, nt a), (2, nt b), (8, pt b28), (44, .bool false)] ?_
 refine Oe ?_
 refine V_false rfl ?_
 refine V_skip ?_
 refine X_then ?_
 refine V_seq ?_
 refine V_draws (acts [16]) none_ [[0, 1, 2, 3, 4, 5, 6, 7, 8, 9, 10, 11, 12, 13, 14, 15, 16]] (by kernel_rfl) (by repeat first | exact (by first | exact sure_body (by rintro _ _ ⟨_, _, h, _⟩; exact ⟨_, h⟩) | exact sure_body (by rintro _ _ ⟨_, _, _, _, _, _, _, _, _, _, _, h, _⟩; exact ⟨_, h⟩) | exact sure_body (by rintro _ _ ⟨h, _⟩; exact ⟨_, h⟩)) | refine sure_then ?_ | refine sure_block ?_ | refine sure_join ?_) (by kernel_rfl) ?_
 intro w58 hk57 he59 L hL60
 have hsz61 := Keep.size hk57
 replace hb10_20 := hb10_20.keep hk57 (fun f => f)
 replace hb22 := hb22.keep hk57 (fun f => f)
 replace hb39 := hb39.keep hk57 (fun f => f)
 replace hK0 := Keep.tr hK0 (Keep.ofNone hk57)
 replace hR40 := Rfr.keep hR40 hk57 (fun _ _ f => f)
 replace hV41 := VotT.keep hV41 hk57 (fun _ _ f => f)
 replace hL42 := Led.keep hL42 hk57 (fun _ _ f => f)
 have qhb10_20 := hb10_20
 have qhb22 := hb22
 have qhb39 := hb39
 have K62 : Keep none_ w58 w58 := Keep.refl _ _
 obtain rfl := List.mem_singleton.1 hL60
 refine Gs [3, 4, 5, 6, 7, 8, 9, 10, 11, 12, 13, 14, 15, 16] [(0, nt deposit), (1, nt a), (2, nt b), (8, pt b28), (47, .pointer (some ⟨b28, 2, none⟩))] ?_
 refine Gc0 34 (.tmp 47) 2 (pt r29) (some 48) qhb39 rfl ?_
 refine Gs [7, 8, 9, 10, 11, 12, 13, 14, 15, 16] [(0, nt deposit), (1, nt a), (2, nt b), (8, pt b28), (48, pt r29), (51, pt b28)] ?_
 refine Gc0 32 (.tmp 51) 0 (pt l32) (some 52) qhb39 rfl ?_
 refine Gs [11, 12, 13, 14, 15, 16] [(0, nt deposit), (1, nt a), (2, nt b), (8, pt b28), (48, pt r29), (52, pt l32), (55, .pointer (some ⟨b28, 1, none⟩))] ?_
 refine Gc0 33 (.tmp 55) 1 (pt v31) (some 56) qhb39 rfl ?_
 have hw63 : IntKind.i64.wrap (a + 1) = a + 1 := (wrap64_id (by omega) (by omega)).trans (by omega)
 refine Gs [14, 15, 16] [(0, nt deposit), (1, nt a), (2, nt b), (8, pt b28), (48, pt r29), (52, pt l32), (56, pt v31), (58, nt (IntKind.i64.wrap (a + 1)))] ?_
 refine GI_eq [(0, nt deposit), (1, nt a), (2, nt b), (8, pt b28), (48, pt r29), (52, pt l32), (56, pt v31), (58, nt (a + 1))] (by rw [hw63]) ?_
 refine Gs [16] [(0, nt deposit), (1, nt a), (2, nt b), (8, pt b28), (48, pt r29), (52, pt l32), (56, pt v31), (59, nt (Int.tmod (a + 1) 10)), (60, .agg (hshc z0).toArray)] ?_
 refine GI_final 16 (by kernel_rfl) (by kernel_rfl) ?_
 obtain ⟨hb1, hb2, hb3, hb4, hb5, hb6⟩ := bk_go (d := deposit) (a := a) (b := b) (by omega) (by omega) (by omega)
 refine Ok { callee := (Callee.value (Operand.func 17)), args := #[(Operand.tmp 48), (Operand.tmp 52), (Operand.tmp 56), (Operand.tmp 59), (Operand.const (Value.int IntKind.i64 0)), (Operand.tmp 60), (Operand.const (Value.int IntKind.i64 0)), (Operand.const (Value.int IntKind.i64 0))], argTypes := #[34, 32, 33, 3, 3, 42, 3, 3] } 17 #[pt r29, pt l32, pt v31, nt (Int.tmod (a + 1) 10), nt 0, .agg (hshc z0).toArray, nt 0, nt 0] (some 61) (submit_spec H33 r29 gg30 [bkT deposit] rwQ0.rs F34 v31 rwQ0.s G35 l32 rwQ0.xs rwQ0.cs (Int.tmod (a + 1) 10) 0 z0 0 0 _ hR40 hV41 hL42 dHF47 dHG48 dFG49) ?_
 rintro _ w66 ⟨rfl, ⟨F68, F71, F74, ho69, ho72, ho75, hfr70, hfr73, hfr76, hdis77, hdis78, hdis79⟩, hk67⟩
 refine ⟨_, rfl, ?_⟩
 have hsz80 := Keep.size hk67
 replace hb10_20 := hb10_20.keep hk67 (fun hs => by rcases hs with hs | hs | hs; (have u9 : _ = gg30 := hs; have u0 := own51 _ (Rfr.atg hR40); have u1 := lt52 _ (Rfr.atg hR40); omega); (have u0 := own53 _ hs; have u1 := lt54 _ hs; omega); (have u0 := own55 _ hs; have u1 := lt56 _ hs; omega))
 replace hb22 := hb22.keep hk67 (fun hs => by rcases hs with hs | hs | hs; (have u9 : _ = gg30 := hs; have u0 := own51 _ (Rfr.atg hR40); have u1 := lt52 _ (Rfr.atg hR40); omega); (have u0 := own53 _ hs; have u1 := lt54 _ hs; omega); (have u0 := own55 _ hs; have u1 := lt56 _ hs; omega))
 replace hb39 := hb39.keep hk67 (fun hs => by rcases hs with hs | hs | hs; (have u9 : _ = gg30 := hs; have u0 := own51 _ (Rfr.atg hR40); have u1 := lt52 _ (Rfr.atg hR40); omega); (have u0 := own53 _ hs; have u1 := lt54 _ hs; omega); (have u0 := own55 _ hs; have u1 := lt56 _ hs; omega))
 replace hK0 := Keep.fresh hK0 hk67 (by intro i hi hs; first | exact hs | (rcases hs with hs | hs | hs; (have u9 : _ = gg30 := hs; have u0 := own51 _ (Rfr.atg hR40); have u1 := lt52 _ (Rfr.atg hR40); omega); (have u0 := own53 i hs; have u1 := lt54 i hs; omega); (have u0 := own55 i hs; have u1 := lt56 i hs; omega)))
 have own82 : ∀ q, F68 q → w22.heap.size ≤ q ∧ q ≠ b10 ∧ q ≠ b22 ∧ q ≠ b28 := fun q hq => by rcases hfr70 q hq with h | h; (have h1 := own51 q h; have h2 := lt52 q h; omega); omega
 have lt81 := Rfr.lt ho69
 have own84 : ∀ q, F71 q → w22.heap.size ≤ q ∧ q ≠ b10 ∧ q ≠ b22 ∧ q ≠ b28 := fun q hq => by rcases hfr73 q hq with h | h; (have h1 := own53 q h; have h2 := lt54 q h; omega); omega
 have lt83 := VotT.lt ho72
 have own86 : ∀ q, F74 q → w22.heap.size ≤ q ∧ q ≠ b10 ∧ q ≠ b22 ∧ q ≠ b28 := fun q hq => by rcases hfr76 q hq with h | h; (have h1 := own55 q h; have h2 := lt56 q h; omega); omega
 have lt85 := Led.lt ho75
 replace ho69 : Rfr F68 w66 r29 gg30 [bkT deposit] (rwSub [bkT deposit] rwQ0 (bkM a) 0 0 z0 0).rs := ho69
 replace ho72 : VotT F71 w66 v31 ((rwSub [bkT deposit] rwQ0 (bkM a) 0 0 z0 0).s) := ho72
 replace ho75 : Led F74 w66 l32 (rwSub [bkT deposit] rwQ0 (bkM a) 0 0 z0 0).xs (rwSub [bkT deposit] rwQ0 (bkM a) 0 0 z0 0).cs := ho75
 refine Oe ?_
 refine V_seq ?_
 refine V_draws (acts [9]) none_ [[0, 1, 2, 3, 4, 5, 6, 7, 8, 9, 10]] (by kernel_rfl) (by repeat first | exact (by first | exact sure_body (by rintro _ _ ⟨_, _, h, _⟩; exact ⟨_, h⟩) | exact sure_body (by rintro _ _ ⟨_, _, _, _, _, _, _, _, _, _, _, h, _⟩; exact ⟨_, h⟩) | exact sure_body (by rintro _ _ ⟨h, _⟩; exact ⟨_, h⟩)) | refine sure_then ?_ | refine sure_block ?_ | refine sure_join ?_) (by kernel_rfl) ?_
 intro w88 hk87 he89 L hL90
 have hsz91 := Keep.size hk87
 replace hb10_20 := hb10_20.keep hk87 (fun f => f)
 replace hb22 := hb22.keep hk87 (fun f => f)
 replace hb39 := hb39.keep hk87 (fun f => f)
 replace hK0 := Keep.tr hK0 (Keep.ofNone hk87)
 replace ho69 := Rfr.keep ho69 hk87 (fun _ _ f => f)
 replace ho72 := VotT.keep ho72 hk87 (fun _ _ f => f)
 replace ho75 := Led.keep ho75 hk87 (fun _ _ f => f)
 have qhb10_20 := hb10_20
 have qhb22 := hb22
 have qhb39 := hb39
 have K92 : Keep none_ w88 w88 := Keep.refl _ _
 obtain rfl := List.mem_singleton.1 hL90
 refine Gs [3, 4, 5, 6, 7, 8, 9, 10] [(0, nt deposit), (1, nt a), (2, nt b), (8, pt b28), (64, .pointer (some ⟨b28, 2, none⟩))] ?_
 refine Gc0 34 (.tmp 64) 2 (pt r29) (some 65) qhb39 rfl ?_
 refine Gs [7, 8, 9, 10] [(0, nt deposit), (1, nt a), (2, nt b), (8, pt b28), (65, pt r29), (68, pt b28)] ?_
 refine Gc0 32 (.tmp 68) 0 (pt l32) (some 69) qhb39 rfl ?_
 refine Gs [9, 10] [(0, nt deposit), (1, nt a), (2, nt b), (8, pt b28), (65, pt r29), (69, pt l32), (70, nt a)] ?_
 refine Gk0 { callee := (Callee.value (Operand.func 21)), args := #[(Operand.tmp 65), (Operand.tmp 69), (Operand.tmp 70), (Operand.const (Value.int IntKind.i64 0))], argTypes := #[34, 32, 3, 3] } 21 #[pt r29, pt l32, nt a, nt 0] (some 71) (deposit_spec F68 r29 gg30 [bkT deposit] (rwSub [bkT deposit] rwQ0 (bkM a) 0 0 z0 0).rs F74 l32 (rwSub [bkT deposit] rwQ0 (bkM a) 0 0 z0 0).xs (rwSub [bkT deposit] rwQ0 (bkM a) 0 0 z0 0).cs a 0 _ ho69 ho75 hdis78) ?_
 rintro _ w95 ⟨rfl, ⟨F97, F100, ho98, ho101, hfr99, hfr102, hdis103⟩, hk96⟩
 refine ⟨_, rfl, ?_⟩
 have hsz104 := Keep.size hk96
 replace hb10_20 := hb10_20.keep hk96 (fun hs => by rcases hs with hs | hs; (have u9 : _ = gg30 := hs; have u0 := own82 _ (Rfr.atg ho69); have u1 := lt81 _ (Rfr.atg ho69); omega); (have u0 := own86 _ hs; have u1 := lt85 _ hs; omega))
 replace hb22 := hb22.keep hk96 (fun hs => by rcases hs with hs | hs; (have u9 : _ = gg30 := hs; have u0 := own82 _ (Rfr.atg ho69); have u1 := lt81 _ (Rfr.atg ho69); omega); (have u0 := own86 _ hs; have u1 := lt85 _ hs; omega))
 replace hb39 := hb39.keep hk96 (fun hs => by rcases hs with hs | hs; (have u9 : _ = gg30 := hs; have u0 := own82 _ (Rfr.atg ho69); have u1 := lt81 _ (Rfr.atg ho69); omega); (have u0 := own86 _ hs; have u1 := lt85 _ hs; omega))
 replace hK0 := Keep.fresh hK0 hk96 (by intro i hi hs; first | exact hs | (rcases hs with hs | hs; (have u9 : _ = gg30 := hs; have u0 := own82 _ (Rfr.atg ho69); have u1 := lt81 _ (Rfr.atg ho69); omega); (have u0 := own86 i hs; have u1 := lt85 i hs; omega)))
 replace ho72 := VotT.keep ho72 hk96 (fun q hq hs => by rcases hs with hs | hs; exact (fun q h1 h2 => hdis77 q h2 h1) q hq (by rw [show q = gg30 from hs]; exact (Rfr.atg ho69)); exact hdis79 q hq hs)
 have own106 : ∀ q, F97 q → w22.heap.size ≤ q ∧ q ≠ b10 ∧ q ≠ b22 ∧ q ≠ b28 := fun q hq => by rcases hfr99 q hq with h | h; (have h1 := own82 q h; have h2 := lt81 q h; omega); omega
 have lt105 := Rfr.lt ho98
 have dis107 : ∀ q, F97 q → ¬ F71 q := fun q h1 h2 => by rcases hfr99 q h1 with h | h; exact hdis77 q h h2; (have h4 := lt83 q h2; omega)
 have own109 : ∀ q, F100 q → w22.heap.size ≤ q ∧ q ≠ b10 ∧ q ≠ b22 ∧ q ≠ b28 := fun q hq => by rcases hfr102 q hq with h | h; (have h1 := own86 q h; have h2 := lt85 q h; omega); omega
 have lt108 := Led.lt ho101
 have dis110 : ∀ q, F100 q → ¬ F71 q := fun q h1 h2 => by rcases hfr102 q h1 with h | h; exact (fun q h1 h2 => hdis79 q h2 h1) q h h2; (have h4 := lt83 q h2; omega)
 replace ho98 : Rfr F97 w95 r29 gg30 [bkT deposit] (rwDep [bkT deposit] (rwSub [bkT deposit] rwQ0 (bkM a) 0 0 z0 0) a 0).rs := ho98
 replace ho72 : VotT F71 w95 v31 ((rwDep [bkT deposit] (rwSub [bkT deposit] rwQ0 (bkM a) 0 0 z0 0) a 0).s) := ho72
 replace ho101 : Led F100 w95 l32 (rwDep [bkT deposit] (rwSub [bkT deposit] rwQ0 (bkM a) 0 0 z0 0) a 0).xs (rwDep [bkT deposit] (rwSub [bkT deposit] rwQ0 (bkM a) 0 0 z0 0) a 0).cs := ho101
 rw [hb2] at ho98
 rw [hb2] at ho72
 rw [hb2] at ho101
 replace ho98 : Rfr F97 w95 r29 gg30 [bkT deposit] (bkA deposit a).rs := ho98
 replace ho72 : VotT F71 w95 v31 ((bkA deposit a).s) := ho72
 replace ho101 : Led F100 w95 l32 (bkA deposit a).xs (bkA deposit a).cs := ho101
 refine Gp_ [(0, nt deposit), (1, nt a), (2, nt b), (8, pt b28), (71, nt (RW.depE [bkT deposit] (rwSub [bkT deposit] rwQ0 (bkM a) 0 0 z0 0) a 0))] ?_
 refine GI_eq [(0, nt deposit), (1, nt a), (2, nt b), (8, pt b28), (71, nt (bkE deposit))] (by rw [hb1]; rfl) ?_
 refine Gs [] [(0, nt deposit), (1, nt a), (2, nt b), (8, pt b28), (9, nt (bkE deposit))] ?_
 refine GI_end ?_
 refine X_then ?_
 refine V_seq ?_
 refine V_draws (acts [9]) none_ [[0, 1, 2, 3, 4, 5, 6, 7, 8, 9, 10]] (by kernel_rfl) (by repeat first | exact (by first | exact sure_body (by rintro _ _ ⟨_, _, h, _⟩; exact ⟨_, h⟩) | exact sure_body (by rintro _ _ ⟨_, _, _, _, _, _, _, _, _, _, _, h, _⟩; exact ⟨_, h⟩) | exact sure_body (by rintro _ _ ⟨h, _⟩; exact ⟨_, h⟩)) | refine sure_then ?_ | refine sure_block ?_ | refine sure_join ?_) (by kernel_rfl) ?_
 intro w112 hk111 he113 L hL114
 have hsz115 := Keep.size hk111
 replace hb10_20 := hb10_20.keep hk111 (fun f => f)
 replace hb22 := hb22.keep hk111 (fun f => f)
 replace hb39 := hb39.keep hk111 (fun f => f)
 replace hK0 := Keep.tr hK0 (Keep.ofNone hk111)
 replace ho72 := VotT.keep ho72 hk111 (fun _ _ f => f)
 replace ho98 := Rfr.keep ho98 hk111 (fun _ _ f => f)
 replace ho101 := Led.keep ho101 hk111 (fun _ _ f => f)
 have qhb10_20 := hb10_20
 have qhb22 := hb22
 have qhb39 := hb39
 have K116 : Keep none_ w112 w112 := Keep.refl _ _
 obtain rfl := List.mem_singleton.1 hL114
 refine Gs [3, 4, 5, 6, 7, 8, 9, 10] [(0, nt deposit), (1, nt a), (2, nt b), (8, pt b28), (9, nt (bkE deposit)), (74, .pointer (some ⟨b28, 2, none⟩))] ?_
 refine Gc0 34 (.tmp 74) 2 (pt r29) (some 75) qhb39 rfl ?_
 refine Gs [7, 8, 9, 10] [(0, nt deposit), (1, nt a), (2, nt b), (8, pt b28), (9, nt (bkE deposit)), (75, pt r29), (78, pt b28)] ?_
 refine Gc0 32 (.tmp 78) 0 (pt l32) (some 79) qhb39 rfl ?_
 refine Gs [9, 10] [(0, nt deposit), (1, nt a), (2, nt b), (8, pt b28), (9, nt (bkE deposit)), (75, pt r29), (79, pt l32), (80, nt b)] ?_
 refine Gk0 { callee := (Callee.value (Operand.func 21)), args := #[(Operand.tmp 75), (Operand.tmp 79), (Operand.tmp 80), (Operand.const (Value.int IntKind.i64 0))], argTypes := #[34, 32, 3, 3] } 21 #[pt r29, pt l32, nt b, nt 0] (some 81) (deposit_spec F97 r29 gg30 [bkT deposit] (bkA deposit a).rs F100 l32 (bkA deposit a).xs (bkA deposit a).cs b 0 _ ho98 ho101 hdis103) ?_
 rintro _ w119 ⟨rfl, ⟨F121, F124, ho122, ho125, hfr123, hfr126, hdis127⟩, hk120⟩
 refine ⟨_, rfl, ?_⟩
 have hsz128 := Keep.size hk120
 replace hb10_20 := hb10_20.keep hk120 (fun hs => by rcases hs with hs | hs; (have u9 : _ = gg30 := hs; have u0 := own106 _ (Rfr.atg ho98); have u1 := lt105 _ (Rfr.atg ho98); omega); (have u0 := own109 _ hs; have u1 := lt108 _ hs; omega))
 replace hb22 := hb22.keep hk120 (fun hs => by rcases hs with hs | hs; (have u9 : _ = gg30 := hs; have u0 := own106 _ (Rfr.atg ho98); have u1 := lt105 _ (Rfr.atg ho98); omega); (have u0 := own109 _ hs; have u1 := lt108 _ hs; omega))
 replace hb39 := hb39.keep hk120 (fun hs => by rcases hs with hs | hs; (have u9 : _ = gg30 := hs; have u0 := own106 _ (Rfr.atg ho98); have u1 := lt105 _ (Rfr.atg ho98); omega); (have u0 := own109 _ hs; have u1 := lt108 _ hs; omega))
 replace hK0 := Keep.fresh hK0 hk120 (by intro i hi hs; first | exact hs | (rcases hs with hs | hs; (have u9 : _ = gg30 := hs; have u0 := own106 _ (Rfr.atg ho98); have u1 := lt105 _ (Rfr.atg ho98); omega); (have u0 := own109 i hs; have u1 := lt108 i hs; omega)))
 replace ho72 := VotT.keep ho72 hk120 (fun q hq hs => by rcases hs with hs | hs; exact (fun q h1 h2 => dis107 q h2 h1) q hq (by rw [show q = gg30 from hs]; exact (Rfr.atg ho98)); exact (fun q h1 h2 => dis110 q h2 h1) q hq hs)
 have own130 : ∀ q, F121 q → w22.heap.size ≤ q ∧ q ≠ b10 ∧ q ≠ b22 ∧ q ≠ b28 := fun q hq => by rcases hfr123 q hq with h | h; (have h1 := own106 q h; have h2 := lt105 q h; omega); omega
 have lt129 := Rfr.lt ho122
 have dis131 : ∀ q, F121 q → ¬ F71 q := fun q h1 h2 => by rcases hfr123 q h1 with h | h; exact dis107 q h h2; (have h4 := lt83 q h2; omega)
 have own133 : ∀ q, F124 q → w22.heap.size ≤ q ∧ q ≠ b10 ∧ q ≠ b22 ∧ q ≠ b28 := fun q hq => by rcases hfr126 q hq with h | h; (have h1 := own109 q h; have h2 := lt108 q h; omega); omega
 have lt132 := Led.lt ho125
 have dis134 : ∀ q, F124 q → ¬ F71 q := fun q h1 h2 => by rcases hfr126 q h1 with h | h; exact dis110 q h h2; (have h4 := lt83 q h2; omega)
 replace ho122 : Rfr F121 w119 r29 gg30 [bkT deposit] (rwDep [bkT deposit] (bkA deposit a) b 0).rs := ho122
 replace ho72 : VotT F71 w119 v31 ((rwDep [bkT deposit] (bkA deposit a) b 0).s) := ho72
 replace ho125 : Led F124 w119 l32 (rwDep [bkT deposit] (bkA deposit a) b 0).xs (rwDep [bkT deposit] (bkA deposit a) b 0).cs := ho125
 rw [hb4] at ho122
 rw [hb4] at ho72
 rw [hb4] at ho125
 replace ho122 : Rfr F121 w119 r29 gg30 [bkT deposit] (bkA deposit a).rs := ho122
 replace ho72 : VotT F71 w119 v31 ((bkA deposit a).s) := ho72
 replace ho125 : Led F124 w119 l32 (bkA deposit a).xs (bkA deposit a).cs := ho125
 refine Gp_ [(0, nt deposit), (1, nt a), (2, nt b), (8, pt b28), (9, nt (bkE deposit)), (81, nt (RW.depE [bkT deposit] (bkA deposit a) b 0))] ?_
 refine GI_eq [(0, nt deposit), (1, nt a), (2, nt b), (8, pt b28), (9, nt (bkE deposit)), (81, nt (bkF deposit))] (by rw [hb3]; rfl) ?_
 refine Gs [] [(0, nt deposit), (1, nt a), (2, nt b), (8, pt b28), (9, nt (bkE deposit)), (10, nt (bkF deposit))] ?_
 refine GI_end ?_
 refine X_then ?_
 refine V_seq ?_
 refine V_draws (acts [8]) none_ [[0, 1, 2, 3, 4, 5, 6, 7, 8]] (by kernel_rfl) (by repeat first | exact (by first | exact sure_body (by rintro _ _ ⟨_, _, h, _⟩; exact ⟨_, h⟩) | exact sure_body (by rintro _ _ ⟨_, _, _, _, _, _, _, _, _, _, _, h, _⟩; exact ⟨_, h⟩) | exact sure_body (by rintro _ _ ⟨h, _⟩; exact ⟨_, h⟩)) | refine sure_then ?_ | refine sure_block ?_ | refine sure_join ?_) (by kernel_rfl) ?_
 intro w136 hk135 he137 L hL138
 have hsz139 := Keep.size hk135
 replace hb10_20 := hb10_20.keep hk135 (fun f => f)
 replace hb22 := hb22.keep hk135 (fun f => f)
 replace hb39 := hb39.keep hk135 (fun f => f)
 replace hK0 := Keep.tr hK0 (Keep.ofNone hk135)
 replace ho72 := VotT.keep ho72 hk135 (fun _ _ f => f)
 replace ho122 := Rfr.keep ho122 hk135 (fun _ _ f => f)
 replace ho125 := Led.keep ho125 hk135 (fun _ _ f => f)
 have qhb10_20 := hb10_20
 have qhb22 := hb22
 have qhb39 := hb39
 have K140 : Keep none_ w136 w136 := Keep.refl _ _
 obtain rfl := List.mem_singleton.1 hL138
 refine Gs [3, 4, 5, 6, 7, 8] [(0, nt deposit), (1, nt a), (2, nt b), (8, pt b28), (9, nt (bkE deposit)), (10, nt (bkF deposit)), (84, .pointer (some ⟨b28, 2, none⟩))] ?_
 refine Gc0 34 (.tmp 84) 2 (pt r29) (some 85) qhb39 rfl ?_
 refine Gs [7, 8] [(0, nt deposit), (1, nt a), (2, nt b), (8, pt b28), (9, nt (bkE deposit)), (10, nt (bkF deposit)), (85, pt r29), (88, .pointer (some ⟨b28, 1, none⟩))] ?_
 refine Gc0 33 (.tmp 88) 1 (pt v31) (some 89) qhb39 rfl ?_
 refine GI_final 8 (by kernel_rfl) (by kernel_rfl) ?_
 refine Ok { callee := (Callee.value (Operand.func 24)), args := #[(Operand.tmp 85), (Operand.tmp 89), (Operand.const (Value.int IntKind.i64 0)), (Operand.const (Value.int IntKind.i64 1))], argTypes := #[34, 33, 3, 3] } 24 #[pt r29, pt v31, nt 0, nt 1] (some 90) (cancel_spec F121 r29 gg30 [bkT deposit] (bkA deposit a).rs F71 v31 (bkA deposit a).s 0 1 _ ho122 ho72 dis131) ?_
 rintro _ w143 ⟨A145, cap145, rfl, hA145, ow145, ⟨F146, F149, ho147, ho150, hfr148, hfr151, hdis152, dA153, dA154⟩, hk144⟩
 refine ⟨_, rfl, ?_⟩
 have hsz155 := Keep.size hk144
 replace hb10_20 := hb10_20.keep hk144 (fun hs => by rcases hs with hs | hs; (have u9 : _ = gg30 := hs; have u0 := own130 _ (Rfr.atg ho122); have u1 := lt129 _ (Rfr.atg ho122); omega); (have u0 := own84 _ hs; have u1 := lt83 _ hs; omega))
 replace hb22 := hb22.keep hk144 (fun hs => by rcases hs with hs | hs; (have u9 : _ = gg30 := hs; have u0 := own130 _ (Rfr.atg ho122); have u1 := lt129 _ (Rfr.atg ho122); omega); (have u0 := own84 _ hs; have u1 := lt83 _ hs; omega))
 replace hb39 := hb39.keep hk144 (fun hs => by rcases hs with hs | hs; (have u9 : _ = gg30 := hs; have u0 := own130 _ (Rfr.atg ho122); have u1 := lt129 _ (Rfr.atg ho122); omega); (have u0 := own84 _ hs; have u1 := lt83 _ hs; omega))
 replace hK0 := Keep.fresh hK0 hk144 (by intro i hi hs; first | exact hs | (rcases hs with hs | hs; (have u9 : _ = gg30 := hs; have u0 := own130 _ (Rfr.atg ho122); have u1 := lt129 _ (Rfr.atg ho122); omega); (have u0 := own84 i hs; have u1 := lt83 i hs; omega)))
 replace ho125 := Led.keep ho125 hk144 (fun q hq hs => by rcases hs with hs | hs; exact (fun q h1 h2 => hdis127 q h2 h1) q hq (by rw [show q = gg30 from hs]; exact (Rfr.atg ho122)); exact dis134 q hq hs)
 have own157 : ∀ q, F146 q → w22.heap.size ≤ q ∧ q ≠ b10 ∧ q ≠ b22 ∧ q ≠ b28 := fun q hq => by rcases hfr148 q hq with h | h; (have h1 := own130 q h; have h2 := lt129 q h; omega); omega
 have lt156 := Rfr.lt ho147
 have dis158 : ∀ q, F146 q → ¬ F124 q := fun q h1 h2 => by rcases hfr148 q h1 with h | h; exact hdis127 q h h2; (have h4 := lt132 q h2; omega)
 have own160 : ∀ q, F149 q → w22.heap.size ≤ q ∧ q ≠ b10 ∧ q ≠ b22 ∧ q ≠ b28 := fun q hq => by rcases hfr151 q hq with h | h; (have h1 := own84 q h; have h2 := lt83 q h; omega); omega
 have lt159 := VotT.lt ho150
 have dis161 : ∀ q, F149 q → ¬ F124 q := fun q h1 h2 => by rcases hfr151 q h1 with h | h; exact (fun q h1 h2 => dis134 q h2 h1) q h h2; (have h4 := lt132 q h2; omega)
 replace ho147 : Rfr F146 w143 r29 gg30 [bkT deposit] (rwCan (bkA deposit a) 0 1).rs := ho147
 replace ho150 : VotT F149 w143 v31 ((rwCan (bkA deposit a) 0 1).s) := ho150
 replace ho125 : Led F124 w143 l32 (rwCan (bkA deposit a) 0 1).xs (rwCan (bkA deposit a) 0 1).cs := ho125
 refine Oe ?_
 refine V_seq ?_
 refine V_draws (acts [9]) none_ [[0, 1, 2, 3, 4, 5, 6, 7, 8, 9, 10]] (by kernel_rfl) (by repeat first | exact (by first | exact sure_body (by rintro _ _ ⟨_, _, h, _⟩; exact ⟨_, h⟩) | exact sure_body (by rintro _ _ ⟨_, _, _, _, _, _, _, _, _, _, _, h, _⟩; exact ⟨_, h⟩) | exact sure_body (by rintro _ _ ⟨h, _⟩; exact ⟨_, h⟩)) | refine sure_then ?_ | refine sure_block ?_ | refine sure_join ?_) (by kernel_rfl) ?_
 intro w163 hk162 he164 L hL165
 have hsz166 := Keep.size hk162
 replace hb10_20 := hb10_20.keep hk162 (fun f => f)
 replace hb22 := hb22.keep hk162 (fun f => f)
 replace hb39 := hb39.keep hk162 (fun f => f)
 replace hK0 := Keep.tr hK0 (Keep.ofNone hk162)
 replace ho125 := Led.keep ho125 hk162 (fun _ _ f => f)
 replace ho147 := Rfr.keep ho147 hk162 (fun _ _ f => f)
 replace ho150 := VotT.keep ho150 hk162 (fun _ _ f => f)
 have qhb10_20 := hb10_20
 have qhb22 := hb22
 have qhb39 := hb39
 have K167 : Keep none_ w163 w163 := Keep.refl _ _
 obtain rfl := List.mem_singleton.1 hL165
 refine Gs [3, 4, 5, 6, 7, 8, 9, 10] [(0, nt deposit), (1, nt a), (2, nt b), (8, pt b28), (9, nt (bkE deposit)), (10, nt (bkF deposit)), (93, .pointer (some ⟨b28, 2, none⟩))] ?_
 refine Gc0 34 (.tmp 93) 2 (pt r29) (some 94) qhb39 rfl ?_
 refine Gs [7, 8, 9, 10] [(0, nt deposit), (1, nt a), (2, nt b), (8, pt b28), (9, nt (bkE deposit)), (10, nt (bkF deposit)), (94, pt r29), (97, pt b28)] ?_
 refine Gc0 32 (.tmp 97) 0 (pt l32) (some 98) qhb39 rfl ?_
 refine Gs [9, 10] [(0, nt deposit), (1, nt a), (2, nt b), (8, pt b28), (9, nt (bkE deposit)), (10, nt (bkF deposit)), (94, pt r29), (98, pt l32), (99, nt b)] ?_
 refine Gk0 { callee := (Callee.value (Operand.func 21)), args := #[(Operand.tmp 94), (Operand.tmp 98), (Operand.tmp 99), (Operand.const (Value.int IntKind.i64 0))], argTypes := #[34, 32, 3, 3] } 21 #[pt r29, pt l32, nt b, nt 0] (some 100) (deposit_spec F146 r29 gg30 [bkT deposit] (rwCan (bkA deposit a) 0 1).rs F124 l32 (rwCan (bkA deposit a) 0 1).xs (rwCan (bkA deposit a) 0 1).cs b 0 _ ho147 ho125 dis158) ?_
 rintro _ w170 ⟨rfl, ⟨F172, F175, ho173, ho176, hfr174, hfr177, hdis178⟩, hk171⟩
 refine ⟨_, rfl, ?_⟩
 have hsz179 := Keep.size hk171
 replace hb10_20 := hb10_20.keep hk171 (fun hs => by rcases hs with hs | hs; (have u9 : _ = gg30 := hs; have u0 := own157 _ (Rfr.atg ho147); have u1 := lt156 _ (Rfr.atg ho147); omega); (have u0 := own133 _ hs; have u1 := lt132 _ hs; omega))
 replace hb22 := hb22.keep hk171 (fun hs => by rcases hs with hs | hs; (have u9 : _ = gg30 := hs; have u0 := own157 _ (Rfr.atg ho147); have u1 := lt156 _ (Rfr.atg ho147); omega); (have u0 := own133 _ hs; have u1 := lt132 _ hs; omega))
 replace hb39 := hb39.keep hk171 (fun hs => by rcases hs with hs | hs; (have u9 : _ = gg30 := hs; have u0 := own157 _ (Rfr.atg ho147); have u1 := lt156 _ (Rfr.atg ho147); omega); (have u0 := own133 _ hs; have u1 := lt132 _ hs; omega))
 replace hK0 := Keep.fresh hK0 hk171 (by intro i hi hs; first | exact hs | (rcases hs with hs | hs; (have u9 : _ = gg30 := hs; have u0 := own157 _ (Rfr.atg ho147); have u1 := lt156 _ (Rfr.atg ho147); omega); (have u0 := own133 i hs; have u1 := lt132 i hs; omega)))
 replace ho150 := VotT.keep ho150 hk171 (fun q hq hs => by rcases hs with hs | hs; exact (fun q h1 h2 => hdis152 q h2 h1) q hq (by rw [show q = gg30 from hs]; exact (Rfr.atg ho147)); exact dis161 q hq hs)
 have own181 : ∀ q, F172 q → w22.heap.size ≤ q ∧ q ≠ b10 ∧ q ≠ b22 ∧ q ≠ b28 := fun q hq => by rcases hfr174 q hq with h | h; (have h1 := own157 q h; have h2 := lt156 q h; omega); omega
 have lt180 := Rfr.lt ho173
 have dis182 : ∀ q, F172 q → ¬ F149 q := fun q h1 h2 => by rcases hfr174 q h1 with h | h; exact hdis152 q h h2; (have h4 := lt159 q h2; omega)
 have own184 : ∀ q, F175 q → w22.heap.size ≤ q ∧ q ≠ b10 ∧ q ≠ b22 ∧ q ≠ b28 := fun q hq => by rcases hfr177 q hq with h | h; (have h1 := own133 q h; have h2 := lt132 q h; omega); omega
 have lt183 := Led.lt ho176
 have dis185 : ∀ q, F175 q → ¬ F149 q := fun q h1 h2 => by rcases hfr177 q h1 with h | h; exact (fun q h1 h2 => dis161 q h2 h1) q h h2; (have h4 := lt159 q h2; omega)
 replace ho173 : Rfr F172 w170 r29 gg30 [bkT deposit] (rwDep [bkT deposit] (rwCan (bkA deposit a) 0 1) b 0).rs := ho173
 replace ho150 : VotT F149 w170 v31 ((rwDep [bkT deposit] (rwCan (bkA deposit a) 0 1) b 0).s) := ho150
 replace ho176 : Led F175 w170 l32 (rwDep [bkT deposit] (rwCan (bkA deposit a) 0 1) b 0).xs (rwDep [bkT deposit] (rwCan (bkA deposit a) 0 1) b 0).cs := ho176
 refine Gp_ [(0, nt deposit), (1, nt a), (2, nt b), (8, pt b28), (9, nt (bkE deposit)), (10, nt (bkF deposit)), (100, nt (RW.depE [bkT deposit] (rwCan (bkA deposit a) 0 1) b 0))] ?_
 refine GI_eq [(0, nt deposit), (1, nt a), (2, nt b), (8, pt b28), (9, nt (bkE deposit)), (10, nt (bkF deposit)), (100, nt 9)] (by rw [hb5]) ?_
 refine Gs [] [(0, nt deposit), (1, nt a), (2, nt b), (8, pt b28), (9, nt (bkE deposit)), (10, nt (bkF deposit)), (11, nt 9)] ?_
 refine GI_end ?_
 refine X_then ?_
 refine V_seq ?_
 refine V_draws (acts [9]) none_ [[0, 1, 2, 3, 4, 5, 6, 7, 8, 9, 10]] (by kernel_rfl) (by repeat first | exact (by first | exact sure_body (by rintro _ _ ⟨_, _, h, _⟩; exact ⟨_, h⟩) | exact sure_body (by rintro _ _ ⟨_, _, _, _, _, _, _, _, _, _, _, h, _⟩; exact ⟨_, h⟩) | exact sure_body (by rintro _ _ ⟨h, _⟩; exact ⟨_, h⟩)) | refine sure_then ?_ | refine sure_block ?_ | refine sure_join ?_) (by kernel_rfl) ?_
 intro w187 hk186 he188 L hL189
 have hsz190 := Keep.size hk186
 replace hb10_20 := hb10_20.keep hk186 (fun f => f)
 replace hb22 := hb22.keep hk186 (fun f => f)
 replace hb39 := hb39.keep hk186 (fun f => f)
 replace hK0 := Keep.tr hK0 (Keep.ofNone hk186)
 replace ho150 := VotT.keep ho150 hk186 (fun _ _ f => f)
 replace ho173 := Rfr.keep ho173 hk186 (fun _ _ f => f)
 replace ho176 := Led.keep ho176 hk186 (fun _ _ f => f)
 have qhb10_20 := hb10_20
 have qhb22 := hb22
 have qhb39 := hb39
 have K191 : Keep none_ w187 w187 := Keep.refl _ _
 obtain rfl := List.mem_singleton.1 hL189
 refine Gs [3, 4, 5, 6, 7, 8, 9, 10] [(0, nt deposit), (1, nt a), (2, nt b), (8, pt b28), (9, nt (bkE deposit)), (10, nt (bkF deposit)), (11, nt 9), (103, .pointer (some ⟨b28, 2, none⟩))] ?_
 refine Gc0 34 (.tmp 103) 2 (pt r29) (some 104) qhb39 rfl ?_
 refine Gs [7, 8, 9, 10] [(0, nt deposit), (1, nt a), (2, nt b), (8, pt b28), (9, nt (bkE deposit)), (10, nt (bkF deposit)), (11, nt 9), (104, pt r29), (107, pt b28)] ?_
 refine Gc0 32 (.tmp 107) 0 (pt l32) (some 108) qhb39 rfl ?_
 refine Gs [9, 10] [(0, nt deposit), (1, nt a), (8, pt b28), (9, nt (bkE deposit)), (10, nt (bkF deposit)), (11, nt 9), (104, pt r29), (108, pt l32), (109, nt b)] ?_
 refine Gk0 { callee := (Callee.value (Operand.func 21)), args := #[(Operand.tmp 104), (Operand.tmp 108), (Operand.tmp 109), (Operand.const (Value.int IntKind.i64 1))], argTypes := #[34, 32, 3, 3] } 21 #[pt r29, pt l32, nt b, nt 1] (some 110) (deposit_spec F172 r29 gg30 [bkT deposit] (rwDep [bkT deposit] (rwCan (bkA deposit a) 0 1) b 0).rs F175 l32 (rwDep [bkT deposit] (rwCan (bkA deposit a) 0 1) b 0).xs (rwDep [bkT deposit] (rwCan (bkA deposit a) 0 1) b 0).cs b 1 _ ho173 ho176 hdis178) ?_
 rintro _ w194 ⟨rfl, ⟨F196, F199, ho197, ho200, hfr198, hfr201, hdis202⟩, hk195⟩
 refine ⟨_, rfl, ?_⟩
 have hsz203 := Keep.size hk195
 replace hb10_20 := hb10_20.keep hk195 (fun hs => by rcases hs with hs | hs; (have u9 : _ = gg30 := hs; have u0 := own181 _ (Rfr.atg ho173); have u1 := lt180 _ (Rfr.atg ho173); omega); (have u0 := own184 _ hs; have u1 := lt183 _ hs; omega))
 replace hb22 := hb22.keep hk195 (fun hs => by rcases hs with hs | hs; (have u9 : _ = gg30 := hs; have u0 := own181 _ (Rfr.atg ho173); have u1 := lt180 _ (Rfr.atg ho173); omega); (have u0 := own184 _ hs; have u1 := lt183 _ hs; omega))
 replace hb39 := hb39.keep hk195 (fun hs => by rcases hs with hs | hs; (have u9 : _ = gg30 := hs; have u0 := own181 _ (Rfr.atg ho173); have u1 := lt180 _ (Rfr.atg ho173); omega); (have u0 := own184 _ hs; have u1 := lt183 _ hs; omega))
 replace hK0 := Keep.fresh hK0 hk195 (by intro i hi hs; first | exact hs | (rcases hs with hs | hs; (have u9 : _ = gg30 := hs; have u0 := own181 _ (Rfr.atg ho173); have u1 := lt180 _ (Rfr.atg ho173); omega); (have u0 := own184 i hs; have u1 := lt183 i hs; omega)))
 replace ho150 := VotT.keep ho150 hk195 (fun q hq hs => by rcases hs with hs | hs; exact (fun q h1 h2 => dis182 q h2 h1) q hq (by rw [show q = gg30 from hs]; exact (Rfr.atg ho173)); exact (fun q h1 h2 => dis185 q h2 h1) q hq hs)
 have own205 : ∀ q, F196 q → w22.heap.size ≤ q ∧ q ≠ b10 ∧ q ≠ b22 ∧ q ≠ b28 := fun q hq => by rcases hfr198 q hq with h | h; (have h1 := own181 q h; have h2 := lt180 q h; omega); omega
 have lt204 := Rfr.lt ho197
 have dis206 : ∀ q, F196 q → ¬ F149 q := fun q h1 h2 => by rcases hfr198 q h1 with h | h; exact dis182 q h h2; (have h4 := lt159 q h2; omega)
 have own208 : ∀ q, F199 q → w22.heap.size ≤ q ∧ q ≠ b10 ∧ q ≠ b22 ∧ q ≠ b28 := fun q hq => by rcases hfr201 q hq with h | h; (have h1 := own184 q h; have h2 := lt183 q h; omega); omega
 have lt207 := Led.lt ho200
 have dis209 : ∀ q, F199 q → ¬ F149 q := fun q h1 h2 => by rcases hfr201 q h1 with h | h; exact dis185 q h h2; (have h4 := lt159 q h2; omega)
 replace ho197 : Rfr F196 w194 r29 gg30 [bkT deposit] (rwDep [bkT deposit] (rwDep [bkT deposit] (rwCan (bkA deposit a) 0 1) b 0) b 1).rs := ho197
 replace ho150 : VotT F149 w194 v31 ((rwDep [bkT deposit] (rwDep [bkT deposit] (rwCan (bkA deposit a) 0 1) b 0) b 1).s) := ho150
 replace ho200 : Led F199 w194 l32 (rwDep [bkT deposit] (rwDep [bkT deposit] (rwCan (bkA deposit a) 0 1) b 0) b 1).xs (rwDep [bkT deposit] (rwDep [bkT deposit] (rwCan (bkA deposit a) 0 1) b 0) b 1).cs := ho200
 refine Gp_ [(0, nt deposit), (1, nt a), (8, pt b28), (9, nt (bkE deposit)), (10, nt (bkF deposit)), (11, nt 9), (110, nt (RW.depE [bkT deposit] (rwDep [bkT deposit] (rwCan (bkA deposit a) 0 1) b 0) b 1))] ?_
 refine GI_eq [(0, nt deposit), (1, nt a), (8, pt b28), (9, nt (bkE deposit)), (10, nt (bkF deposit)), (11, nt 9), (110, nt 4)] (by rw [hb6]) ?_
 refine Gs [] [(0, nt deposit), (1, nt a), (8, pt b28), (9, nt (bkE deposit)), (10, nt (bkF deposit)), (11, nt 9), (12, nt 4)] ?_
 refine GI_end ?_
 refine X_then ?_
 refine V_seq ?_
 refine Vr ?_
 refine Os 2 [(0, nt deposit), (1, nt a), (8, pt b28), (9, nt (bkE deposit)), (10, nt (bkF deposit)), (11, nt 9), (12, nt 4), (112, .bool (decide (deposit > 1000)))] ?_
 refine Oe ?_
 refine V_if (deposit > 1000) (by kernel_rfl) (fun hc210 => ?_) (fun hc210 => ?_)
 ·
  refine Vr ?_
  refine Os 3 [(10, nt (bkF deposit)), (11, nt 9), (12, nt 4), (115, .bool (decide (bkE deposit = 6)))] ?_
  refine OI_eq [(10, nt (bkF deposit)), (11, nt 9), (12, nt 4), (115, .bool true)] (by rw [decide_eq_true (show (bkE deposit = 6) from (if_pos hc210))]) ?_
  refine Os 7 [(11, nt 9), (12, nt 4), (119, .bool (decide (bkF deposit = 6)))] ?_
  refine OI_eq [(11, nt 9), (12, nt 4), (119, .bool true)] (by rw [decide_eq_true (show (bkF deposit = 6) from (if_pos hc210))]) ?_
  refine Os 15 [(127, .bool true)] ?_
  refine Ok { callee := (Callee.value (Operand.func 18)), args := #[], argTypes := #[] } 18 #[] (some 128) (known_spec _) ?_
  rintro _ w213 ⟨rfl, hk214⟩
  refine ⟨_, rfl, ?_⟩
  have hsz215 := Keep.size hk214
  replace hb10_20 := hb10_20.keep hk214 (fun f => f)
  replace hb22 := hb22.keep hk214 (fun f => f)
  replace hK0 := Keep.tr hK0 (Keep.ofNone hk214)
  replace ho150 := VotT.keep ho150 hk214 (fun _ _ f => f)
  replace ho197 := Rfr.keep ho197 hk214 (fun _ _ f => f)
  replace ho200 := Led.keep ho200 hk214 (fun _ _ f => f)
  refine Os 18 [(6, .bool true)] ?_
  refine Oe ?_
  refine V_ret ?_
  refine X_ret_then ?_
  exact X_return (.bool true) rfl ⟨rfl, hK0⟩
 obtain ⟨he1, he2, he3⟩ := bk_end (d := deposit) (a := a) (b := b) (by omega) (by omega)
 refine V_skip ?_
 refine X_then ?_
 refine Vr ?_
 refine Os 3 [(0, nt deposit), (1, nt a), (8, pt b28), (9, nt (bkE deposit)), (10, nt (bkF deposit)), (11, nt 9), (12, nt 4), (133, .pointer (some ⟨b28, 2, none⟩))] ?_
 refine Oc 34 (.tmp 133) 2 (pt r29) (some 134) hb39 rfl ?_
 refine Ok { callee := (Callee.value (Operand.func 23)), args := #[(Operand.tmp 134), (Operand.const (Value.int IntKind.i64 0))], argTypes := #[34, 3] } 23 #[pt r29, nt 0] (some 135) (rget_spec F196 r29 gg30 [bkT deposit] (rwDep [bkT deposit] (rwDep [bkT deposit] (rwCan (bkA deposit a) 0 1) b 0) b 1).rs 0 _ ho197) ?_
 rintro _ w216 ⟨rfl, hk217⟩
 refine ⟨_, rfl, ?_⟩
 have hsz218 := Keep.size hk217
 replace hb10_20 := hb10_20.keep hk217 (fun f => f)
 replace hb22 := hb22.keep hk217 (fun f => f)
 replace hb39 := hb39.keep hk217 (fun f => f)
 replace hK0 := Keep.tr hK0 (Keep.ofNone hk217)
 replace ho150 := VotT.keep ho150 hk217 (fun _ _ f => f)
 replace ho197 := Rfr.keep ho197 hk217 (fun _ _ f => f)
 replace ho200 := Led.keep ho200 hk217 (fun _ _ f => f)
 refine Os 8 [(0, nt deposit), (1, nt a), (8, pt b28), (9, nt (bkE deposit)), (10, nt (bkF deposit)), (11, nt 9), (12, nt 4), (136, .agg (Rfm.cells (getA (rwDep [bkT deposit] (rwDep [bkT deposit] (rwCan (bkA deposit a) 0 1) b 0) b 1).rs 0)).toArray), (137, .bool ((getR (rwDep [bkT deposit] (rwDep [bkT deposit] (rwCan (bkA deposit a) 0 1) b 0) b 1).rs 0).isSome))] ?_
 refine OI_alloc 57 (.agg (Rfm.cells Rfm.zero).toArray) (Rfm.cells Rfm.zero) (some 13) (by kernel_rfl) (by kernel_rfl) (by kernel_rfl) ?_
 intro b219 w219 e219 hb219 k219 z219
 have hsz220 := Keep.size k219
 replace hb10_20 := hb10_20.keep k219 (fun f => f)
 replace hb22 := hb22.keep k219 (fun f => f)
 replace hb39 := hb39.keep k219 (fun f => f)
 replace hK0 := Keep.tr hK0 (Keep.ofNone k219)
 replace ho150 := VotT.keep ho150 k219 (fun _ _ f => f)
 replace ho197 := Rfr.keep ho197 k219 (fun _ _ f => f)
 replace ho200 := Led.keep ho200 k219 (fun _ _ f => f)
 have hb219lt := hb219.lt
 refine OI_set (m := 45) (kd := true) 57 (.tmp 13) (.tmp 136) 0 (.agg (Rfm.cells (getA (rwDep [bkT deposit] (rwDep [bkT deposit] (rwCan (bkA deposit a) 0 1) b 0) b 1).rs 0)).toArray) (Rfm.cells (getA (rwDep [bkT deposit] (rwDep [bkT deposit] (rwCan (bkA deposit a) 0 1) b 0) b 1).rs 0)) none (by kernel_rfl) (by kernel_rfl) (by kernel_rfl) hb219 (by kernel_rfl) rfl (Rfm.len _) (Nat.le_of_ble_eq_true (by kernel_rfl)) (Rfm.one _) ?_
 intro w221 hb219_224 hk222 hz223
 replace hb219_224 : Blk w221 b219 (Rfm.cells (getA (rwDep [bkT deposit] (rwDep [bkT deposit] (rwCan (bkA deposit a) 0 1) b 0) b 1).rs 0)) 57 := (Blk.eqL (Rfm.over _ _) hb219_224)
 have hsz225 := Keep.size hk222
 replace hb10_20 := hb10_20.keep hk222 (by show ¬ (_ = _); omega)
 replace hb22 := hb22.keep hk222 (by show ¬ (_ = _); omega)
 replace hb39 := hb39.keep hk222 (by show ¬ (_ = _); omega)
 replace hK0 := Keep.fresh hK0 hk222 (by intro i hi hs; first | exact hs | exact Or.inl hs | exact Or.inr hs | (exfalso; have hs2 : i = b219 := hs; omega))
 replace ho150 := VotT.keep ho150 hk222 (fun q hq hs => by have hs : q = b219 := hs; have g0 := own160 q hq; have g1 := lt159 q hq; omega)
 replace ho197 := Rfr.keep ho197 hk222 (fun q hq hs => by have hs : q = b219 := hs; have g0 := own205 q hq; have g1 := lt204 q hq; omega)
 replace ho200 := Led.keep ho200 hk222 (fun q hq hs => by have hs : q = b219 := hs; have g0 := own208 q hq; have g1 := lt207 q hq; omega)
 refine Os 11 [(0, nt deposit), (1, nt a), (8, pt b28), (9, nt (bkE deposit)), (10, nt (bkF deposit)), (11, nt 9), (12, nt 4), (13, pt b219), (14, .bool ((getR (rwDep [bkT deposit] (rwDep [bkT deposit] (rwCan (bkA deposit a) 0 1) b 0) b 1).rs 0).isSome))] ?_
 refine Oer ?_
 refine Os 3 [(0, nt deposit), (1, nt a), (8, pt b28), (10, nt (bkF deposit)), (11, nt 9), (12, nt 4), (13, pt b219), (14, .bool ((getR (rwDep [bkT deposit] (rwDep [bkT deposit] (rwCan (bkA deposit a) 0 1) b 0) b 1).rs 0).isSome)), (140, .bool (decide (bkE deposit = 0)))] ?_
 refine OI_eq [(0, nt deposit), (1, nt a), (8, pt b28), (10, nt (bkF deposit)), (11, nt 9), (12, nt 4), (13, pt b219), (14, .bool ((getR (rwDep [bkT deposit] (rwDep [bkT deposit] (rwCan (bkA deposit a) 0 1) b 0) b 1).rs 0).isSome)), (140, .bool true)] (by rw [decide_eq_true (show (bkE deposit = 0) from (if_neg hc210))]) ?_
 refine Os 7 [(0, nt deposit), (1, nt a), (8, pt b28), (11, nt 9), (12, nt 4), (13, pt b219), (14, .bool ((getR (rwDep [bkT deposit] (rwDep [bkT deposit] (rwCan (bkA deposit a) 0 1) b 0) b 1).rs 0).isSome)), (144, .bool (decide (bkF deposit = 5)))] ?_
 refine OI_eq [(0, nt deposit), (1, nt a), (8, pt b28), (11, nt 9), (12, nt 4), (13, pt b219), (14, .bool ((getR (rwDep [bkT deposit] (rwDep [bkT deposit] (rwCan (bkA deposit a) 0 1) b 0) b 1).rs 0).isSome)), (144, .bool true)] (by rw [decide_eq_true (show (bkF deposit = 5) from (if_neg hc210))]) ?_
 refine Os 18 [(0, nt deposit), (1, nt a), (8, pt b28), (13, pt b219), (155, .bool ((getR (rwDep [bkT deposit] (rwDep [bkT deposit] (rwCan (bkA deposit a) 0 1) b 0) b 1).rs 0).isSome))] ?_
 refine OI_eq [(0, nt deposit), (1, nt a), (8, pt b28), (13, pt b219), (155, .bool true)] (by rw [show ((getR (rwDep [bkT deposit] (rwDep [bkT deposit] (rwCan (bkA deposit a) 0 1) b 0) b 1).rs 0).isSome) = true from he1]) ?_
 refine Os 19 [(0, nt deposit), (1, nt a), (8, pt b28), (155, .bool true), (156, .pointer (some ⟨b219, 38, none⟩))] ?_
 refine Oc 3 (.tmp 156) 38 (nt ((getA (rwDep [bkT deposit] (rwDep [bkT deposit] (rwCan (bkA deposit a) 0 1) b 0) b 1).rs 0).backer)) (some 157) hb219_224 rfl ?_
 refine Os 24 [(0, nt deposit), (1, nt a), (8, pt b28), (161, .bool (decide ((getA (rwDep [bkT deposit] (rwDep [bkT deposit] (rwCan (bkA deposit a) 0 1) b 0) b 1).rs 0).backer = a)))] ?_
 refine OI_eq [(0, nt deposit), (1, nt a), (8, pt b28), (161, .bool true)] (by rw [decide_eq_true (show ((getA (rwDep [bkT deposit] (rwDep [bkT deposit] (rwCan (bkA deposit a) 0 1) b 0) b 1).rs 0).backer = a) from he2)]) ?_
 refine Os 27 [(0, nt deposit), (1, nt a), (161, .bool true), (164, pt b28)] ?_
 refine Oc 32 (.tmp 164) 0 (pt l32) (some 165) hb39 rfl ?_
 refine Os 29 [(0, nt deposit), (161, .bool true), (165, pt l32), (166, nt a)] ?_
 refine Ok { callee := (Callee.value (Operand.func 25)), args := #[(Operand.tmp 165), (Operand.tmp 166)], argTypes := #[32, 3] } 25 #[pt l32, nt a] (some 167) (free_spec F199 l32 (rwDep [bkT deposit] (rwDep [bkT deposit] (rwCan (bkA deposit a) 0 1) b 0) b 1).xs (rwDep [bkT deposit] (rwDep [bkT deposit] (rwCan (bkA deposit a) 0 1) b 0) b 1).cs a _ ho200) ?_
 rintro _ w230 ⟨rfl, hk231⟩
 refine ⟨_, rfl, ?_⟩
 have hsz232 := Keep.size hk231
 replace hb10_20 := hb10_20.keep hk231 (fun f => f)
 replace hb22 := hb22.keep hk231 (fun f => f)
 replace hb219_224 := hb219_224.keep hk231 (fun f => f)
 replace hK0 := Keep.tr hK0 (Keep.ofNone hk231)
 replace ho150 := VotT.keep ho150 hk231 (fun _ _ f => f)
 replace ho197 := Rfr.keep ho197 hk231 (fun _ _ f => f)
 replace ho200 := Led.keep ho200 hk231 (fun _ _ f => f)
 have hw233 : IntKind.i64.wrap (1000 - deposit) = 1000 - deposit := (wrap64_id (by omega) (by omega)).trans (by omega)
 refine Os 32 [(161, .bool true), (167, nt ((acct (rwDep [bkT deposit] (rwDep [bkT deposit] (rwCan (bkA deposit a) 0 1) b 0) b 1).xs a).free)), (169, nt (IntKind.i64.wrap (1000 - deposit)))] ?_
 refine OI_eq [(161, .bool true), (167, nt ((acct (rwDep [bkT deposit] (rwDep [bkT deposit] (rwCan (bkA deposit a) 0 1) b 0) b 1).xs a).free)), (169, nt (1000 - deposit))] (by rw [hw233]) ?_
 refine Os 35 [(172, .bool (decide ((acct (rwDep [bkT deposit] (rwDep [bkT deposit] (rwCan (bkA deposit a) 0 1) b 0) b 1).xs a).free = 1000 - deposit)))] ?_
 refine OI_eq [(172, .bool true)] (by rw [decide_eq_true (show ((acct (rwDep [bkT deposit] (rwDep [bkT deposit] (rwCan (bkA deposit a) 0 1) b 0) b 1).xs a).free = 1000 - deposit) from he3)]) ?_
 refine Ok { callee := (Callee.value (Operand.func 18)), args := #[], argTypes := #[] } 18 #[] (some 173) (known_spec _) ?_
 rintro _ w235 ⟨rfl, hk236⟩
 refine ⟨_, rfl, ?_⟩
 have hsz237 := Keep.size hk236
 replace hb10_20 := hb10_20.keep hk236 (fun f => f)
 replace hb22 := hb22.keep hk236 (fun f => f)
 replace hb219_224 := hb219_224.keep hk236 (fun f => f)
 replace hK0 := Keep.tr hK0 (Keep.ofNone hk236)
 replace ho150 := VotT.keep ho150 hk236 (fun _ _ f => f)
 replace ho197 := Rfr.keep ho197 hk236 (fun _ _ f => f)
 replace ho200 := Led.keep ho200 hk236 (fun _ _ f => f)
 refine Os 38 [(6, .bool true)] ?_
 refine Oe ?_
 refine V_ret ?_
 exact X_return (.bool true) rfl ⟨rfl, hK0⟩
end Go.Al

