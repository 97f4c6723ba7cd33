/-
  Put together out of 7 texts: Walks of the laws of refer: New. Walks of the laws of refer: the document's answers. Walks of the laws of refer: a beginning. Walks of the laws of refer: all referenda. Walks of the laws of refer: states; one that nobody backs. The laws of refer: each track by itself. Walks of the laws of refer: each track by itself.
-/
import Derived.Test.YtjjfimbihdoknaaGreatReferTracksB4
namespace Go.Al
open Go Go.RowKit Go.Proofs
set_option maxRecDepth 10000 in
theorem r4In_spec (n lo hi : Int) (w : World) : Calls Tryz.prog 168 #[.int .i64 n, .int .i64 lo, .int .i64 hi] w fun e w' => e = .returned (.bool (decide (lo ≤ n ∧ n ≤ hi))) ∧ w' = w := by
 refine enterV Tryz.func168 rfl [nt n, nt lo, nt hi] 15 rfl rfl rfl ?_
 refine V_pick [(0, nt n), (1, nt lo), (2, nt hi)] rfl ?_
 refine Vr ?_
 refine Os 1 [(0, nt n), (1, nt lo), (2, nt hi)] ?_
 refine Oer ?_
 refine Os 4 [(0, nt n), (2, nt hi), (10, .bool (decide (n ≥ lo)))] ?_
 by_cases hg1 : n ≥ lo
 ·
  refine OI_eq [(0, nt n), (2, nt hi), (10, .bool true)] (by first | simp [hg1] | rfl) ?_
  refine Os 9 [(6, .bool (decide (n ≤ hi)))] ?_
  refine Oe ?_
  refine V_ret ?_
  exact X_return (.bool (decide (n ≤ hi))) rfl ⟨by congr 2; simp only [Bool.decide_and]; by_cases h1 : lo ≤ n <;> simp [h1] <;> omega, rfl⟩
 refine OI_eq [(0, nt n), (2, nt hi), (10, .bool false)] (by first | simp [hg1] | rfl) ?_
 refine Os 9 [(6, .bool false)] ?_
 refine Oe ?_
 refine V_ret ?_
 exact X_return (.bool false) rfl ⟨by congr 2; simp only [Bool.decide_and]; by_cases h1 : lo ≤ n <;> simp [h1] <;> omega, rfl⟩

set_option maxRecDepth 10000 in
theorem r10In_spec (n lo hi : Int) (w : World) : Calls Tryz.prog 118 #[.int .i64 n, .int .i64 lo, .int .i64 hi] w fun e w' => e = .returned (.bool (decide (lo ≤ n ∧ n ≤ hi))) ∧ w' = w := by
 refine enterV Tryz.func118 rfl [nt n, nt lo, nt hi] 15 rfl rfl rfl ?_
 refine V_pick [(0, nt n), (1, nt lo), (2, nt hi)] rfl ?_
 refine Vr ?_
 refine Os 1 [(0, nt n), (1, nt lo), (2, nt hi)] ?_
 refine Oer ?_
 refine Os 4 [(0, nt n), (2, nt hi), (10, .bool (decide (n ≥ lo)))] ?_
 by_cases hg1 : n ≥ lo
 ·
  refine OI_eq [(0, nt n), (2, nt hi), (10, .bool true)] (by first | simp [hg1] | rfl) ?_
  refine Os 9 [(6, .bool (decide (n ≤ hi)))] ?_
  refine Oe ?_
  refine V_ret ?_
  exact X_return (.bool (decide (n ≤ hi))) rfl ⟨by congr 2; simp only [Bool.decide_and]; by_cases h1 : lo ≤ n <;> simp [h1] <;> omega, rfl⟩
 refine OI_eq [(0, nt n), (2, nt hi), (10, .bool false)] (by first | simp [hg1] | rfl) ?_
 refine Os 9 [(6, .bool false)] ?_
 refine Oe ?_
 refine V_ret ?_
 exact X_return (.bool false) rfl ⟨by congr 2; simp only [Bool.decide_and]; by_cases h1 : lo ≤ n <;> simp [h1] <;> omega, rfl⟩

set_option maxRecDepth 10000 in
theorem r4Is_spec (c : Crv) (w : World) : Calls Tryz.prog 119 #[.agg c.cells.toArray] w fun e w' => e = .returned (.bool (decide (okCrv c))) ∧ Keep none_ w w' := by
 have hK0 : Keep none_ w w := Keep.refl _ _
 have hzhK0 := Keep.size hK0
 refine enterV Tryz.func119 rfl [.agg (Crv.cells c).toArray] 69 rfl rfl rfl ?_
 refine V_pick [(0, .agg (Crv.cells c).toArray)] rfl ?_
 refine Vr ?_
 refine OI_box 25 (.tmp 0) (.agg (Crv.cells c).toArray) (Crv.cells c) (some 1) (by kernel_rfl) (by kernel_rfl) rfl ?_
 intro b1 w1 e1 hb1 k1 z1
 have hsz2 := Keep.size k1
 replace hK0 := Keep.tr hK0 (Keep.ofNone k1)
 have hb1lt := hb1.lt
 refine Os 2 [(1, pt b1)] ?_
 refine Oe ?_
 refine V_seq ?_
 refine Vr ?_
 refine Os 1 [(1, pt b1), (3, pt b1)] ?_
 refine Oc 3 (.tmp 3) 0 (nt c.k) (some 4) hb1 rfl ?_
 refine Oe ?_
 refine V_block ?_
 refine Vr ?_
 refine Os 2 [(1, pt b1), (4, nt c.k), (5, .bool (decide (c.k = 1)))] ?_
 refine Oe ?_
 refine V_if (c.k = 1) (by kernel_rfl) (fun hc3 => ?_) (fun hc3 => ?_)
 ·
  refine Vr ?_
  refine Os 1 [(1, pt b1), (7, .pointer (some ⟨b1, 1, none⟩))] ?_
  refine Oc 3 (.tmp 7) 1 (nt c.a) (some 8) hb1 rfl ?_
  refine Ok { callee := (Callee.value (Operand.func 168)), args := #[(Operand.tmp 8), (Operand.const (Value.int IntKind.i64 0)), (Operand.const (Value.int IntKind.i64 1000000000))], argTypes := #[3, 3, 3] } 168 #[nt c.a, nt 0, nt 1000000000] (some 9) (r4In_spec c.a 0 1000000000 _) ?_
  rintro _ w1 ⟨rfl, rfl⟩
  refine ⟨_, rfl, ?_⟩
  refine Os 4 [(1, pt b1), (10, .bool (decide ((0 : Int) ≤ c.a ∧ c.a ≤ 1000000000)))] ?_
  by_cases hg7 : (0 : Int) ≤ c.a ∧ c.a ≤ 1000000000
  ·
   refine OI_eq [(1, pt b1), (10, .bool true)] (by first | simp [hg7] | rfl) ?_
   refine Os 5 [(1, pt b1), (10, .bool true), (11, .pointer (some ⟨b1, 2, none⟩))] ?_
   refine Oc 3 (.tmp 11) 2 (nt c.b) (some 12) hb1 rfl ?_
   refine Os 7 [(1, pt b1), (10, .bool true), (12, nt c.b), (13, .pointer (some ⟨b1, 1, none⟩))] ?_
   refine Oc 3 (.tmp 13) 1 (nt c.a) (some 14) hb1 rfl ?_
   refine Ok { callee := (Callee.value (Operand.func 168)), args := #[(Operand.tmp 12), (Operand.const (Value.int IntKind.i64 0)), (Operand.tmp 14)], argTypes := #[3, 3, 3] } 168 #[nt c.b, nt 0, nt c.a] (some 15) (r4In_spec c.b 0 c.a _) ?_
   rintro _ w1 ⟨rfl, rfl⟩
   refine ⟨_, rfl, ?_⟩
   refine Os 11 [(1, pt b1), (17, .bool (decide ((0 : Int) ≤ c.b ∧ c.b ≤ c.a)))] ?_
   by_cases hg11 : (0 : Int) ≤ c.b ∧ c.b ≤ c.a
   ·
    refine OI_eq [(1, pt b1), (17, .bool true)] (by first | simp [hg11] | rfl) ?_
    refine Os 12 [(1, pt b1), (17, .bool true), (18, .pointer (some ⟨b1, 3, none⟩))] ?_
    refine Oc 3 (.tmp 18) 3 (nt c.c) (some 19) hb1 rfl ?_
    refine Ok { callee := (Callee.value (Operand.func 168)), args := #[(Operand.tmp 19), (Operand.const (Value.int IntKind.i64 1)), (Operand.const (Value.int IntKind.i64 1000000000))], argTypes := #[3, 3, 3] } 168 #[nt c.c, nt 1, nt 1000000000] (some 20) (r4In_spec c.c 1 1000000000 _) ?_
    rintro _ w1 ⟨rfl, rfl⟩
    refine ⟨_, rfl, ?_⟩
    refine Os 16 [(1, pt b1), (22, .bool (decide ((1 : Int) ≤ c.c ∧ c.c ≤ 1000000000)))] ?_
    by_cases hg15 : (1 : Int) ≤ c.c ∧ c.c ≤ 1000000000
    ·
     refine OI_eq [(1, pt b1), (22, .bool true)] (by first | simp [hg15] | rfl) ?_
     refine Os 17 [(22, .bool true), (23, .pointer (some ⟨b1, 4, none⟩))] ?_
     refine Oc 3 (.tmp 23) 4 (nt c.d) (some 24) hb1 rfl ?_
     refine Os 21 [(2, .bool (decide (c.d = 0)))] ?_
     refine Oe ?_
     refine V_ret ?_
     refine X_ret_block ?_
     refine X_ret_then ?_
     exact X_return (.bool (decide (c.d = 0))) rfl ⟨by congr 2; first | (apply Eq.symm; (try simp only [decide_eq_true_eq]); (try simp only [decide_eq_false_iff_not]); unfold okCrv fallsC; simp_all <;> omega) | (rw [decide_eq_decide]; unfold okCrv fallsC; simp_all <;> omega), hK0⟩
    refine OI_eq [(1, pt b1), (22, .bool false)] (by first | simp [hg15] | rfl) ?_
    refine Os 21 [(2, .bool false)] ?_
    refine Oe ?_
    refine V_ret ?_
    refine X_ret_block ?_
    refine X_ret_then ?_
    exact X_return (.bool false) rfl ⟨by congr 2; first | (apply Eq.symm; (try simp only [decide_eq_true_eq]); (try simp only [decide_eq_false_iff_not]); unfold okCrv fallsC; simp_all <;> omega) | (rw [decide_eq_decide]; unfold okCrv fallsC; simp_all <;> omega), hK0⟩
   refine OI_eq [(1, pt b1), (17, .bool false)] (by first | simp [hg11] | rfl) ?_
   refine Os 21 [(2, .bool false)] ?_
   refine Oe ?_
   refine V_ret ?_
   refine X_ret_block ?_
   refine X_ret_then ?_
   exact X_return (.bool false) rfl ⟨by congr 2; first | (apply Eq.symm; (try simp only [decide_eq_true_eq]); (try simp only [decide_eq_false_iff_not]); unfold okCrv fallsC; simp_all <;> omega) | (rw [decide_eq_decide]; unfold okCrv fallsC; simp_all <;> omega), hK0⟩
  refine OI_eq [(1, pt b1), (10, .bool false)] (by first | simp [hg7] | rfl) ?_
  refine Os 21 [(2, .bool false)] ?_
  refine Oe ?_
  refine V_ret ?_
  refine X_ret_block ?_
  refine X_ret_then ?_
  exact X_return (.bool false) rfl ⟨by congr 2; first | (apply Eq.symm; (try simp only [decide_eq_true_eq]); (try simp only [decide_eq_false_iff_not]); unfold okCrv fallsC; simp_all <;> omega) | (rw [decide_eq_decide]; unfold okCrv fallsC; simp_all <;> omega), hK0⟩
 refine Vr ?_
 refine Os 2 [(1, pt b1), (4, nt c.k), (27, .bool (decide (c.k = 2)))] ?_
 refine Oe ?_
 refine V_if (c.k = 2) (by kernel_rfl) (fun hc16 => ?_) (fun hc16 => ?_)
 ·
  refine Vr ?_
  refine Os 1 [(1, pt b1), (29, .pointer (some ⟨b1, 1, none⟩))] ?_
  refine Oc 3 (.tmp 29) 1 (nt c.a) (some 30) hb1 rfl ?_
  refine Ok { callee := (Callee.value (Operand.func 168)), args := #[(Operand.tmp 30), (Operand.const (Value.int IntKind.i64 0)), (Operand.const (Value.int IntKind.i64 1000000000))], argTypes := #[3, 3, 3] } 168 #[nt c.a, nt 0, nt 1000000000] (some 31) (r4In_spec c.a 0 1000000000 _) ?_
  rintro _ w1 ⟨rfl, rfl⟩
  refine ⟨_, rfl, ?_⟩
  refine Os 4 [(1, pt b1), (32, .bool (decide ((0 : Int) ≤ c.a ∧ c.a ≤ 1000000000)))] ?_
  by_cases hg20 : (0 : Int) ≤ c.a ∧ c.a ≤ 1000000000
  ·
   refine OI_eq [(1, pt b1), (32, .bool true)] (by first | simp [hg20] | rfl) ?_
   refine Os 5 [(1, pt b1), (32, .bool true), (33, .pointer (some ⟨b1, 2, none⟩))] ?_
   refine Oc 3 (.tmp 33) 2 (nt c.b) (some 34) hb1 rfl ?_
   refine Os 7 [(1, pt b1), (32, .bool true), (34, nt c.b), (35, .pointer (some ⟨b1, 1, none⟩))] ?_
   refine Oc 3 (.tmp 35) 1 (nt c.a) (some 36) hb1 rfl ?_
   refine Ok { callee := (Callee.value (Operand.func 168)), args := #[(Operand.tmp 34), (Operand.const (Value.int IntKind.i64 0)), (Operand.tmp 36)], argTypes := #[3, 3, 3] } 168 #[nt c.b, nt 0, nt c.a] (some 37) (r4In_spec c.b 0 c.a _) ?_
   rintro _ w1 ⟨rfl, rfl⟩
   refine ⟨_, rfl, ?_⟩
   refine Os 11 [(1, pt b1), (39, .bool (decide ((0 : Int) ≤ c.b ∧ c.b ≤ c.a)))] ?_
   by_cases hg24 : (0 : Int) ≤ c.b ∧ c.b ≤ c.a
   ·
    refine OI_eq [(1, pt b1), (39, .bool true)] (by first | simp [hg24] | rfl) ?_
    refine Os 12 [(1, pt b1), (39, .bool true), (40, .pointer (some ⟨b1, 3, none⟩))] ?_
    refine Oc 3 (.tmp 40) 3 (nt c.c) (some 41) hb1 rfl ?_
    refine Ok { callee := (Callee.value (Operand.func 168)), args := #[(Operand.tmp 41), (Operand.const (Value.int IntKind.i64 1)), (Operand.const (Value.int IntKind.i64 1000000000))], argTypes := #[3, 3, 3] } 168 #[nt c.c, nt 1, nt 1000000000] (some 42) (r4In_spec c.c 1 1000000000 _) ?_
    rintro _ w1 ⟨rfl, rfl⟩
    refine ⟨_, rfl, ?_⟩
    refine Os 16 [(1, pt b1), (44, .bool (decide ((1 : Int) ≤ c.c ∧ c.c ≤ 1000000000)))] ?_
    by_cases hg28 : (1 : Int) ≤ c.c ∧ c.c ≤ 1000000000
    ·
     refine OI_eq [(1, pt b1), (44, .bool true)] (by first | simp [hg28] | rfl) ?_
     refine Os 17 [(44, .bool true), (45, .pointer (some ⟨b1, 4, none⟩))] ?_
     refine Oc 3 (.tmp 45) 4 (nt c.d) (some 46) hb1 rfl ?_
     refine Ok { callee := (Callee.value (Operand.func 168)), args := #[(Operand.tmp 46), (Operand.const (Value.int IntKind.i64 1)), (Operand.const (Value.int IntKind.i64 1000000000))], argTypes := #[3, 3, 3] } 168 #[nt c.d, nt 1, nt 1000000000] (some 47) (r4In_spec c.d 1 1000000000 _) ?_
     rintro _ w1 ⟨rfl, rfl⟩
     refine ⟨_, rfl, ?_⟩
     refine Os 21 [(2, .bool (decide ((1 : Int) ≤ c.d ∧ c.d ≤ 1000000000)))] ?_
     refine Oe ?_
     refine V_ret ?_
     refine X_ret_block ?_
     refine X_ret_then ?_
     exact X_return (.bool (decide ((1 : Int) ≤ c.d ∧ c.d ≤ 1000000000))) rfl ⟨by congr 2; first | (apply Eq.symm; (try simp only [decide_eq_true_eq]); (try simp only [decide_eq_false_iff_not]); unfold okCrv fallsC; simp_all <;> omega) | (rw [decide_eq_decide]; unfold okCrv fallsC; simp_all <;> omega), hK0⟩
    refine OI_eq [(1, pt b1), (44, .bool false)] (by first | simp [hg28] | rfl) ?_
    refine Os 21 [(2, .bool false)] ?_
    refine Oe ?_
    refine V_ret ?_
    refine X_ret_block ?_
    refine X_ret_then ?_
    exact X_return (.bool false) rfl ⟨by congr 2; first | (apply Eq.symm; (try simp only [decide_eq_true_eq]); (try simp only [decide_eq_false_iff_not]); unfold okCrv fallsC; simp_all <;> omega) | (rw [decide_eq_decide]; unfold okCrv fallsC; simp_all <;> omega), hK0⟩
   refine OI_eq [(1, pt b1), (39, .bool false)] (by first | simp [hg24] | rfl) ?_
   refine Os 21 [(2, .bool false)] ?_
   refine Oe ?_
   refine V_ret ?_
   refine X_ret_block ?_
   refine X_ret_then ?_
   exact X_return (.bool false) rfl ⟨by congr 2; first | (apply Eq.symm; (try simp only [decide_eq_true_eq]); (try simp only [decide_eq_false_iff_not]); unfold okCrv fallsC; simp_all <;> omega) | (rw [decide_eq_decide]; unfold okCrv fallsC; simp_all <;> omega), hK0⟩
  refine OI_eq [(1, pt b1), (32, .bool false)] (by first | simp [hg20] | rfl) ?_
  refine Os 21 [(2, .bool false)] ?_
  refine Oe ?_
  refine V_ret ?_
  refine X_ret_block ?_
  refine X_ret_then ?_
  exact X_return (.bool false) rfl ⟨by congr 2; first | (apply Eq.symm; (try simp only [decide_eq_true_eq]); (try simp only [decide_eq_false_iff_not]); unfold okCrv fallsC; simp_all <;> omega) | (rw [decide_eq_decide]; unfold okCrv fallsC; simp_all <;> omega), hK0⟩
 refine Vr ?_
 refine Os 2 [(1, pt b1), (49, .bool (decide (c.k = 3)))] ?_
 refine Oe ?_
 refine V_if (c.k = 3) (by kernel_rfl) (fun hc32 => ?_) (fun hc32 => ?_)
 ·
  refine Vr ?_
  refine Os 1 [(1, pt b1), (51, .pointer (some ⟨b1, 1, none⟩))] ?_
  refine Oc 3 (.tmp 51) 1 (nt c.a) (some 52) hb1 rfl ?_
  refine Ok { callee := (Callee.value (Operand.func 168)), args := #[(Operand.tmp 52), (Operand.const (Value.int IntKind.i64 0)), (Operand.const (Value.int IntKind.i64 1000000000))], argTypes := #[3, 3, 3] } 168 #[nt c.a, nt 0, nt 1000000000] (some 53) (r4In_spec c.a 0 1000000000 _) ?_
  rintro _ w1 ⟨rfl, rfl⟩
  refine ⟨_, rfl, ?_⟩
  refine Os 4 [(1, pt b1), (54, .bool (decide ((0 : Int) ≤ c.a ∧ c.a ≤ 1000000000)))] ?_
  by_cases hg36 : (0 : Int) ≤ c.a ∧ c.a ≤ 1000000000
  ·
   refine OI_eq [(1, pt b1), (54, .bool true)] (by first | simp [hg36] | rfl) ?_
   refine Os 5 [(1, pt b1), (54, .bool true), (55, .pointer (some ⟨b1, 2, none⟩))] ?_
   refine Oc 3 (.tmp 55) 2 (nt c.b) (some 56) hb1 rfl ?_
   refine Ok { callee := (Callee.value (Operand.func 168)), args := #[(Operand.tmp 56), (Operand.const (Value.int IntKind.i64 1)), (Operand.const (Value.int IntKind.i64 1000000000))], argTypes := #[3, 3, 3] } 168 #[nt c.b, nt 1, nt 1000000000] (some 57) (r4In_spec c.b 1 1000000000 _) ?_
   rintro _ w1 ⟨rfl, rfl⟩
   refine ⟨_, rfl, ?_⟩
   refine Os 9 [(1, pt b1), (59, .bool (decide ((1 : Int) ≤ c.b ∧ c.b ≤ 1000000000)))] ?_
   by_cases hg40 : (1 : Int) ≤ c.b ∧ c.b ≤ 1000000000
   ·
    refine OI_eq [(1, pt b1), (59, .bool true)] (by first | simp [hg40] | rfl) ?_
    refine Os 10 [(1, pt b1), (59, .bool true), (60, .pointer (some ⟨b1, 3, none⟩))] ?_
    refine Oc 3 (.tmp 60) 3 (nt c.c) (some 61) hb1 rfl ?_
    refine Ok { callee := (Callee.value (Operand.func 168)), args := #[(Operand.tmp 61), (Operand.const (Value.int IntKind.i64 0)), (Operand.const (Value.int IntKind.i64 1000000000))], argTypes := #[3, 3, 3] } 168 #[nt c.c, nt 0, nt 1000000000] (some 62) (r4In_spec c.c 0 1000000000 _) ?_
    rintro _ w1 ⟨rfl, rfl⟩
    refine ⟨_, rfl, ?_⟩
    refine Os 14 [(1, pt b1), (64, .bool (decide ((0 : Int) ≤ c.c ∧ c.c ≤ 1000000000)))] ?_
    by_cases hg44 : (0 : Int) ≤ c.c ∧ c.c ≤ 1000000000
    ·
     refine OI_eq [(1, pt b1), (64, .bool true)] (by first | simp [hg44] | rfl) ?_
     refine Os 15 [(64, .bool true), (65, .pointer (some ⟨b1, 4, none⟩))] ?_
     refine Oc 3 (.tmp 65) 4 (nt c.d) (some 66) hb1 rfl ?_
     refine Os 19 [(2, .bool (decide (c.d = 0)))] ?_
     refine Oe ?_
     refine V_ret ?_
     refine X_ret_block ?_
     refine X_ret_then ?_
     exact X_return (.bool (decide (c.d = 0))) rfl ⟨by congr 2; first | (apply Eq.symm; (try simp only [decide_eq_true_eq]); (try simp only [decide_eq_false_iff_not]); unfold okCrv fallsC; simp_all <;> omega) | (rw [decide_eq_decide]; unfold okCrv fallsC; simp_all <;> omega), hK0⟩
    refine OI_eq [(1, pt b1), (64, .bool false)] (by first | simp [hg44] | rfl) ?_
    refine Os 19 [(2, .bool false)] ?_
    refine Oe ?_
    refine V_ret ?_
    refine X_ret_block ?_
    refine X_ret_then ?_
    exact X_return (.bool false) rfl ⟨by congr 2; first | (apply Eq.symm; (try simp only [decide_eq_true_eq]); (try simp only [decide_eq_false_iff_not]); unfold okCrv fallsC; simp_all <;> omega) | (rw [decide_eq_decide]; unfold okCrv fallsC; simp_all <;> omega), hK0⟩
   refine OI_eq [(1, pt b1), (59, .bool false)] (by first | simp [hg40] | rfl) ?_
   refine Os 19 [(2, .bool false)] ?_
   refine Oe ?_
   refine V_ret ?_
   refine X_ret_block ?_
   refine X_ret_then ?_
   exact X_return (.bool false) rfl ⟨by congr 2; first | (apply Eq.symm; (try simp only [decide_eq_true_eq]); (try simp only [decide_eq_false_iff_not]); unfold okCrv fallsC; simp_all <;> omega) | (rw [decide_eq_decide]; unfold okCrv fallsC; simp_all <;> omega), hK0⟩
  refine OI_eq [(1, pt b1), (54, .bool false)] (by first | simp [hg36] | rfl) ?_
  refine Os 19 [(2, .bool false)] ?_
  refine Oe ?_
  refine V_ret ?_
  refine X_ret_block ?_
  refine X_ret_then ?_
  exact X_return (.bool false) rfl ⟨by congr 2; first | (apply Eq.symm; (try simp only [decide_eq_true_eq]); (try simp only [decide_eq_false_iff_not]); unfold okCrv fallsC; simp_all <;> omega) | (rw [decide_eq_decide]; unfold okCrv fallsC; simp_all <;> omega), hK0⟩
 refine V_skip ?_
 refine X_block ?_
 refine X_then ?_
 refine Vr ?_
 refine Os 1 [(2, .bool false)] ?_
 refine Oe ?_
 refine V_ret ?_
 exact X_return (.bool false) rfl ⟨by congr 2; first | (apply Eq.symm; (try simp only [decide_eq_true_eq]); (try simp only [decide_eq_false_iff_not]); unfold okCrv fallsC; simp_all <;> omega) | (rw [decide_eq_decide]; unfold okCrv fallsC; simp_all <;> omega), hK0⟩

set_option maxRecDepth 10000 in
theorem r10Is_spec (x : Trk) (w : World) : Calls Tryz.prog 78 #[.agg x.cells.toArray] w fun e w' => e = .returned (.bool (decide (okTrk x))) ∧ Keep none_ w w' := by
 have hK0 : Keep none_ w w := Keep.refl _ _
 have hzhK0 := Keep.size hK0
 refine enterV Tryz.func78 rfl [.agg (Trk.cells x).toArray] 51 rfl rfl rfl ?_
 refine V_pick [(0, .agg (Trk.cells x).toArray)] rfl ?_
 refine Vr ?_
 refine OI_box 27 (.tmp 0) (.agg (Trk.cells x).toArray) (Trk.cells x) (some 1) (by kernel_rfl) (by kernel_rfl) rfl ?_
 intro b1 w1 e1 hb1 k1 z1
 have hsz2 := Keep.size k1
 replace hK0 := Keep.tr hK0 (Keep.ofNone k1)
 have hb1lt := hb1.lt
 refine Os 2 [(1, pt b1)] ?_
 refine Oer ?_
 refine Os 1 [(1, pt b1), (3, pt b1)] ?_
 refine Oc 3 (.tmp 3) 0 (nt x.most) (some 4) hb1 rfl ?_
 refine Ok { callee := (Callee.value (Operand.func 118)), args := #[(Operand.tmp 4), (Operand.const (Value.int IntKind.i64 1)), (Operand.const (Value.int IntKind.i64 12))], argTypes := #[3, 3, 3] } 118 #[nt x.most, nt 1, nt 12] (some 5) (r10In_spec x.most 1 12 _) ?_
 rintro _ w1 ⟨rfl, rfl⟩
 refine ⟨_, rfl, ?_⟩
 refine Os 4 [(1, pt b1), (6, .bool (decide ((1 : Int) ≤ x.most ∧ x.most ≤ 12)))] ?_
 by_cases hg6 : (1 : Int) ≤ x.most ∧ x.most ≤ 12
 ·
  refine OI_eq [(1, pt b1), (6, .bool true)] (by first | simp [hg6] | rfl) ?_
  refine Os 5 [(1, pt b1), (6, .bool true), (7, .pointer (some ⟨b1, 1, none⟩))] ?_
  refine Oc 3 (.tmp 7) 1 (nt x.deposit) (some 8) hb1 rfl ?_
  refine Ok { callee := (Callee.value (Operand.func 118)), args := #[(Operand.tmp 8), (Operand.const (Value.int IntKind.i64 0)), (Operand.const (Value.int IntKind.i64 1073741824))], argTypes := #[3, 3, 3] } 118 #[nt x.deposit, nt 0, nt 1073741824] (some 9) (r10In_spec x.deposit 0 1073741824 _) ?_
  rintro _ w1 ⟨rfl, rfl⟩
  refine ⟨_, rfl, ?_⟩
  refine Os 9 [(1, pt b1), (11, .bool (decide ((0 : Int) ≤ x.deposit ∧ x.deposit ≤ 1073741824)))] ?_
  by_cases hg10 : (0 : Int) ≤ x.deposit ∧ x.deposit ≤ 1073741824
  ·
   refine OI_eq [(1, pt b1), (11, .bool true)] (by first | simp [hg10] | rfl) ?_
   refine Os 10 [(1, pt b1), (11, .bool true), (12, .pointer (some ⟨b1, 16, none⟩))] ?_
   refine Oc 3 (.tmp 12) 16 (nt x.cap) (some 13) hb1 rfl ?_
   refine Ok { callee := (Callee.value (Operand.func 118)), args := #[(Operand.tmp 13), (Operand.const (Value.int IntKind.i64 0)), (Operand.const (Value.int IntKind.i64 1073741824))], argTypes := #[3, 3, 3] } 118 #[nt x.cap, nt 0, nt 1073741824] (some 14) (r10In_spec x.cap 0 1073741824 _) ?_
   rintro _ w1 ⟨rfl, rfl⟩
   refine ⟨_, rfl, ?_⟩
   refine Os 14 [(1, pt b1), (16, .bool (decide ((0 : Int) ≤ x.cap ∧ x.cap ≤ 1073741824)))] ?_
   by_cases hg14 : (0 : Int) ≤ x.cap ∧ x.cap ≤ 1073741824
   ·
    refine OI_eq [(1, pt b1), (16, .bool true)] (by first | simp [hg14] | rfl) ?_
    refine Os 15 [(1, pt b1), (16, .bool true), (17, .pointer (some ⟨b1, 2, none⟩))] ?_
    refine Oc 3 (.tmp 17) 2 (nt x.prepare) (some 18) hb1 rfl ?_
    refine Ok { callee := (Callee.value (Operand.func 118)), args := #[(Operand.tmp 18), (Operand.const (Value.int IntKind.i64 0)), (Operand.const (Value.int IntKind.i64 1000))], argTypes := #[3, 3, 3] } 118 #[nt x.prepare, nt 0, nt 1000] (some 19) (r10In_spec x.prepare 0 1000 _) ?_
    rintro _ w1 ⟨rfl, rfl⟩
    refine ⟨_, rfl, ?_⟩
    refine Os 19 [(1, pt b1), (21, .bool (decide ((0 : Int) ≤ x.prepare ∧ x.prepare ≤ 1000)))] ?_
    by_cases hg18 : (0 : Int) ≤ x.prepare ∧ x.prepare ≤ 1000
    ·
     refine OI_eq [(1, pt b1), (21, .bool true)] (by first | simp [hg18] | rfl) ?_
     refine Os 20 [(1, pt b1), (21, .bool true), (22, .pointer (some ⟨b1, 4, none⟩))] ?_
     refine Oc 3 (.tmp 22) 4 (nt x.confirm) (some 23) hb1 rfl ?_
     refine Ok { callee := (Callee.value (Operand.func 118)), args := #[(Operand.tmp 23), (Operand.const (Value.int IntKind.i64 0)), (Operand.const (Value.int IntKind.i64 1000))], argTypes := #[3, 3, 3] } 118 #[nt x.confirm, nt 0, nt 1000] (some 24) (r10In_spec x.confirm 0 1000 _) ?_
     rintro _ w1 ⟨rfl, rfl⟩
     refine ⟨_, rfl, ?_⟩
     refine Os 24 [(1, pt b1), (26, .bool (decide ((0 : Int) ≤ x.confirm ∧ x.confirm ≤ 1000)))] ?_
     by_cases hg22 : (0 : Int) ≤ x.confirm ∧ x.confirm ≤ 1000
     ·
      refine OI_eq [(1, pt b1), (26, .bool true)] (by first | simp [hg22] | rfl) ?_
      refine Os 25 [(1, pt b1), (26, .bool true), (27, .pointer (some ⟨b1, 5, none⟩))] ?_
      refine Oc 3 (.tmp 27) 5 (nt x.enact) (some 28) hb1 rfl ?_
      refine Ok { callee := (Callee.value (Operand.func 118)), args := #[(Operand.tmp 28), (Operand.const (Value.int IntKind.i64 0)), (Operand.const (Value.int IntKind.i64 1000))], argTypes := #[3, 3, 3] } 118 #[nt x.enact, nt 0, nt 1000] (some 29) (r10In_spec x.enact 0 1000 _) ?_
      rintro _ w1 ⟨rfl, rfl⟩
      refine ⟨_, rfl, ?_⟩
      refine Os 29 [(1, pt b1), (31, .bool (decide ((0 : Int) ≤ x.enact ∧ x.enact ≤ 1000)))] ?_
      by_cases hg26 : (0 : Int) ≤ x.enact ∧ x.enact ≤ 1000
      ·
       refine OI_eq [(1, pt b1), (31, .bool true)] (by first | simp [hg26] | rfl) ?_
       refine Os 30 [(1, pt b1), (31, .bool true), (32, .pointer (some ⟨b1, 3, none⟩))] ?_
       refine Oc 3 (.tmp 32) 3 (nt x.decision) (some 33) hb1 rfl ?_
       refine Ok { callee := (Callee.value (Operand.func 118)), args := #[(Operand.tmp 33), (Operand.const (Value.int IntKind.i64 1)), (Operand.const (Value.int IntKind.i64 1000))], argTypes := #[3, 3, 3] } 118 #[nt x.decision, nt 1, nt 1000] (some 34) (r10In_spec x.decision 1 1000 _) ?_
       rintro _ w1 ⟨rfl, rfl⟩
       refine ⟨_, rfl, ?_⟩
       refine Os 34 [(1, pt b1), (36, .bool (decide ((1 : Int) ≤ x.decision ∧ x.decision ≤ 1000)))] ?_
       by_cases hg30 : (1 : Int) ≤ x.decision ∧ x.decision ≤ 1000
       ·
        refine OI_eq [(1, pt b1), (36, .bool true)] (by first | simp [hg30] | rfl) ?_
        refine Os 35 [(1, pt b1), (36, .bool true), (37, .pointer (some ⟨b1, 6, none⟩))] ?_
        refine Oa 25 (.tmp 37) 6 (Crv.cells x.app) (some 38) 5 hb1 rfl rfl ?_
        refine Ok { callee := (Callee.value (Operand.func 119)), args := #[(Operand.tmp 38)], argTypes := #[25] } 119 #[.agg (Crv.cells x.app).toArray] (some 39) (r4Is_spec x.app _) ?_
        rintro _ w31 ⟨rfl, hk32⟩
        refine ⟨_, rfl, ?_⟩
        have hsz33 := Keep.size hk32
        replace hb1 := hb1.keep hk32 (fun f => f)
        replace hK0 := Keep.tr hK0 (Keep.ofNone hk32)
        refine Os 39 [(1, pt b1), (41, .bool (decide (okCrv x.app)))] ?_
        by_cases hg34 : okCrv x.app
        ·
         refine OI_eq [(1, pt b1), (41, .bool true)] (by first | simp [hg34] | rfl) ?_
         refine Os 40 [(1, pt b1), (41, .bool true), (42, .pointer (some ⟨b1, 11, none⟩))] ?_
         refine Oa 25 (.tmp 42) 11 (Crv.cells x.sup) (some 43) 5 hb1 rfl rfl ?_
         refine Ok { callee := (Callee.value (Operand.func 119)), args := #[(Operand.tmp 43)], argTypes := #[25] } 119 #[.agg (Crv.cells x.sup).toArray] (some 44) (r4Is_spec x.sup _) ?_
         rintro _ w35 ⟨rfl, hk36⟩
         refine ⟨_, rfl, ?_⟩
         have hsz37 := Keep.size hk36
         replace hb1 := hb1.keep hk36 (fun f => f)
         replace hK0 := Keep.tr hK0 (Keep.ofNone hk36)
         refine Os 44 [(1, pt b1), (46, .bool (decide (okCrv x.sup)))] ?_
         by_cases hg38 : okCrv x.sup
         ·
          refine OI_eq [(1, pt b1), (46, .bool true)] (by first | simp [hg38] | rfl) ?_
          refine Os 45 [(46, .bool true), (47, .pointer (some ⟨b1, 17, none⟩))] ?_
          refine Oc 3 (.tmp 47) 17 (nt x.rank) (some 48) hb1 rfl ?_
          refine Ok { callee := (Callee.value (Operand.func 118)), args := #[(Operand.tmp 48), (Operand.const (Value.int IntKind.i64 0)), (Operand.const (Value.int IntKind.i64 2))], argTypes := #[3, 3, 3] } 118 #[nt x.rank, nt 0, nt 2] (some 49) (r10In_spec x.rank 0 2 _) ?_
          rintro _ w35 ⟨rfl, rfl⟩
          refine ⟨_, rfl, ?_⟩
          refine Os 49 [(2, .bool (decide ((0 : Int) ≤ x.rank ∧ x.rank ≤ 2)))] ?_
          refine Oe ?_
          refine V_ret ?_
          exact X_return (.bool (decide ((0 : Int) ≤ x.rank ∧ x.rank ≤ 2))) rfl ⟨by congr 2; first | (apply Eq.symm; (try simp only [decide_eq_true_eq]); (try simp only [decide_eq_false_iff_not]); unfold okTrk; simp_all <;> omega) | (rw [decide_eq_decide]; unfold okTrk; simp_all <;> omega), hK0⟩
         refine OI_eq [(1, pt b1), (46, .bool false)] (by first | simp [hg38] | rfl) ?_
         refine Os 49 [(2, .bool false)] ?_
         refine Oe ?_
         refine V_ret ?_
         exact X_return (.bool false) rfl ⟨by congr 2; first | (apply Eq.symm; (try simp only [decide_eq_true_eq]); (try simp only [decide_eq_false_iff_not]); unfold okTrk; simp_all <;> omega) | (rw [decide_eq_decide]; unfold okTrk; simp_all <;> omega), hK0⟩
        refine OI_eq [(1, pt b1), (41, .bool false)] (by first | simp [hg34] | rfl) ?_
        refine Os 49 [(2, .bool false)] ?_
        refine Oe ?_
        refine V_ret ?_
        exact X_return (.bool false) rfl ⟨by congr 2; first | (apply Eq.symm; (try simp only [decide_eq_true_eq]); (try simp only [decide_eq_false_iff_not]); unfold okTrk; simp_all <;> omega) | (rw [decide_eq_decide]; unfold okTrk; simp_all <;> omega), hK0⟩
       refine OI_eq [(1, pt b1), (36, .bool false)] (by first | simp [hg30] | rfl) ?_
       refine Os 49 [(2, .bool false)] ?_
       refine Oe ?_
       refine V_ret ?_
       exact X_return (.bool false) rfl ⟨by congr 2; first | (apply Eq.symm; (try simp only [decide_eq_true_eq]); (try simp only [decide_eq_false_iff_not]); unfold okTrk; simp_all <;> omega) | (rw [decide_eq_decide]; unfold okTrk; simp_all <;> omega), hK0⟩
      refine OI_eq [(1, pt b1), (31, .bool false)] (by first | simp [hg26] | rfl) ?_
      refine Os 49 [(2, .bool false)] ?_
      refine Oe ?_
      refine V_ret ?_
      exact X_return (.bool false) rfl ⟨by congr 2; first | (apply Eq.symm; (try simp only [decide_eq_true_eq]); (try simp only [decide_eq_false_iff_not]); unfold okTrk; simp_all <;> omega) | (rw [decide_eq_decide]; unfold okTrk; simp_all <;> omega), hK0⟩
     refine OI_eq [(1, pt b1), (26, .bool false)] (by first | simp [hg22] | rfl) ?_
     refine Os 49 [(2, .bool false)] ?_
     refine Oe ?_
     refine V_ret ?_
     exact X_return (.bool false) rfl ⟨by congr 2; first | (apply Eq.symm; (try simp only [decide_eq_true_eq]); (try simp only [decide_eq_false_iff_not]); unfold okTrk; simp_all <;> omega) | (rw [decide_eq_decide]; unfold okTrk; simp_all <;> omega), hK0⟩
    refine OI_eq [(1, pt b1), (21, .bool false)] (by first | simp [hg18] | rfl) ?_
    refine Os 49 [(2, .bool false)] ?_
    refine Oe ?_
    refine V_ret ?_
    exact X_return (.bool false) rfl ⟨by congr 2; first | (apply Eq.symm; (try simp only [decide_eq_true_eq]); (try simp only [decide_eq_false_iff_not]); unfold okTrk; simp_all <;> omega) | (rw [decide_eq_decide]; unfold okTrk; simp_all <;> omega), hK0⟩
   refine OI_eq [(1, pt b1), (16, .bool false)] (by first | simp [hg14] | rfl) ?_
   refine Os 49 [(2, .bool false)] ?_
   refine Oe ?_
   refine V_ret ?_
   exact X_return (.bool false) rfl ⟨by congr 2; first | (apply Eq.symm; (try simp only [decide_eq_true_eq]); (try simp only [decide_eq_false_iff_not]); unfold okTrk; simp_all <;> omega) | (rw [decide_eq_decide]; unfold okTrk; simp_all <;> omega), hK0⟩
  refine OI_eq [(1, pt b1), (11, .bool false)] (by first | simp [hg10] | rfl) ?_
  refine Os 49 [(2, .bool false)] ?_
  refine Oe ?_
  refine V_ret ?_
  exact X_return (.bool false) rfl ⟨by congr 2; first | (apply Eq.symm; (try simp only [decide_eq_true_eq]); (try simp only [decide_eq_false_iff_not]); unfold okTrk; simp_all <;> omega) | (rw [decide_eq_decide]; unfold okTrk; simp_all <;> omega), hK0⟩
 refine OI_eq [(1, pt b1), (6, .bool false)] (by first | simp [hg6] | rfl) ?_
 refine Os 49 [(2, .bool false)] ?_
 refine Oe ?_
 refine V_ret ?_
 exact X_return (.bool false) rfl ⟨by congr 2; first | (apply Eq.symm; (try simp only [decide_eq_true_eq]); (try simp only [decide_eq_false_iff_not]); unfold okTrk; simp_all <;> omega) | (rw [decide_eq_decide]; unfold okTrk; simp_all <;> omega), hK0⟩

def okTs (ts : List Trk) : Prop := 1 ≤ ts.length ∧ ts.length ≤ 4 ∧ ∀ t ∈ ts, okTrk t
instance (ts : List Trk) : Decidable (okTs ts) := by unfold okTs; infer_instance

set_option maxRecDepth 10000 in
theorem rbad_spec (x : Trk) (w : World) : Calls Tryz.prog 79 #[.agg x.cells.toArray] w fun e w' => e = .returned (.bool (!decide (okTrk x))) ∧ Keep none_ w w' := by
 have hK0 : Keep none_ w w := Keep.refl _ _
 have hzhK0 := Keep.size hK0
 refine enterV Tryz.func79 rfl [.agg (Trk.cells x).toArray] 6 rfl rfl rfl ?_
 refine V_pick [(0, .agg (Trk.cells x).toArray)] rfl ?_
 refine Vr ?_
 refine OI_box 27 (.tmp 0) (.agg (Trk.cells x).toArray) (Trk.cells x) (some 1) (by kernel_rfl) (by kernel_rfl) rfl ?_
 intro b1 w1 e1 hb1 k1 z1
 have hsz2 := Keep.size k1
 replace hK0 := Keep.tr hK0 (Keep.ofNone k1)
 have hb1lt := hb1.lt
 refine Os 2 [(1, pt b1)] ?_
 refine Oer ?_
 refine Oa 27 (.tmp 1) 0 (Trk.cells x) (some 3) 18 hb1 (take_all (Trk.len _)) (Trk.len _) ?_
 refine Ok { callee := (Callee.value (Operand.func 80)), args := #[(Operand.tmp 3)], argTypes := #[27] } 80 #[.agg (Trk.cells x).toArray] (some 4) (trkIs_spec x _) ?_
 rintro _ w3 ⟨rfl, hk4⟩
 refine ⟨_, rfl, ?_⟩
 have hsz5 := Keep.size hk4
 replace hb1 := hb1.keep hk4 (fun f => f)
 replace hK0 := Keep.tr hK0 (Keep.ofNone hk4)
 refine Os 4 [(2, .bool (!(decide (okTrk x))))] ?_
 refine Oe ?_
 refine V_ret ?_
 exact X_return (.bool (!(decide (okTrk x)))) rfl ⟨rfl, hK0⟩

set_option maxRecDepth 10000 in
theorem ixf_spec (A : Option Addr) (cap : Nat) (ts : List Trk) (w : World) (hA : SlT w 18 Trk.cells A cap ts) (hok : ∀ t ∈ ts, okTrk t) (hn4 : ts.length ≤ 4) : Calls Tryz.prog 122 #[.slice A ts.length cap, .func (.func 79) #[] #[]] w fun e w' => e = .returned (.int .i64 (-1)) ∧ Keep none_ w w' := by
 have hAlt := SlT.lt hA
 have hK0 : Keep none_ w w := Keep.refl _ _
 have hzhK0 := Keep.size hK0
 refine enterV Tryz.func122 rfl [.slice A ts.length cap, .func (.func 79) #[] #[]] 19 rfl rfl rfl ?_
 refine V_pick [(0, .slice A ts.length cap), (1, .func (.func 79) #[] #[])] rfl ?_
 refine Vr ?_
 refine Os 1 [(0, .slice A ts.length cap), (1, .func (.func 79) #[] #[])] ?_
 refine Oe ?_
 refine V_seq ?_
 refine Vr ?_
 refine Os 3 [(0, .slice A ts.length cap), (1, .func (.func 79) #[] #[]), (7, nt ((ts.length : Nat) : Int)), (8, nt 0)] ?_
 refine Oe ?_
 refine V_block ?_
 refine V_pick [(0, .slice A ts.length cap), (1, .func (.func 79) #[] #[]), (7, nt ((ts.length : Nat) : Int)), (8, nt 0)] rfl ?_
 refine V_loop (fun k wI e => ∃ i : Nat, (k + i = ts.length) ∧ Keep none_ w wI ∧ e = [(0, .slice A ts.length cap), (1, .func (.func 79) #[] #[]), (7, nt ((ts.length : Nat) : Int)), (8, nt ((i : Nat) : Int))]) ts.length ⟨0, rfl, Keep.refl _ _, rfl⟩ ?_
 rintro k2 w1 _ ⟨i, hki, hk3, rfl⟩
 have hsz4 := Keep.size hk3
 replace hA := SlT.keep0 hA hk3
 replace hK0 := Keep.tr hK0 (Keep.ofNone hk3)
 have hzhk3 := Keep.size hk3
 refine Vr ?_
 refine Os 1 [(0, .slice A ts.length cap), (1, .func (.func 79) #[] #[]), (7, nt ((ts.length : Nat) : Int)), (8, nt ((i : Nat) : Int)), (9, .bool (decide (((i : Nat) : Int) < ((ts.length : Nat) : Int))))] ?_
 refine Oe ?_
 refine V_seq ?_
 refine V_if (((i : Nat) : Int) < ((ts.length : Nat) : Int)) (by kernel_rfl) (fun hc5 => ?_) (fun hc5 => ?_)
 ·
  refine V_skip ?_
  refine X_then ?_
  refine V_seq ?_
  refine V_block ?_
  refine Vr ?_
  refine Os 2 [(0, .slice A ts.length cap), (1, .func (.func 79) #[] #[]), (5, nt ((i : Nat) : Int)), (7, nt ((ts.length : Nat) : Int)), (8, nt ((i : Nat) : Int))] ?_
  refine Oer ?_
  refine Os 3 [(0, .slice A ts.length cap), (1, .func (.func 79) #[] #[]), (5, nt ((i : Nat) : Int)), (7, nt ((ts.length : Nat) : Int)), (8, nt ((i : Nat) : Int)), (11, .func (.func 79) #[] #[]), (12, .slice A ts.length cap), (13, nt ((i : Nat) : Int))] ?_
  obtain ⟨b6, o6, L6, T6, rfl, hat6⟩ := SlT.open_ hA (by first | omega | (simp only [List.length_map]; omega) | (simp; done) | (simp; omega))
  have hb6lt := hat6.blk.lt
  have hob7 := hAlt b6 ⟨_, rfl, rfl⟩
  refine OI_pure (some 14) (.indexAddr 29 (.tmp 12) (.tmp 13)) (by kernel_rfl) (pure_idxN (b := b6) (o := o6) (len := ts.length) (cap := cap) (kd := .i64) (j := i) (E := 27) (sz := 18) (by_ := 144) (by kernel_rfl) (by kernel_rfl) (by kernel_rfl) (by omega)) ?_
  obtain ⟨x8, hx9⟩ : ∃ x, ts[i]? = some x := ⟨_, List.getElem?_eq_getElem (by first | omega | (simp only [List.length_map]; omega))⟩
  have hokx : okTrk x8 := hok x8 (List.mem_of_getElem? hx9)
  refine Oa 27 (.tmp 14) (o6 + i * 18) (Trk.cells x8) (some 15) 18 hat6.blk (At.elem' hat6 (es_at hx9)) (At.len hat6 (es_at hx9)) ?_
  refine Ok { callee := (Callee.value (Operand.tmp 11)), args := #[(Operand.tmp 15)], argTypes := #[27] } 79 #[.agg (Trk.cells x8).toArray] (some 16) (rbad_spec x8 _) ?_
  rintro _ w10 ⟨rfl, hk11⟩
  refine ⟨_, rfl, ?_⟩
  have hsz12 := Keep.size hk11
  replace hat6 := hat6.keep hk11 (fun f => f)
  replace hK0 := Keep.tr hK0 (Keep.ofNone hk11)
  replace hk3 := Keep.tr hk3 (Keep.ofNone hk11)
  refine Oe ?_
  refine V_pick [(0, .slice (some ⟨b6, o6, none⟩) ts.length cap), (1, .func (.func 79) #[] #[]), (5, nt ((i : Nat) : Int)), (7, nt ((ts.length : Nat) : Int)), (8, nt ((i : Nat) : Int)), (16, .bool (!(decide (okTrk x8))))] rfl ?_
  refine V_eq [(0, .slice (some ⟨b6, o6, none⟩) ts.length cap), (1, .func (.func 79) #[] #[]), (5, nt ((i : Nat) : Int)), (7, nt ((ts.length : Nat) : Int)), (8, nt ((i : Nat) : Int)), (16, .bool false)] (by rw [decide_eq_true hokx]; rfl) ?_
  refine V_false rfl ?_
  refine V_skip ?_
  refine X_block ?_
  refine X_then ?_
  refine V_region ?_
  have hw14 : IntKind.i64.wrap (((i : Nat) : Int) + 1) = ((i + 1 : Nat) : Int) := (wrap64_id (by omega) (by omega)).trans (by omega)
  refine Os 1 [(0, .slice (some ⟨b6, o6, none⟩) ts.length cap), (1, .func (.func 79) #[] #[]), (7, nt ((ts.length : Nat) : Int)), (18, nt (IntKind.i64.wrap (((i : Nat) : Int) + 1)))] ?_
  refine OI_eq [(0, .slice (some ⟨b6, o6, none⟩) ts.length cap), (1, .func (.func 79) #[] #[]), (7, nt ((ts.length : Nat) : Int)), (18, nt ((i + 1 : Nat) : Int))] (by rw [hw14]) ?_
  refine Os 2 [(0, .slice (some ⟨b6, o6, none⟩) ts.length cap), (1, .func (.func 79) #[] #[]), (7, nt ((ts.length : Nat) : Int)), (8, nt ((i + 1 : Nat) : Int))] ?_
  refine OI_end rfl ?_
  exact V_again (k2 - 1) (by omega) [(0, .slice (some ⟨b6, o6, none⟩) ts.length cap), (1, .func (.func 79) #[] #[]), (7, nt ((ts.length : Nat) : Int)), (8, nt ((i + 1 : Nat) : Int))] rfl ⟨i + 1, by omega, hk3, rfl⟩
 refine V_exit ?_
 refine X_exit_then ?_
 refine X_exit_then ?_
 refine X_exit_here ?_
 refine X_then ?_
 refine Vr ?_
 refine Os 1 [(4, nt (-1))] ?_
 refine Oe ?_
 refine V_ret ?_
 exact X_return (nt (-1)) rfl ⟨rfl, hK0⟩

set_option maxRecDepth 10000 in
theorem ctf_spec (A : Option Addr) (cap : Nat) (ts : List Trk) (w : World) (hA : SlT w 18 Trk.cells A cap ts) (hok : ∀ t ∈ ts, okTrk t) (hn4 : ts.length ≤ 4) : Calls Tryz.prog 81 #[.slice A ts.length cap, .func (.func 79) #[] #[]] w fun e w' => e = .returned (.bool false) ∧ Keep none_ w w' := by
 have hAlt := SlT.lt hA
 have hK0 : Keep none_ w w := Keep.refl _ _
 have hzhK0 := Keep.size hK0
 refine enterV Tryz.func81 rfl [.slice A ts.length cap, .func (.func 79) #[] #[]] 9 rfl rfl rfl ?_
 refine V_pick [(0, .slice A ts.length cap), (1, .func (.func 79) #[] #[])] rfl ?_
 refine Vr ?_
 refine Os 1 [(0, .slice A ts.length cap), (1, .func (.func 79) #[] #[])] ?_
 refine Oer ?_
 refine Os 2 [(5, .slice A ts.length cap), (6, .func (.func 79) #[] #[])] ?_
 refine Ok { callee := (Callee.value (Operand.func 122)), args := #[(Operand.tmp 5), (Operand.tmp 6)], argTypes := #[29, 150] } 122 #[.slice A ts.length cap, .func (.func 79) #[] #[]] (some 7) (ixf_spec A cap ts _ hA hok hn4) ?_
 rintro _ w1 ⟨rfl, hk2⟩
 refine ⟨_, rfl, ?_⟩
 have hsz3 := Keep.size hk2
 replace hA := SlT.keep0 hA hk2
 replace hK0 := Keep.tr hK0 (Keep.ofNone hk2)
 refine Os 5 [(4, .bool false)] ?_
 refine Oe ?_
 refine V_ret ?_
 exact X_return (.bool false) rfl ⟨rfl, hK0⟩

set_option maxRecDepth 10000 in
theorem tclone_nil (w : World) : Calls Tryz.prog 82 #[.slice none 0 0] w fun e w' => e = .returned (.slice none 0 0) ∧ w' = w := by
 refine enterV Tryz.func82 rfl [.slice none 0 0] 8 rfl rfl rfl ?_
 refine V_pick [(0, .slice none 0 0)] rfl ?_
 refine Vr ?_
 refine Os 1 [(0, .slice none 0 0)] ?_
 refine Oe ?_
 refine V_seq ?_
 refine Vr ?_
 refine Os 2 [(0, .slice none 0 0), (4, .bool true)] ?_
 refine Oe ?_
 refine V_true rfl ?_
 refine Vr ?_
 refine Os 1 [(2, .slice none 0 0)] ?_
 refine Oe ?_
 refine V_ret ?_
 refine X_ret_then ?_
 exact X_return _ rfl ⟨rfl, rfl⟩

set_option maxRecDepth 10000 in
theorem tclone_at (b o cap : Nat) (L : List Value) (T : TypeId) (xs : List Trk) (w : World) (h : At w b o L T 18 cap (xs.map Trk.cells)) (hn : xs.length ≤ 1000000) : Calls Tryz.prog 82 #[.slice (some ⟨b, o, none⟩) xs.length cap] w fun e w' => ∃ A' cap', e = .returned (.slice A' xs.length cap') ∧ SlT w' 18 Trk.cells A' cap' xs ∧ Keep none_ w w' ∧ (∀ k, inA A' k → w.heap.size ≤ k) := by
 have hblt := h.blk.lt
 have hK0 : Keep none_ w w := Keep.refl _ _
 have hzhK0 := Keep.size hK0
 refine enterV Tryz.func82 rfl [.slice (some ⟨b, o, none⟩) xs.length cap] 8 rfl rfl rfl ?_
 refine V_pick [(0, .slice (some ⟨b, o, none⟩) xs.length cap)] rfl ?_
 refine Vr ?_
 refine Os 1 [(0, .slice (some ⟨b, o, none⟩) xs.length cap)] ?_
 refine Oe ?_
 refine V_seq ?_
 refine Vr ?_
 refine Os 2 [(0, .slice (some ⟨b, o, none⟩) xs.length cap), (4, .bool false)] ?_
 refine Oe ?_
 refine V_false rfl ?_
 refine V_skip ?_
 refine X_then ?_
 refine Vr ?_
 refine OI_slit (E := 27) (zv := .agg #[nt 0, nt 0, nt 0, nt 0, nt 0, nt 0, nt 0, nt 0, nt 0, nt 0, nt 0, nt 0, nt 0, nt 0, nt 0, nt 0, nt 0, nt 0]) (sz := 18) (by_ := 144) 29 0 #[] [] [] (some 5) (by kernel_rfl) (by kernel_rfl) (by kernel_rfl) (by omega) rfl (by omega) (by intro v hv; cases hv) (by kernel_rfl) rfl ?_
 intro b1 w1 e1 hb1 k1 z1
 have hsz2 := Keep.size k1
 replace h := h.keep k1 (fun f => f)
 replace hK0 := Keep.tr hK0 (Keep.ofNone k1)
 have hb1lt := hb1.lt
 refine Os 2 [(5, .slice (some ⟨b1, 0, none⟩) 0 0), (6, .slice (some ⟨b, o, none⟩) xs.length cap)] ?_
 refine OI_append (t := 29) (at2 := 29) (E := 27) (E2 := 27) (sz := 18) (by_ := 144) (zv := .agg #[nt 0, nt 0, nt 0, nt 0, nt 0, nt 0, nt 0, nt 0, nt 0, nt 0, nt 0, nt 0, nt 0, nt 0, nt 0, nt 0, nt 0, nt 0]) (m := 0) (k := xs.length) (.tmp 5) (.tmp 6) (.slice (some ⟨b1, 0, none⟩) 0 0) (.slice (some ⟨b, o, none⟩) xs.length cap) (some 7) (by kernel_rfl) (by kernel_rfl) (by kernel_rfl) (by kernel_rfl) (by kernel_rfl) (by kernel_rfl) (by kernel_rfl) (SlT.slr (slt_blk (f := Trk.cells) (xs := []) hb1 Trk.len rfl)) (SlT.slr (At.slt h)) (one_flat Trk.one) (by omega) (by omega) (by omega) (by omega) ?_
 intro v w9 hap
 obtain ⟨A9, cap9, rfl, h9, hin⟩ := SlT.of (xs := xs) hap.holds (by omega) (by simp) (fun x _ => Trk.len x)
 have hk9 : Keep (only b1) w1 w9 := hap.keep
 have hown : ∀ k, inA A9 k → w.heap.size ≤ k := fun k hk => by rcases hap.own k (hin k hk) with h | h; (have h : k = b1 := h; omega); omega
 have hsz3 := Keep.size hk9
 replace h := h.keep hk9 (by show ¬ (_ = _); omega)
 replace hK0 := Keep.fresh hK0 hk9 (by intro i hi hs; first | exact hs | exact Or.inl hs | exact Or.inr hs | (exfalso; have hs2 : i = b1 := hs; omega))
 refine Op_ [(7, .slice A9 (0 + xs.length) cap9)] ?_
 refine OI_eq [(7, .slice A9 xs.length cap9)] (by rw [Nat.zero_add]) ?_
 refine Os 4 [(2, .slice A9 xs.length cap9)] ?_
 refine Oe ?_
 refine V_ret ?_
 exact X_return _ rfl ⟨A9, cap9, rfl, h9, hK0, hown⟩

theorem tclone_spec (A : Option Addr) (cap : Nat) (xs : List Trk) (w : World) (hA : SlT w 18 Trk.cells A cap xs) (hn : xs.length ≤ 1000000) : Calls Tryz.prog 82 #[.slice A xs.length cap] w fun e w' => ∃ A' cap', e = .returned (.slice A' xs.length cap') ∧ SlT w' 18 Trk.cells A' cap' xs ∧ Keep none_ w w' ∧ (∀ k, inA A' k → w.heap.size ≤ k) := by
  rcases Nat.eq_zero_or_pos xs.length with h0 | h0
  · obtain rfl := List.length_eq_zero_iff.1 h0
    rcases hA with ⟨rfl, rfl, _⟩ | ⟨b, o, L, T, rfl, h1, h2, h3, h4, h5⟩
    · exact (tclone_nil w).mono (by rintro e w' ⟨rfl, rfl⟩; exact ⟨none, 0, rfl, SlT.nil _ _ _, Keep.refl _ _, fun k hk => (inA_none hk).elim⟩)
    · exact tclone_at b o cap L T [] w ⟨h1, h2, h3, h4, h5⟩ hn
  · obtain ⟨b, o, L, T, rfl, h⟩ := hA.open_ h0
    exact tclone_at b o cap L T xs w h hn

set_option maxRecDepth 10000 in
theorem rnw_spec (A : Option Addr) (cap : Nat) (ts : List Trk) (w : World) (hA : SlT w 18 Trk.cells A cap ts) (hok : okTs ts) : Calls Tryz.prog 35 #[.slice A ts.length cap] w fun e w' => ∃ r g H, e = .returned (.tuple #[.pointer (some ⟨r, 0, none⟩), .int .i64 0]) ∧ Rfr H w' r g ts [] ∧ Keep none_ w w' ∧ (∀ q, H q → w.heap.size ≤ q) := by
 have hAlt := SlT.lt hA
 have hok1 := hok.1
 have hok2 := hok.2.1
 have hK0 : Keep none_ w w := Keep.refl _ _
 have hzhK0 := Keep.size hK0
 refine enterV Tryz.func35 rfl [.slice A ts.length cap] 23 rfl rfl rfl ?_
 refine V_pick [(0, .slice A ts.length cap)] rfl ?_
 refine Vr ?_
 refine Os 2 [(0, .slice A ts.length cap)] ?_
 refine Oer ?_
 refine Os 1 [(0, .slice A ts.length cap), (4, .func (.func 79) #[] #[])] ?_
 refine Oe ?_
 refine V_seq ?_
 refine Vr ?_
 refine Os 4 [(0, .slice A ts.length cap), (4, .func (.func 79) #[] #[]), (8, .bool (decide (((ts.length : Nat) : Int) = 0)))] ?_
 refine OI_eq [(0, .slice A ts.length cap), (4, .func (.func 79) #[] #[]), (8, .bool false)] (by rw [decide_eq_false (by omega : ¬ (((ts.length : Nat) : Int) = 0))]) ?_
 refine Os 9 [(0, .slice A ts.length cap), (4, .func (.func 79) #[] #[]), (13, .bool (decide (((ts.length : Nat) : Int) > 4)))] ?_
 refine OI_eq [(0, .slice A ts.length cap), (4, .func (.func 79) #[] #[]), (13, .bool false)] (by rw [decide_eq_false (by omega : ¬ (((ts.length : Nat) : Int) > 4))]) ?_
 refine Os 11 [(0, .slice A ts.length cap), (13, .bool false), (14, .slice A ts.length cap), (15, .func (.func 79) #[] #[])] ?_
 refine Ok { callee := (Callee.value (Operand.func 81)), args := #[(Operand.tmp 14), (Operand.tmp 15)], argTypes := #[29, 150] } 81 #[.slice A ts.length cap, .func (.func 79) #[] #[]] (some 16) (ctf_spec A cap ts _ hA hok.2.2 (by omega)) ?_
 rintro _ w3 ⟨rfl, hk4⟩
 refine ⟨_, rfl, ?_⟩
 have hsz5 := Keep.size hk4
 replace hA := SlT.keep0 hA hk4
 replace hK0 := Keep.tr hK0 (Keep.ofNone hk4)
 refine Os 13 [(0, .slice A ts.length cap), (17, .bool false)] ?_
 refine Oe ?_
 refine V_false rfl ?_
 refine V_skip ?_
 refine X_then ?_
 refine Vr ?_
 refine Os 1 [(18, .slice A ts.length cap)] ?_
 refine Ok { callee := (Callee.value (Operand.func 82)), args := #[(Operand.tmp 18)], argTypes := #[29] } 82 #[.slice A ts.length cap] (some 19) (tclone_spec A cap ts _ hA (by omega)) ?_
 rintro _ w6 ⟨A8, cap8, rfl, hA8, hk7, ow8⟩
 refine ⟨_, rfl, ?_⟩
 have hsz9 := Keep.size hk7
 replace hA := SlT.keep0 hA hk7
 replace hK0 := Keep.tr hK0 (Keep.ofNone hk7)
 have lt8 := SlT.lt hA8
 refine Ok { callee := (Callee.value (Operand.func 83)), args := #[], argTypes := #[] } 83 #[] (some 20) (GQ.new_grd _) ?_
 rintro _ w12 ⟨g14, F15, rfl, ho16, hk13, hge17⟩
 refine ⟨_, rfl, ?_⟩
 have hsz18 := Keep.size hk13
 replace hA := SlT.keep0 hA hk13
 replace hA8 := SlT.keep0 hA8 hk13
 replace hK0 := Keep.tr hK0 (Keep.ofNone hk13)
 have own19 : ∀ q, F15 q → w6.heap.size ≤ q := fun q hq => by have h1 := hge17 q hq; omega
 have lt20 := GQ.Grd.lt ho16
 have dis21 : ∀ q, F15 q → ¬ inA A q := fun q h1 h2 => by have h3 := hge17 q h1; have h4 := hAlt q h2; omega
 have dis22 : ∀ q, F15 q → ¬ inA A8 q := fun q h1 h2 => by have h3 := hge17 q h1; have h4 := lt8 q h2; omega
 have hg14lt : g14 < w12.heap.size := GQ.Grd.lt ho16 _ (GQ.Grd.at_ ho16)
 have hg14ge := hge17 _ (GQ.Grd.at_ ho16)
 refine Os 4 [(21, .agg #[.slice A8 ts.length cap8, pt g14])] ?_
 refine OI_box 97 (.tmp 21) (.agg #[.slice A8 ts.length cap8, pt g14]) [.slice A8 ts.length cap8, pt g14] (some 22) (by kernel_rfl) (by kernel_rfl) (by kernel_rfl) ?_
 intro b23 w23 e23 hb23 k23 z23
 have hsz24 := Keep.size k23
 replace hA := SlT.keep0 hA k23
 replace hA8 := SlT.keep0 hA8 k23
 replace hK0 := Keep.tr hK0 (Keep.ofNone k23)
 replace ho16 := GQ.Grd.keep ho16 k23 (fun _ _ f => f)
 have hb23lt := hb23.lt
 refine Os 7 [(2, pt b23), (3, nt 0)] ?_
 refine Oe ?_
 refine V_ret ?_
 exact X_return _ rfl ⟨b23, g14, (fun q => F15 q ∨ inA A8 q ∨ q = b23), rfl, ⟨⟨by omega, hok.2.2, by simp, fun x hx => by cases hx⟩, fun q hq => by rcases hq with h | h | h; (have h1 := lt20 q h; omega); (have h1 := lt8 q h; omega); omega, F15, A8, cap8, ⟨hb23, hA8, ho16, (fun q h1 h2 => dis22 q h2 h1), (fun q h => by have h1 := ow8 q h; have h2 := lt8 q h; omega), (fun q h => by have h1 := lt20 q h; omega)⟩, .inr (.inr rfl), fun q h => .inl h, fun q h => .inr (.inl h)⟩, hK0, fun q hq => by rcases hq with h | h | h; (have h1 := own19 q h; omega); (have h1 := ow8 q h; omega); omega⟩
end Go.Al


namespace Go.Al
open Go Go.RowKit Go.Proofs
set_option maxRecDepth 10000 in
theorem rnew6_weak (A : Option Addr) (cap : Nat) (fs : List Int) (w : World) (hA0 : ArgT w 1 intc A cap fs) (hn : fs.length ≤ 100000) : Calls Tryz.prog 39 #[.slice A fs.length cap] w fun e w' => ∃ pv n, e = .returned (.tuple #[.pointer pv, .int .i64 n]) ∧ Keep none_ w w' := by
 have hA := hA0
 have hK0 : Keep none_ w w := Keep.refl _ _
 have hzhK0 := Keep.size hK0
 refine enterV Tryz.func39 rfl [.slice A fs.length cap] 51 rfl rfl rfl ?_
 refine V_pick [(0, .slice A fs.length cap)] rfl ?_
 refine Vr ?_
 refine Os 2 [(0, .slice A fs.length cap)] ?_
 refine Oe ?_
 refine V_seq ?_
 refine Vr ?_
 refine Os 3 [(0, .slice A fs.length cap), (9, .bool (decide (((fs.length : Nat) : Int) > 10)))] ?_
 refine Oe ?_
 refine V_if (((fs.length : Nat) : Int) > 10) (by kernel_rfl) (fun hc1 => ?_) (fun hc1 => ?_)
 ·
  refine Vr ?_
  refine Os 2 [(2, .pointer none), (3, nt 1)] ?_
  refine Oe ?_
  refine V_ret ?_
  refine X_ret_then ?_
  exact X_return (.tuple #[.pointer none, nt 1]) rfl ⟨_, _, rfl, hK0⟩
 refine V_skip ?_
 refine X_then ?_
 refine Vr ?_
 refine OI_make (E := 171) (sz := 3) (by_ := 40) (m := 10) (kd := .i64) (zv := .agg #[nt 0, nt 0, .slice none 0 0]) 166 (.const (Value.int IntKind.i64 10)) (.const (Value.int IntKind.i64 10)) ((List.replicate 10 [nt 0, nt 0, .slice none 0 0]).flatten) (some 10) (by kernel_rfl) (by kernel_rfl) (by kernel_rfl) (by kernel_rfl) (by kernel_rfl) (by decide) (by decide) (by kernel_rfl) ?_
 intro b2 w2 e2 hb2 k2 z2
 have hsz3 := Keep.size k2
 replace hA := ArgT.keep0 hA k2
 replace hK0 := Keep.tr hK0 (Keep.ofNone k2)
 have hb2lt := hb2.lt
 refine Os 2 [(0, .slice A fs.length cap), (11, .agg #[.slice (some ⟨b2, 0, none⟩) 10 10])] ?_
 refine OI_box 168 (.tmp 11) (.agg #[.slice (some ⟨b2, 0, none⟩) 10 10]) [.slice (some ⟨b2, 0, none⟩) 10 10] (some 12) (by kernel_rfl) (by kernel_rfl) (by kernel_rfl) ?_
 intro b4 w4 e4 hb4 k4 z4
 have hsz5 := Keep.size k4
 replace hb2 := hb2.keep k4 (fun f => f)
 replace hA := ArgT.keep0 hA k4
 replace hK0 := Keep.tr hK0 (Keep.ofNone k4)
 have hb4lt := hb4.lt
 refine Os 4 [(0, .slice A fs.length cap), (4, pt b4)] ?_
 refine Oer ?_
 refine Os 1 [(0, .slice A fs.length cap), (4, pt b4), (5, nt 0)] ?_
 refine Oe ?_
 refine V_seq ?_
 refine Vr ?_
 refine Os 1 [(0, .slice A fs.length cap), (4, pt b4), (5, nt 0), (6, nt 0)] ?_
 refine Oe ?_
 refine V_block ?_
 refine V_pick [(0, .slice A fs.length cap), (4, pt b4), (5, nt 0), (6, nt 0)] rfl ?_
 refine V_loop (fun k wI e => ∃ i : Nat, ∃ s5 : Int, ∃ Lx : List Value, (k + i = fs.length) ∧ (Blk wI b2 Lx 171) ∧ (Lx.length = 30) ∧ Keep (only b2) w4 wI ∧ e = [(0, .slice A fs.length cap), (4, pt b4), (5, nt s5), (6, nt ((i : Nat) : Int))]) fs.length ⟨0, 0, (List.replicate 10 [nt 0, nt 0, .slice none 0 0]).flatten, by omega, hb2, by decide, Keep.refl _ _, rfl⟩ ?_
 rintro k7 w6 _ ⟨i, s5, Lx, hki, hB, hLx, hk8, rfl⟩
 have hsz9 := Keep.size hk8
 replace hb4 := hb4.keep hk8 (by show ¬ (_ = _); omega)
 replace hA := ArgT.keep hA hk8 hA0 (fun k hk hs => by have hs : k = b2 := hs; omega)
 replace hK0 := Keep.fresh hK0 hk8 (by intro i hi hs; first | exact hs | exact Or.inl hs | exact Or.inr hs | (exfalso; have hs2 : i = b2 := hs; omega))
 have hzhk8 := Keep.size hk8
 have hb2lt := hB.lt
 refine V_seq ?_
 refine Vr ?_
 refine Os 4 [(0, .slice A fs.length cap), (4, pt b4), (5, nt s5), (6, nt ((i : Nat) : Int)), (16, .bool (decide (((i : Nat) : Int) < ((fs.length : Nat) : Int))))] ?_
 refine Oe ?_
 refine V_if (((i : Nat) : Int) < ((fs.length : Nat) : Int)) (by kernel_rfl) (fun hc10 => ?_) (fun hc10 => ?_)
 ·
  refine V_skip ?_
  refine X_then ?_
  refine V_seq ?_
  refine V_block ?_
  refine V_seq ?_
  refine Vr ?_
  refine Os 2 [(0, .slice A fs.length cap), (4, pt b4), (5, nt s5), (6, nt ((i : Nat) : Int)), (19, .slice A fs.length cap), (20, nt ((i : Nat) : Int))] ?_
  obtain ⟨b11, o11, L11, rfl, hat11⟩ := ArgT.open_ hA (by first | omega | (simp only [List.length_map]; omega) | (simp; done) | (simp; omega))
  have hb11lt0 := ArgT.lt hA0 (by first | omega | (simp only [List.length_map]; omega) | (simp; done) | (simp; omega))
  have hb11lt := hat11.blk.lt
  refine OI_pure (some 21) (.indexAddr 72 (.tmp 19) (.tmp 20)) (by kernel_rfl) (pure_idxN (b := b11) (o := o11) (len := fs.length) (cap := cap) (kd := .i64) (j := i) (E := 3) (sz := 1) (by_ := 8) (by kernel_rfl) (by kernel_rfl) (by kernel_rfl) (by omega)) ?_
  obtain ⟨x12, hx13⟩ : ∃ x, fs[i]? = some x := ⟨_, List.getElem?_eq_getElem (by first | omega | (simp only [List.length_map]; omega))⟩
  refine OI_cellR 3 (.tmp 21) (o11 + i * 1) (nt x12) (some 22) (by kernel_rfl) (by kernel_rfl) hat11.blk (m := 1) (by kernel_rfl) (AtR.cell0 hat11 (es_at hx13) rfl) ?_
  refine Os 6 [(0, .slice (some ⟨b11, o11, none⟩) fs.length cap), (4, pt b4), (5, nt s5), (6, nt ((i : Nat) : Int)), (24, .bool (decide (x12 < 0)))] ?_
  by_cases hg14 : x12 < 0
  ·
   refine OI_eq [(0, .slice (some ⟨b11, o11, none⟩) fs.length cap), (4, pt b4), (5, nt s5), (6, nt ((i : Nat) : Int)), (24, .bool true)] (by first | simp [hg14] | rfl) ?_
   refine Os 12 [(0, .slice (some ⟨b11, o11, none⟩) fs.length cap), (4, pt b4), (5, nt s5), (6, nt ((i : Nat) : Int)), (25, undef), (26, undef), (27, undef), (28, undef), (29, undef), (30, .bool true)] ?_
   refine Oe ?_
   refine V_true rfl ?_
   refine Vr ?_
   refine Os 2 [(2, .pointer none), (3, nt 1)] ?_
   refine Oe ?_
   refine V_ret ?_
   refine X_ret_then ?_
   refine X_ret_block ?_
   refine X_ret_then ?_
   refine X_ret_then ?_
   refine X_ret_block ?_
   refine X_ret_then ?_
   exact X_return (.tuple #[.pointer none, nt 1]) rfl ⟨_, _, rfl, hK0⟩
  refine OI_eq [(0, .slice (some ⟨b11, o11, none⟩) fs.length cap), (4, pt b4), (5, nt s5), (6, nt ((i : Nat) : Int)), (24, .bool false)] (by first | simp [hg14] | rfl) ?_
  refine Os 8 [(0, .slice (some ⟨b11, o11, none⟩) fs.length cap), (4, pt b4), (5, nt s5), (6, nt ((i : Nat) : Int)), (24, .bool false), (25, .slice (some ⟨b11, o11, none⟩) fs.length cap), (26, nt ((i : Nat) : Int))] ?_
  refine OI_pure (some 27) (.indexAddr 72 (.tmp 25) (.tmp 26)) (by kernel_rfl) (pure_idxN (b := b11) (o := o11) (len := fs.length) (cap := cap) (kd := .i64) (j := i) (E := 3) (sz := 1) (by_ := 8) (by kernel_rfl) (by kernel_rfl) (by kernel_rfl) (by omega)) ?_
  refine OI_cellR 3 (.tmp 27) (o11 + i * 1) (nt x12) (some 28) (by kernel_rfl) (by kernel_rfl) hat11.blk (m := 1) (by kernel_rfl) (AtR.cell0 hat11 (es_at hx13) rfl) ?_
  refine Os 12 [(0, .slice (some ⟨b11, o11, none⟩) fs.length cap), (4, pt b4), (5, nt s5), (6, nt ((i : Nat) : Int)), (25, .slice (some ⟨b11, o11, none⟩) fs.length cap), (26, nt ((i : Nat) : Int)), (27, .pointer (some ⟨b11, o11 + i * 1, none⟩)), (28, nt x12), (29, .bool (decide (x12 > 1073741824))), (30, .bool (decide (x12 > 1073741824)))] ?_
  refine Oe ?_
  refine V_if (x12 > 1073741824) (by kernel_rfl) (fun hc15 => ?_) (fun hc15 => ?_)
  ·
   refine Vr ?_
   refine Os 2 [(2, .pointer none), (3, nt 1)] ?_
   refine Oe ?_
   refine V_ret ?_
   refine X_ret_then ?_
   refine X_ret_block ?_
   refine X_ret_then ?_
   refine X_ret_then ?_
   refine X_ret_block ?_
   refine X_ret_then ?_
   exact X_return (.tuple #[.pointer none, nt 1]) rfl ⟨_, _, rfl, hK0⟩
  refine V_skip ?_
  refine X_then ?_
  refine V_seq ?_
  refine V_draws (acts [11]) (only b2) [[0, 1, 2, 3, 4, 5, 6, 7, 8, 9, 10, 11]] (by kernel_rfl) (by repeat first | exact sure_body (by rintro _ _ ⟨_, _, h, _⟩; exact ⟨_, h⟩) | refine sure_then ?_ | refine sure_block ?_ | refine sure_join ?_) (by kernel_rfl) ?_
  intro w17 hk16 he18 L hL19
  have hsz20 := Keep.size hk16
  replace hB := hB.keep hk16 (fun f => f)
  replace hb4 := hb4.keep hk16 (fun f => f)
  replace hat11 := hat11.keep hk16 (fun f => f)
  replace hK0 := Keep.tr hK0 (Keep.ofNone hk16)
  replace hk8 := Keep.tr hk8 (Keep.ofNone hk16)
  have qhB := hB
  have qhb4 := hb4
  have qhat11 := hat11
  have K21 : Keep (only b2) w17 w17 := Keep.refl _ _
  obtain rfl := List.mem_singleton.1 hL19
  refine Gs [3, 4, 5, 6, 7, 8, 9, 10, 11] [(0, .slice (some ⟨b11, o11, none⟩) fs.length cap), (4, pt b4), (5, nt s5), (6, nt ((i : Nat) : Int)), (25, .slice (some ⟨b11, o11, none⟩) fs.length cap), (26, nt ((i : Nat) : Int)), (27, .pointer (some ⟨b11, o11 + i * 1, none⟩)), (28, nt x12), (29, .bool (decide (x12 > 1073741824))), (33, pt b4)] ?_
  refine Gc 166 (.tmp 33) 0 (.slice (some ⟨b2, 0, none⟩) 10 10) (some 34) qhb4 (by show ¬ (_ = _); omega) rfl ?_
  refine Gs [7, 8, 9, 10, 11] [(0, .slice (some ⟨b11, o11, none⟩) fs.length cap), (4, pt b4), (5, nt s5), (6, nt ((i : Nat) : Int)), (25, .slice (some ⟨b11, o11, none⟩) fs.length cap), (26, nt ((i : Nat) : Int)), (27, .pointer (some ⟨b11, o11 + i * 1, none⟩)), (28, nt x12), (29, .bool (decide (x12 > 1073741824))), (34, .slice (some ⟨b2, 0, none⟩) 10 10), (35, nt ((i : Nat) : Int)), (36, .slice (some ⟨b11, o11, none⟩) fs.length cap), (37, nt ((i : Nat) : Int))] ?_
  refine GI_pure (some 38) (.indexAddr 72 (.tmp 36) (.tmp 37)) (by kernel_rfl) (by kernel_rfl) (pure_idxN (b := b11) (o := o11) (len := fs.length) (cap := cap) (kd := .i64) (j := i) (E := 3) (sz := 1) (by_ := 8) (by kernel_rfl) (by kernel_rfl) (by kernel_rfl) (by omega)) ?_
  refine GI_cellR 3 (.tmp 38) (o11 + i * 1) (nt x12) (some 39) (by kernel_rfl) (by kernel_rfl) (by kernel_rfl) qhat11.blk (by show ¬ (_ = _); omega) (m := 1) (by kernel_rfl) (AtR.cell0 qhat11 (es_at hx13) rfl) ?_
  refine GI_pure (some 40) (.indexAddr 166 (.tmp 34) (.tmp 35)) (by kernel_rfl) (by kernel_rfl) (pure_idxN (b := b2) (o := 0) (len := 10) (cap := 10) (kd := .i64) (j := i) (E := 171) (sz := 3) (by_ := 40) (by kernel_rfl) (by kernel_rfl) (by kernel_rfl) (by omega)) ?_
  refine Gs [11] [(0, .slice (some ⟨b11, o11, none⟩) fs.length cap), (4, pt b4), (5, nt s5), (6, nt ((i : Nat) : Int)), (25, .slice (some ⟨b11, o11, none⟩) fs.length cap), (26, nt ((i : Nat) : Int)), (27, .pointer (some ⟨b11, o11 + i * 1, none⟩)), (28, nt x12), (29, .bool (decide (x12 > 1073741824))), (39, nt x12), (41, .pointer (some ⟨b2, 0 + i * 3, none⟩))] ?_
  refine GI_final 11 (by kernel_rfl) (by kernel_rfl) ?_
  refine OI_set (m := 1) (kd := false) 3 (.tmp 41) (.tmp 39) (0 + i * 3) (nt x12) [nt x12] none (by kernel_rfl) (by kernel_rfl) (by kernel_rfl) hB (by kernel_rfl) (by kernel_rfl) (by kernel_rfl) (by rw [hLx]; show 0 + i * 3 + 1 ≤ 30; omega) (by simp [Value.oneCell']) ?_
  intro w22 hb2_25 hk23 hz24
  replace hb2_25 : Blk w22 b2 (over Lx (0 + i * 3) [nt x12]) 171 := hb2_25
  have hsz26 := Keep.size hk23
  replace hb4 := hb4.keep hk23 (by show ¬ (_ = _); omega)
  replace hat11 := hat11.keep hk23 (by show ¬ (_ = _); omega)
  replace hK0 := Keep.fresh hK0 hk23 (by intro i hi hs; first | exact hs | exact Or.inl hs | exact Or.inr hs | (exfalso; have hs2 : i = b2 := hs; omega))
  replace hk8 := Keep.fresh hk8 hk23 (by intro i hi hs; first | exact hs | exact Or.inl hs | exact Or.inr hs | (exfalso; have hs2 : i = b2 := hs; omega))
  refine Oe ?_
  refine V_region ?_
  refine Os 3 [(0, .slice (some ⟨b11, o11, none⟩) fs.length cap), (4, pt b4), (6, nt ((i : Nat) : Int)), (25, .slice (some ⟨b11, o11, none⟩) fs.length cap), (26, nt ((i : Nat) : Int)), (27, .pointer (some ⟨b11, o11 + i * 1, none⟩)), (28, nt x12), (29, .bool (decide (x12 > 1073741824))), (42, nt s5), (43, .slice (some ⟨b11, o11, none⟩) fs.length cap), (44, nt ((i : Nat) : Int))] ?_
  refine OI_pure (some 45) (.indexAddr 72 (.tmp 43) (.tmp 44)) (by kernel_rfl) (pure_idxN (b := b11) (o := o11) (len := fs.length) (cap := cap) (kd := .i64) (j := i) (E := 3) (sz := 1) (by_ := 8) (by kernel_rfl) (by kernel_rfl) (by kernel_rfl) (by omega)) ?_
  refine OI_cellR 3 (.tmp 45) (o11 + i * 1) (nt x12) (some 46) (by kernel_rfl) (by kernel_rfl) hat11.blk (m := 1) (by kernel_rfl) (AtR.cell0 hat11 (es_at hx13) rfl) ?_
  refine Os 7 [(0, .slice (some ⟨b11, o11, none⟩) fs.length cap), (4, pt b4), (5, nt (IntKind.i64.wrap (s5 + x12))), (6, nt ((i : Nat) : Int)), (25, .slice (some ⟨b11, o11, none⟩) fs.length cap), (26, nt ((i : Nat) : Int)), (27, .pointer (some ⟨b11, o11 + i * 1, none⟩)), (28, nt x12), (29, .bool (decide (x12 > 1073741824)))] ?_
  refine OI_end rfl ?_
  refine X_block ?_
  refine X_then ?_
  refine V_region ?_
  have hw27 : IntKind.i64.wrap (((i : Nat) : Int) + 1) = ((i + 1 : Nat) : Int) := (wrap64_id (by omega) (by omega)).trans (by omega)
  refine Os 2 [(0, .slice (some ⟨b11, o11, none⟩) fs.length cap), (4, pt b4), (5, nt (IntKind.i64.wrap (s5 + x12))), (18, nt (IntKind.i64.wrap (((i : Nat) : Int) + 1))), (25, .slice (some ⟨b11, o11, none⟩) fs.length cap), (26, nt ((i : Nat) : Int)), (27, .pointer (some ⟨b11, o11 + i * 1, none⟩)), (28, nt x12), (29, .bool (decide (x12 > 1073741824)))] ?_
  refine OI_eq [(0, .slice (some ⟨b11, o11, none⟩) fs.length cap), (4, pt b4), (5, nt (IntKind.i64.wrap (s5 + x12))), (18, nt ((i + 1 : Nat) : Int)), (25, .slice (some ⟨b11, o11, none⟩) fs.length cap), (26, nt ((i : Nat) : Int)), (27, .pointer (some ⟨b11, o11 + i * 1, none⟩)), (28, nt x12), (29, .bool (decide (x12 > 1073741824)))] (by rw [hw27]) ?_
  refine Os 3 [(0, .slice (some ⟨b11, o11, none⟩) fs.length cap), (4, pt b4), (5, nt (IntKind.i64.wrap (s5 + x12))), (6, nt ((i + 1 : Nat) : Int)), (25, .slice (some ⟨b11, o11, none⟩) fs.length cap), (26, nt ((i : Nat) : Int)), (27, .pointer (some ⟨b11, o11 + i * 1, none⟩)), (28, nt x12), (29, .bool (decide (x12 > 1073741824)))] ?_
  refine OI_end rfl ?_
  exact V_again (k7 - 1) (by omega) [(0, .slice (some ⟨b11, o11, none⟩) fs.length cap), (4, pt b4), (5, nt (IntKind.i64.wrap (s5 + x12))), (6, nt ((i + 1 : Nat) : Int))] rfl ⟨i + 1, IntKind.i64.wrap (s5 + x12), (over Lx (0 + i * 3) [nt x12]), by omega, hb2_25, by rw [over_length (by rw [hLx]; show 0 + i * 3 + 1 ≤ 30; omega)]; exact hLx, hk8, rfl⟩
 refine V_exit ?_
 refine X_exit_then ?_
 refine X_exit_then ?_
 refine X_exit_here ?_
 refine X_then ?_
 refine V_seq ?_
 refine Vr ?_
 refine Os 2 [(4, pt b4), (49, .bool (decide (s5 > 1073741824)))] ?_
 refine Oe ?_
 refine V_if (s5 > 1073741824) (by kernel_rfl) (fun hc28 => ?_) (fun hc28 => ?_)
 ·
  refine Vr ?_
  refine Os 2 [(2, .pointer none), (3, nt 1)] ?_
  refine Oe ?_
  refine V_ret ?_
  refine X_ret_then ?_
  exact X_return (.tuple #[.pointer none, nt 1]) rfl ⟨_, _, rfl, hK0⟩
 refine V_skip ?_
 refine X_then ?_
 refine Vr ?_
 refine Os 3 [(2, pt b4), (3, nt 0)] ?_
 refine Oe ?_
 refine V_ret ?_
 exact X_return (.tuple #[pt b4, nt 0]) rfl ⟨_, _, rfl, hK0⟩

set_option maxRecDepth 10000 in
theorem rnew11_weak (w : World) : Calls Tryz.prog 40 #[] w fun e w' => ∃ pv, e = .returned (.pointer pv) ∧ Keep none_ w w' := by
 have hK0 : Keep none_ w w := Keep.refl _ _
 have hzhK0 := Keep.size hK0
 refine enterV Tryz.func40 rfl [] 5 rfl rfl rfl ?_
 refine V_pick [] rfl ?_
 refine Vr ?_
 refine Os 1 [] ?_
 refine Oe ?_
 refine V_seq ?_
 refine V_draws (acts [0, 1, 3]) none_ [[0, 1, 2, 3, 4], [1, 0, 2, 3, 4]] (by kernel_rfl) (by repeat first | exact sure_body (by rintro _ _ ⟨_, h, _⟩; exact ⟨_, h⟩) | refine sure_then ?_ | refine sure_block ?_ | refine sure_join ?_) (by kernel_rfl) ?_
 intro w2 hk1 he3 L hL4
 have hsz5 := Keep.size hk1
 replace hK0 := Keep.tr hK0 (Keep.ofNone hk1)
 have K6 : Keep none_ w2 w2 := Keep.refl _ _
 simp only [List.mem_cons, List.not_mem_nil, or_false] at hL4
 rcases hL4 with rfl | rfl
 ·
  refine GI_make (E := 222) (sz := 7) (by_ := 56) (m := 12) (kd := .i64) (zv := .agg #[.bool false, nt 0, nt 0, nt 0, nt 0, nt 0, nt 0]) 172 (.const (Value.int IntKind.i64 12)) (.const (Value.int IntKind.i64 12)) ((List.replicate 12 [.bool false, nt 0, nt 0, nt 0, nt 0, nt 0, nt 0]).flatten) (some 1) (by kernel_rfl) (by kernel_rfl) K6 (by kernel_rfl) (by kernel_rfl) (by kernel_rfl) (by kernel_rfl) (by decide) (by decide) (by kernel_rfl) ?_
  intro b7 w7 e7 hb7 k7 z7 K8
  have hsz9 := Keep.size k7
  replace hK0 := Keep.tr hK0 (Keep.ofNone k7)
  have hb7lt := hb7.lt
  refine GI_make (E := 228) (sz := 9) (by_ := 88) (m := 40) (kd := .i64) (zv := .agg #[.slice none 0 0, .bool false, nt 0, nt 0, nt 0, nt 0, nt 0, nt 0, nt 0]) 173 (.const (Value.int IntKind.i64 40)) (.const (Value.int IntKind.i64 40)) ((List.replicate 40 [.slice none 0 0, .bool false, nt 0, nt 0, nt 0, nt 0, nt 0, nt 0, nt 0]).flatten) (some 2) (by kernel_rfl) (by kernel_rfl) K8 (by kernel_rfl) (by kernel_rfl) (by kernel_rfl) (by kernel_rfl) (by decide) (by decide) (by kernel_rfl) ?_
  intro b10 w10 e10 hb10 k10 z10 K11
  have hsz12 := Keep.size k10
  replace hb7 := hb7.keep k10 (fun f => f)
  replace hK0 := Keep.tr hK0 (Keep.ofNone k10)
  have hb10lt := hb10.lt
  refine Gs [3, 4] [(3, .agg #[.slice (some ⟨b7, 0, none⟩) 12 12, .slice (some ⟨b10, 0, none⟩) 40 40])] ?_
  refine GI_box 175 (.tmp 3) (.agg #[.slice (some ⟨b7, 0, none⟩) 12 12, .slice (some ⟨b10, 0, none⟩) 40 40]) [.slice (some ⟨b7, 0, none⟩) 12 12, .slice (some ⟨b10, 0, none⟩) 40 40] (some 4) (by kernel_rfl) (by kernel_rfl) K11 (by kernel_rfl) (by kernel_rfl) ?_
  intro b13 w13 e13 hb13 k13 z13 K14
  have hsz15 := Keep.size k13
  replace hb7 := hb7.keep k13 (fun f => f)
  replace hb10 := hb10.keep k13 (fun f => f)
  replace hK0 := Keep.tr hK0 (Keep.ofNone k13)
  have hb13lt := hb13.lt
  refine Gs [] [(0, pt b13)] ?_
  refine GI_end ?_
  refine X_then ?_
  refine V_ret ?_
  exact X_return _ rfl ⟨_, rfl, hK0⟩
 ·
  refine GI_make (E := 228) (sz := 9) (by_ := 88) (m := 40) (kd := .i64) (zv := .agg #[.slice none 0 0, .bool false, nt 0, nt 0, nt 0, nt 0, nt 0, nt 0, nt 0]) 173 (.const (Value.int IntKind.i64 40)) (.const (Value.int IntKind.i64 40)) ((List.replicate 40 [.slice none 0 0, .bool false, nt 0, nt 0, nt 0, nt 0, nt 0, nt 0, nt 0]).flatten) (some 2) (by kernel_rfl) (by kernel_rfl) K6 (by kernel_rfl) (by kernel_rfl) (by kernel_rfl) (by kernel_rfl) (by decide) (by decide) (by kernel_rfl) ?_
  intro b16 w16 e16 hb16 k16 z16 K17
  have hsz18 := Keep.size k16
  replace hK0 := Keep.tr hK0 (Keep.ofNone k16)
  have hb16lt := hb16.lt
  refine GI_make (E := 222) (sz := 7) (by_ := 56) (m := 12) (kd := .i64) (zv := .agg #[.bool false, nt 0, nt 0, nt 0, nt 0, nt 0, nt 0]) 172 (.const (Value.int IntKind.i64 12)) (.const (Value.int IntKind.i64 12)) ((List.replicate 12 [.bool false, nt 0, nt 0, nt 0, nt 0, nt 0, nt 0]).flatten) (some 1) (by kernel_rfl) (by kernel_rfl) K17 (by kernel_rfl) (by kernel_rfl) (by kernel_rfl) (by kernel_rfl) (by decide) (by decide) (by kernel_rfl) ?_
  intro b19 w19 e19 hb19 k19 z19 K20
  have hsz21 := Keep.size k19
  replace hb16 := hb16.keep k19 (fun f => f)
  replace hK0 := Keep.tr hK0 (Keep.ofNone k19)
  have hb19lt := hb19.lt
  refine Gs [3, 4] [(3, .agg #[.slice (some ⟨b19, 0, none⟩) 12 12, .slice (some ⟨b16, 0, none⟩) 40 40])] ?_
  refine GI_box 175 (.tmp 3) (.agg #[.slice (some ⟨b19, 0, none⟩) 12 12, .slice (some ⟨b16, 0, none⟩) 40 40]) [.slice (some ⟨b19, 0, none⟩) 12 12, .slice (some ⟨b16, 0, none⟩) 40 40] (some 4) (by kernel_rfl) (by kernel_rfl) K20 (by kernel_rfl) (by kernel_rfl) ?_
  intro b22 w22 e22 hb22 k22 z22 K23
  have hsz24 := Keep.size k22
  replace hb16 := hb16.keep k22 (fun f => f)
  replace hb19 := hb19.keep k22 (fun f => f)
  replace hK0 := Keep.tr hK0 (Keep.ofNone k22)
  have hb22lt := hb22.lt
  refine Gs [] [(0, pt b22)] ?_
  refine GI_end ?_
  refine X_then ?_
  refine V_ret ?_
  exact X_return _ rfl ⟨_, rfl, hK0⟩

set_option maxRecDepth 10000 in
theorem rnew12_weak (A : Option Addr) (cap : Nat) (ts : List Trk) (w : World) (hA : SlT w 18 Trk.cells A cap ts) (hok : okTs ts) : Calls Tryz.prog 34 #[.slice A ts.length cap] w fun e w' => ∃ pv, e = .returned (.tuple #[.pointer pv, .int .i64 0]) ∧ Keep none_ w w' := by
 have hAlt := SlT.lt hA
 have hok1 := hok.1
 have hok2 := hok.2.1
 have hK0 : Keep none_ w w := Keep.refl _ _
 have hzhK0 := Keep.size hK0
 refine enterV Tryz.func34 rfl [.slice A ts.length cap] 30 rfl rfl rfl ?_
 refine V_pick [(0, .slice A ts.length cap)] rfl ?_
 refine Vr ?_
 refine Os 2 [(0, .slice A ts.length cap)] ?_
 refine Oe ?_
 refine V_seq ?_
 refine Vr ?_
 refine Os 4 [(0, .slice A ts.length cap), (8, .bool (decide (((ts.length : Nat) : Int) < 1)))] ?_
 refine OI_eq [(0, .slice A ts.length cap), (8, .bool false)] (by rw [decide_eq_false (by omega : ¬ (((ts.length : Nat) : Int) < 1))]) ?_
 refine Os 8 [(0, .slice A ts.length cap), (12, .bool (decide (((ts.length : Nat) : Int) > 4)))] ?_
 refine Oe ?_
 refine V_pick [(0, .slice A ts.length cap), (12, .bool (decide (((ts.length : Nat) : Int) > 4)))] rfl ?_
 refine V_eq [(0, .slice A ts.length cap), (12, .bool false)] (by rw [decide_eq_false (by omega : ¬ (((ts.length : Nat) : Int) > 4))]) ?_
 refine V_false rfl ?_
 refine V_skip ?_
 refine X_then ?_
 refine V_seq ?_
 refine Vr ?_
 refine Os 1 [(0, .slice A ts.length cap), (4, nt 0)] ?_
 refine Oe ?_
 refine V_block ?_
 refine V_pick [(0, .slice A ts.length cap), (4, nt 0)] rfl ?_
 refine V_loop (fun k wI e => ∃ i : Nat, (k + i = ts.length) ∧ Keep none_ w wI ∧ e = [(0, .slice A ts.length cap), (4, nt ((i : Nat) : Int))]) ts.length ⟨0, rfl, Keep.refl _ _, rfl⟩ ?_
 rintro k4 w3 _ ⟨i, hki, hk5, rfl⟩
 have hsz6 := Keep.size hk5
 replace hA := SlT.keep0 hA hk5
 replace hK0 := Keep.tr hK0 (Keep.ofNone hk5)
 have hzhk5 := Keep.size hk5
 refine V_seq ?_
 refine Vr ?_
 refine Os 4 [(0, .slice A ts.length cap), (4, nt ((i : Nat) : Int)), (16, .bool (decide (((i : Nat) : Int) < ((ts.length : Nat) : Int))))] ?_
 refine Oe ?_
 refine V_if (((i : Nat) : Int) < ((ts.length : Nat) : Int)) (by kernel_rfl) (fun hc7 => ?_) (fun hc7 => ?_)
 ·
  refine V_skip ?_
  refine X_then ?_
  refine V_seq ?_
  refine V_block ?_
  refine Vr ?_
  refine Os 2 [(0, .slice A ts.length cap), (4, nt ((i : Nat) : Int)), (19, .slice A ts.length cap), (20, nt ((i : Nat) : Int))] ?_
  obtain ⟨b8, o8, L8, T8, rfl, hat8⟩ := SlT.open_ hA (by first | omega | (simp only [List.length_map]; omega) | (simp; done) | (simp; omega))
  have hb8lt := hat8.blk.lt
  have hob9 := hAlt b8 ⟨_, rfl, rfl⟩
  refine OI_pure (some 21) (.indexAddr 29 (.tmp 19) (.tmp 20)) (by kernel_rfl) (pure_idxN (b := b8) (o := o8) (len := ts.length) (cap := cap) (kd := .i64) (j := i) (E := 27) (sz := 18) (by_ := 144) (by kernel_rfl) (by kernel_rfl) (by kernel_rfl) (by omega)) ?_
  obtain ⟨x10, hx11⟩ : ∃ x, ts[i]? = some x := ⟨_, List.getElem?_eq_getElem (by first | omega | (simp only [List.length_map]; omega))⟩
  have hokx : okTrk x10 := hok.2.2 x10 (List.mem_of_getElem? hx11)
  refine Oa 27 (.tmp 21) (o8 + i * 18) (Trk.cells x10) (some 22) 18 hat8.blk (At.elem' hat8 (es_at hx11)) (At.len hat8 (es_at hx11)) ?_
  refine Ok { callee := (Callee.value (Operand.func 78)), args := #[(Operand.tmp 22)], argTypes := #[27] } 78 #[.agg (Trk.cells x10).toArray] (some 23) (r10Is_spec x10 _) ?_
  rintro _ w12 ⟨rfl, hk13⟩
  refine ⟨_, rfl, ?_⟩
  have hsz14 := Keep.size hk13
  replace hat8 := hat8.keep hk13 (fun f => f)
  replace hK0 := Keep.tr hK0 (Keep.ofNone hk13)
  replace hk5 := Keep.tr hk5 (Keep.ofNone hk13)
  refine Os 6 [(0, .slice (some ⟨b8, o8, none⟩) ts.length cap), (4, nt ((i : Nat) : Int)), (24, .bool (!(decide (okTrk x10))))] ?_
  refine Oe ?_
  refine V_pick [(0, .slice (some ⟨b8, o8, none⟩) ts.length cap), (4, nt ((i : Nat) : Int)), (24, .bool (!(decide (okTrk x10))))] rfl ?_
  refine V_eq [(0, .slice (some ⟨b8, o8, none⟩) ts.length cap), (4, nt ((i : Nat) : Int)), (24, .bool false)] (by rw [decide_eq_true hokx]; rfl) ?_
  refine V_false rfl ?_
  refine V_skip ?_
  refine X_block ?_
  refine X_then ?_
  refine V_region ?_
  have hw16 : IntKind.i64.wrap (((i : Nat) : Int) + 1) = ((i + 1 : Nat) : Int) := (wrap64_id (by omega) (by omega)).trans (by omega)
  refine Os 2 [(0, .slice (some ⟨b8, o8, none⟩) ts.length cap), (18, nt (IntKind.i64.wrap (((i : Nat) : Int) + 1)))] ?_
  refine OI_eq [(0, .slice (some ⟨b8, o8, none⟩) ts.length cap), (18, nt ((i + 1 : Nat) : Int))] (by rw [hw16]) ?_
  refine Os 3 [(0, .slice (some ⟨b8, o8, none⟩) ts.length cap), (4, nt ((i + 1 : Nat) : Int))] ?_
  refine OI_end rfl ?_
  exact V_again (k4 - 1) (by omega) [(0, .slice (some ⟨b8, o8, none⟩) ts.length cap), (4, nt ((i + 1 : Nat) : Int))] rfl ⟨i + 1, by omega, hk5, rfl⟩
 refine V_exit ?_
 refine X_exit_then ?_
 refine X_exit_then ?_
 refine X_exit_here ?_
 refine X_then ?_
 refine Vr ?_
 refine OI_slit (E := 27) (zv := .agg #[nt 0, nt 0, nt 0, nt 0, nt 0, nt 0, nt 0, nt 0, nt 0, nt 0, nt 0, nt 0, nt 0, nt 0, nt 0, nt 0, nt 0, nt 0]) (sz := 18) (by_ := 144) 29 0 #[] [] [] (some 25) (by kernel_rfl) (by kernel_rfl) (by kernel_rfl) (by omega) rfl (by omega) (by intro v hv; cases hv) (by kernel_rfl) rfl ?_
 intro b17 w17 e17 hb17 k17 z17
 have hsz18 := Keep.size k17
 replace hA := SlT.keep0 hA k17
 replace hK0 := Keep.tr hK0 (Keep.ofNone k17)
 have hb17lt := hb17.lt
 refine Os 2 [(25, .slice (some ⟨b17, 0, none⟩) 0 0), (26, .slice A ts.length cap)] ?_
 have hl19 : ts.length = ts.length := rfl
 have hy19 := SlT.slr hA
 refine OI_append (t := 29) (at2 := 29) (E := 27) (E2 := 27) (sz := 18) (by_ := 144) (zv := .agg #[nt 0, nt 0, nt 0, nt 0, nt 0, nt 0, nt 0, nt 0, nt 0, nt 0, nt 0, nt 0, nt 0, nt 0, nt 0, nt 0, nt 0, nt 0]) (m := ([] : List Trk).length) (k := ts.length) (.tmp 25) (.tmp 26) (.slice (some ⟨b17, 0, none⟩) 0 0) (.slice A ts.length cap) (some 27) (by kernel_rfl) (by kernel_rfl) (by kernel_rfl) (by kernel_rfl) (by kernel_rfl) (by kernel_rfl) (by kernel_rfl) (SlT.slr (slt_blk (xs := ([] : List Trk)) (f := Trk.cells) (sz := 18) hb17 Trk.len rfl)) hy19 (fun u hu => by obtain ⟨z, _, hz⟩ := List.mem_flatMap.1 hu; exact Trk.one z u hz) (by first | omega | ((repeat first | rw [List.length_append] | rw [List.length_cons] | rw [List.length_nil] | rw [List.length_take] | rw [List.length_drop]) <;> omega)) (by omega) (by first | omega | ((repeat first | rw [List.length_append] | rw [List.length_cons] | rw [List.length_nil] | rw [List.length_take] | rw [List.length_drop]) <;> omega)) (by omega) ?_
 intro vv9 w19 hap
 obtain ⟨A19, cap19, rfl, hA19, hk19, own19x⟩ := app_many (f := Trk.cells) (xs := ([] : List Trk)) (ys := ts) (A := (some ⟨b17, 0, none⟩)) (cap := 0) hap hl19 Trk.len
 replace hk19 : Keep (only b17) w17 w19 := hk19.mono (fun i _ h => inA_some h)
 have own19 : ∀ q, inA A19 q → w.heap.size ≤ q := fun q hq => by rcases own19x q hq with h | h; (have h9 := inA_some h; show w.heap.size ≤ q; omega); (show w.heap.size ≤ q; omega)
 rw [List.nil_append] at hA19
 have hsz20 := Keep.size hk19
 replace hA := SlT.keep hA hk19 (fun q hq hs => by have hs : q = b17 := hs; have g1 := hAlt q hq; omega)
 replace hK0 := Keep.fresh hK0 hk19 (by intro i hi hs; first | exact hs | exact Or.inl hs | exact Or.inr hs | (exfalso; have hs2 : i = b17 := hs; omega))
 have lt19 := SlT.lt hA19
 have hcap19 := SlT.cap_le hA19
 refine Os 4 [(28, .agg #[.slice A19 ts.length cap19, .slice none 0 0])] ?_
 refine OI_box 152 (.tmp 28) (.agg #[.slice A19 ts.length cap19, .slice none 0 0]) [.slice A19 ts.length cap19, .slice none 0 0] (some 29) (by kernel_rfl) (by kernel_rfl) (by kernel_rfl) ?_
 intro b21 w21 e21 hb21 k21 z21
 have hsz22 := Keep.size k21
 replace hA := SlT.keep0 hA k21
 replace hA19 := SlT.keep0 hA19 k21
 replace hK0 := Keep.tr hK0 (Keep.ofNone k21)
 have hb21lt := hb21.lt
 refine Os 7 [(2, pt b21), (3, nt 0)] ?_
 refine Oe ?_
 refine V_ret ?_
 exact X_return _ rfl ⟨_, rfl, hK0⟩
end Go.Al


namespace Go.Al
open Go Go.RowKit Go.Proofs
theorem new_ok (A : Option Addr) (cap : Nat) (fs : List Int) (w : World) (hA : ArgT w 1 intc A cap fs) (hn : fs.length ≤ 100000) (hok : okP fs) : Calls Tryz.prog 26 #[.slice A fs.length cap] w fun e w' => ∃ l F, e = .returned (.tuple #[.pointer (some ⟨l, 0, none⟩), .int .i64 0]) ∧ Led F w' l (newX fs 10) [] ∧ Keep none_ w w' ∧ (∀ q, F q → w.heap.size ≤ q) :=
  (new_spec6 A cap fs w hA hn).mono (by
    rintro e w' (⟨_, h⟩ | ⟨h, _⟩)
    · exact h
    · exact absurd hok h)
def rfF : List Int := [1000, 1000, 1000, 1000, 1000, 1000, 1000, 1000, 1000, 1000]
theorem rfF_step {i : Nat} (h : i < 10) : rfF.take (i + 1) = rfF.take i ++ [1000] := by
  have h2 : i < rfF.length := h
  rw [List.take_succ_eq_append_getElem h2]
  congr 2
  exact (by decide : ∀ x ∈ rfF, x = 1000) _ (List.getElem_mem h2)
def rfX : List Acc := newX rfF 10
theorem rfF_ok : okP rfF := by
  refine ⟨by decide, by decide, ?_⟩
  have h : tot (newX rfF 10) = 10000 := by kernel_rfl
  omega

set_option maxRecDepth 10000 in
set_option maxHeartbeats 1000000 in
theorem begin_weak (A : Option Addr) (cap : Nat) (ts : List Trk) (w : World) (hA : SlT w 18 Trk.cells A cap ts) (hok : okTs ts) : Calls Tryz.prog 15 #[.slice A ts.length cap] w fun e w' => ∃ b r g v l H F G xv yv zv, e = .returned (.pointer (some ⟨b, 0, none⟩)) ∧ Blk w' b [.pointer (some ⟨l, 0, none⟩), .pointer (some ⟨v, 0, none⟩), .pointer (some ⟨r, 0, none⟩), .pointer xv, .pointer yv, .pointer zv, .int .i64 0] 39 ∧ Rfr H w' r g ts [] ∧ VotT F w' v VS.zero ∧ Led G w' l rfX [] ∧ Keep none_ w w' ∧ w.heap.size ≤ b ∧ (∀ q, H q → w.heap.size ≤ q ∧ q ≠ b) ∧ (∀ q, F q → w.heap.size ≤ q ∧ q ≠ b) ∧ (∀ q, G q → w.heap.size ≤ q ∧ q ≠ b) ∧ (∀ q, H q → ¬ F q) ∧ (∀ q, H q → ¬ G q) ∧ (∀ q, F q → ¬ G q) := by
 have hAlt := SlT.lt hA
 have hK0 : Keep none_ w w := Keep.refl _ _
 have hzhK0 := Keep.size hK0
 refine enterV Tryz.func15 rfl [.slice A ts.length cap] 76 rfl rfl rfl ?_
 refine V_pick [(0, .slice A ts.length cap)] rfl ?_
 refine Vr ?_
 refine Os 1 [(0, .slice A ts.length cap)] ?_
 refine Oer ?_
 refine Os 1 [(0, .slice A ts.length cap), (3, .slice none 0 0)] ?_
 refine Oe ?_
 refine V_seq ?_
 refine Vr ?_
 refine Os 1 [(0, .slice A ts.length cap), (3, .slice none 0 0), (4, nt 0)] ?_
 refine Oe ?_
 refine V_block ?_
 refine V_pick [(0, .slice A ts.length cap), (3, .slice none 0 0), (4, nt 0)] rfl ?_
 refine V_loop (fun k wI e => ∃ i : Nat, ∃ A2 : Option Addr, ∃ cap2 : Nat, ∃ ms : List Int, (k + i = 10) ∧ (i ≤ 10) ∧ (ms = rfF.take i) ∧ (SlT wI 1 intc A2 cap2 ms) ∧ (∀ q, inA A2 q → w.heap.size ≤ q) ∧ Keep none_ w wI ∧ e = [(0, .slice A ts.length cap), (3, .slice A2 ms.length cap2), (4, nt ((i : Nat) : Int))]) 10 ⟨0, none, 0, [], by omega, by omega, rfl, SlT.nil _ _ _, fun q h => (inA_none h).elim, Keep.refl _ _, rfl⟩ ?_
 rintro k2 w1 _ ⟨i, A2, cap2, ms, hki, hi10, hms, hA2, ow2, hk3, rfl⟩
 have hsz4 := Keep.size hk3
 replace hA := SlT.keep0 hA hk3
 replace hK0 := Keep.tr hK0 (Keep.ofNone hk3)
 have hzhk3 := Keep.size hk3
 have lt2 := SlT.lt hA2
 have hml : ms.length = i := by rw [hms, List.length_take]; show min i 10 = i; omega
 refine V_seq ?_
 refine Vr ?_
 refine Os 2 [(0, .slice A ts.length cap), (3, .slice A2 ms.length cap2), (4, nt ((i : Nat) : Int)), (15, .bool (decide (((i : Nat) : Int) < 10)))] ?_
 refine Oe ?_
 refine V_if (((i : Nat) : Int) < 10) (by kernel_rfl) (fun hc5 => ?_) (fun hc5 => ?_)
 ·
  refine V_skip ?_
  refine X_then ?_
  refine V_seq ?_
  refine V_block ?_
  refine V_region ?_
  refine Os 1 [(0, .slice A ts.length cap), (4, nt ((i : Nat) : Int)), (18, .slice A2 ms.length cap2)] ?_
  refine OI_slit (E := 3) (zv := nt 0) (sz := 1) (by_ := 8) 72 1 #[(0, (Operand.const (Value.int IntKind.i64 1000)))] [nt 1000] [nt 1000] (some 19) (by kernel_rfl) (by kernel_rfl) (by kernel_rfl) (by omega) rfl (by omega) (by intro v hv; simp only [List.mem_cons, List.not_mem_nil, or_false] at hv; rcases hv with rfl <;> rfl) (by kernel_rfl) rfl ?_
  intro b6 w6 e6 hb6 k6 z6
  have hsz7 := Keep.size k6
  replace hA := SlT.keep0 hA k6
  replace hA2 := SlT.keep0 hA2 k6
  replace hK0 := Keep.tr hK0 (Keep.ofNone k6)
  replace hk3 := Keep.tr hk3 (Keep.ofNone k6)
  have hb6lt := hb6.lt
  refine OI_append (t := 72) (at2 := 72) (E := 3) (E2 := 3) (sz := 1) (by_ := 8) (zv := nt 0) (m := ms.length) (k := 1) (.tmp 18) (.tmp 19) (.slice A2 ms.length cap2) (.slice (some ⟨b6, 0, none⟩) 1 1) (some 20) (by kernel_rfl) (by kernel_rfl) (by kernel_rfl) (by kernel_rfl) (by kernel_rfl) (by kernel_rfl) (by kernel_rfl) (SlT.slr hA2) (slr_one hb6 (intc_len 1000)) (intc_one 1000) (by first | omega | (simp only [List.length_nil]; omega)) (by omega) (by first | omega | (simp only [List.length_nil]; omega)) (by omega) ?_
  intro vv9 w8 hap
  obtain ⟨A8, cap8, rfl, hA8, hk8, own8x⟩ := app_one (f := intc) (xs := ms) (x := 1000) (A := A2) (cap := cap2) hap (fun x _ => intc_len x) (intc_len _)
  have own8 : ∀ q, inA A8 q → w.heap.size ≤ q := fun q hq => by rcases own8x q hq with h | h; exact ow2 q h; (show w.heap.size ≤ q; omega)
  have hsz9 := Keep.size hk8
  replace hA := SlT.keep hA hk8 (fun q hq hs => by have g1 := hAlt q hq; have h1 := ow2 q hs; have h2 := lt2 q hs; omega)
  replace hK0 := Keep.fresh hK0 hk8 (by intro i hi hs; first | exact hs | (exfalso; have h1 := ow2 i hs; have h2 := lt2 i hs; omega) | (have h1 := ow2 i hs; have h2 := lt2 i hs; show _ ∨ _; omega))
  replace hk3 := Keep.fresh hk3 hk8 (by intro i hi hs; first | exact hs | (exfalso; have h1 := ow2 i hs; have h2 := lt2 i hs; omega) | (have h1 := ow2 i hs; have h2 := lt2 i hs; show _ ∨ _; omega))
  have lt8 := SlT.lt hA8
  refine Os 4 [(0, .slice A ts.length cap), (3, .slice A8 ((ms ++ [1000]).length) cap8), (4, nt ((i : Nat) : Int))] ?_
  refine OI_end rfl ?_
  refine X_block ?_
  refine X_then ?_
  refine V_region ?_
  have hw10 : IntKind.i64.wrap (((i : Nat) : Int) + 1) = ((i + 1 : Nat) : Int) := (wrap64_id (by omega) (by omega)).trans (by omega)
  refine Os 2 [(0, .slice A ts.length cap), (3, .slice A8 ((ms ++ [1000]).length) cap8), (17, nt (IntKind.i64.wrap (((i : Nat) : Int) + 1)))] ?_
  refine OI_eq [(0, .slice A ts.length cap), (3, .slice A8 ((ms ++ [1000]).length) cap8), (17, nt ((i + 1 : Nat) : Int))] (by rw [hw10]) ?_
  refine Os 3 [(0, .slice A ts.length cap), (3, .slice A8 ((ms ++ [1000]).length) cap8), (4, nt ((i + 1 : Nat) : Int))] ?_
  refine OI_end rfl ?_
  exact V_again (k2 - 1) (by omega) [(0, .slice A ts.length cap), (3, .slice A8 ((ms ++ [1000]).length) cap8), (4, nt ((i + 1 : Nat) : Int))] rfl ⟨i + 1, A8, cap8, ms ++ [1000], by omega, by omega, by rw [rfF_step (by omega), ← hms], hA8, own8, hk3, rfl⟩
 refine V_exit ?_
 refine X_exit_then ?_
 refine X_exit_then ?_
 refine X_exit_here ?_
 refine X_then ?_
 refine Vr ?_
 refine Os 1 [(0, .slice A ts.length cap), (3, .slice A2 ms.length cap2), (22, .slice A2 ms.length cap2)] ?_
 have hie : i = 10 := by omega
 replace hms : ms = rfF := by rw [hms, hie]; rfl
 refine Ok { callee := (Callee.value (Operand.func 26)), args := #[(Operand.tmp 22)], argTypes := #[72] } 26 #[.slice A2 ms.length cap2] (some 23) (new_ok A2 cap2 ms _ (SlT.arg hA2) (by omega) (by rw [hms]; exact rfF_ok)) ?_
 rintro _ w11 ⟨l13, F14, rfl, ho15, hk12, hge16⟩
 refine ⟨_, rfl, ?_⟩
 have hsz17 := Keep.size hk12
 replace hA := SlT.keep0 hA hk12
 replace hA2 := SlT.keep0 hA2 hk12
 replace hK0 := Keep.tr hK0 (Keep.ofNone hk12)
 replace ho15 : Led F14 w11 l13 rfX [] := by rw [hms] at ho15; exact ho15
 have own18 : ∀ q, F14 q → w1.heap.size ≤ q := fun q hq => by have h1 := hge16 q hq; omega
 have lt19 := Led.lt ho15
 have dis20 : ∀ q, F14 q → ¬ inA A q := fun q h1 h2 => by have h3 := hge16 q h1; have h4 := hAlt q h2; omega
 have dis21 : ∀ q, F14 q → ¬ inA A2 q := fun q h1 h2 => by have h3 := hge16 q h1; have h4 := lt2 q h2; omega
 have hl13lt : l13 < w11.heap.size := Led.lt ho15 _ (Led.at_ ho15)
 have hl13ge := hge16 _ (Led.at_ ho15)
 refine Os 7 [(0, .slice A ts.length cap), (3, .slice A2 ms.length cap2), (5, pt l13), (6, nt 0)] ?_
 refine Oer ?_
 refine Os 1 [(0, .slice A ts.length cap), (5, pt l13), (6, nt 0), (27, .slice A2 ms.length cap2)] ?_
 refine Ok { callee := (Callee.value (Operand.func 39)), args := #[(Operand.tmp 27)], argTypes := #[72] } 39 #[.slice A2 ms.length cap2] (some 28) (rnew6_weak A2 cap2 ms _ (SlT.arg hA2) (by omega)) ?_
 rintro _ w22 ⟨pv24, n25, rfl, hk23⟩
 refine ⟨_, rfl, ?_⟩
 have hsz26 := Keep.size hk23
 replace hA := SlT.keep0 hA hk23
 replace hA2 := SlT.keep0 hA2 hk23
 replace hK0 := Keep.tr hK0 (Keep.ofNone hk23)
 replace ho15 := Led.keep ho15 hk23 (fun _ _ f => f)
 refine Os 7 [(0, .slice A ts.length cap), (5, pt l13), (6, nt 0), (7, .pointer pv24)] ?_
 refine Oer ?_
 refine Os 1 [(0, .slice A ts.length cap), (5, pt l13), (6, nt 0), (7, .pointer pv24), (32, .slice A ts.length cap)] ?_
 refine Ok { callee := (Callee.value (Operand.func 35)), args := #[(Operand.tmp 32)], argTypes := #[29] } 35 #[.slice A ts.length cap] (some 33) (rnw_spec A cap ts _ hA hok) ?_
 rintro _ w27 ⟨r29, gg33, H30, rfl, hR31, hk28, hge32⟩
 refine ⟨_, rfl, ?_⟩
 have hsz34 := Keep.size hk28
 replace hA := SlT.keep0 hA hk28
 replace hA2 := SlT.keep0 hA2 hk28
 replace hK0 := Keep.tr hK0 (Keep.ofNone hk28)
 replace ho15 := Led.keep ho15 hk28 (fun _ _ f => f)
 have own35 : ∀ q, H30 q → w22.heap.size ≤ q := fun q hq => by have h1 := hge32 q hq; omega
 have lt36 := Rfr.lt hR31
 have dis37 : ∀ q, H30 q → ¬ inA A q := fun q h1 h2 => by have h3 := hge32 q h1; have h4 := hAlt q h2; omega
 have dis38 : ∀ q, H30 q → ¬ inA A2 q := fun q h1 h2 => by have h3 := hge32 q h1; have h4 := lt2 q h2; omega
 have dis39 : ∀ q, H30 q → ¬ F14 q := fun q h1 h2 => by have h3 := hge32 q h1; have h4 := lt19 q h2; omega
 have hr29lt : r29 < w27.heap.size := Rfr.lt hR31 _ (Rfr.at_ hR31)
 have hr29ge := hge32 _ (Rfr.at_ hR31)
 refine Os 7 [(0, .slice A ts.length cap), (5, pt l13), (6, nt 0), (7, .pointer pv24), (9, pt r29), (10, nt 0)] ?_
 refine Oer ?_
 refine Os 1 [(5, pt l13), (6, nt 0), (7, .pointer pv24), (9, pt r29), (10, nt 0), (37, .slice A ts.length cap)] ?_
 refine Ok { callee := (Callee.value (Operand.func 34)), args := #[(Operand.tmp 37)], argTypes := #[29] } 34 #[.slice A ts.length cap] (some 38) (rnew12_weak A cap ts _ hA hok) ?_
 rintro _ w40 ⟨pv42, rfl, hk41⟩
 refine ⟨_, rfl, ?_⟩
 have hsz43 := Keep.size hk41
 replace hA := SlT.keep0 hA hk41
 replace hA2 := SlT.keep0 hA2 hk41
 replace hK0 := Keep.tr hK0 (Keep.ofNone hk41)
 replace ho15 := Led.keep ho15 hk41 (fun _ _ f => f)
 replace hR31 := Rfr.keep hR31 hk41 (fun _ _ f => f)
 refine Os 7 [(5, pt l13), (6, nt 0), (7, .pointer pv24), (9, pt r29), (10, nt 0), (11, .pointer pv42), (12, nt 0)] ?_
 refine Oer ?_
 refine Os 1 [(5, pt l13), (6, nt 0), (7, .pointer pv24), (9, pt r29), (10, nt 0), (11, .pointer pv42), (12, nt 0), (41, pt l13)] ?_
 refine Ok { callee := (Callee.value (Operand.func 27)), args := #[], argTypes := #[] } 27 #[] (some 42) (new_votT _) ?_
 rintro _ w46 ⟨g48, F49, rfl, ho50, hk47, hge51⟩
 refine ⟨_, rfl, ?_⟩
 have hsz52 := Keep.size hk47
 replace hA := SlT.keep0 hA hk47
 replace hA2 := SlT.keep0 hA2 hk47
 replace hK0 := Keep.tr hK0 (Keep.ofNone hk47)
 replace ho15 := Led.keep ho15 hk47 (fun _ _ f => f)
 replace hR31 := Rfr.keep hR31 hk47 (fun _ _ f => f)
 have own53 : ∀ q, F49 q → w40.heap.size ≤ q := fun q hq => by have h1 := hge51 q hq; omega
 have lt54 := VotT.lt ho50
 have dis55 : ∀ q, F49 q → ¬ inA A q := fun q h1 h2 => by have h3 := hge51 q h1; have h4 := hAlt q h2; omega
 have dis56 : ∀ q, F49 q → ¬ inA A2 q := fun q h1 h2 => by have h3 := hge51 q h1; have h4 := lt2 q h2; omega
 have dis57 : ∀ q, F49 q → ¬ F14 q := fun q h1 h2 => by have h3 := hge51 q h1; have h4 := lt19 q h2; omega
 have dis58 : ∀ q, F49 q → ¬ H30 q := fun q h1 h2 => by have h3 := hge51 q h1; have h4 := lt36 q h2; omega
 have hg48lt : g48 < w46.heap.size := VotT.lt ho50 _ (VotT.at_ ho50)
 have hg48ge := hge51 _ (VotT.at_ ho50)
 refine Os 4 [(5, pt l13), (6, nt 0), (9, pt r29), (10, nt 0), (11, .pointer pv42), (12, nt 0), (41, pt l13), (42, pt g48), (43, pt r29), (44, .pointer pv24)] ?_
 refine Ok { callee := (Callee.value (Operand.func 40)), args := #[], argTypes := #[] } 40 #[] (some 45) (rnew11_weak _) ?_
 rintro _ w59 ⟨pv61, rfl, hk60⟩
 refine ⟨_, rfl, ?_⟩
 have hsz62 := Keep.size hk60
 replace hA := SlT.keep0 hA hk60
 replace hA2 := SlT.keep0 hA2 hk60
 replace hK0 := Keep.tr hK0 (Keep.ofNone hk60)
 replace ho15 := Led.keep ho15 hk60 (fun _ _ f => f)
 replace hR31 := Rfr.keep hR31 hk60 (fun _ _ f => f)
 replace ho50 := VotT.keep ho50 hk60 (fun _ _ f => f)
 refine Os 7 [(5, pt l13), (6, nt 0), (9, pt r29), (10, nt 0), (12, nt 0), (47, .agg #[pt l13, pt g48, pt r29, .pointer pv24, .pointer pv61, .pointer pv42, nt 0])] ?_
 refine OI_box 39 (.tmp 47) (.agg #[pt l13, pt g48, pt r29, .pointer pv24, .pointer pv61, .pointer pv42, nt 0]) [pt l13, pt g48, pt r29, .pointer pv24, .pointer pv61, .pointer pv42, nt 0] (some 48) (by kernel_rfl) (by kernel_rfl) (by kernel_rfl) ?_
 intro b63 w63 e63 hb63 k63 z63
 have hsz64 := Keep.size k63
 replace hA := SlT.keep0 hA k63
 replace hA2 := SlT.keep0 hA2 k63
 replace hK0 := Keep.tr hK0 (Keep.ofNone k63)
 replace ho15 := Led.keep ho15 k63 (fun _ _ f => f)
 replace hR31 := Rfr.keep hR31 k63 (fun _ _ f => f)
 replace ho50 := VotT.keep ho50 k63 (fun _ _ f => f)
 have hb63lt := hb63.lt
 refine Os 9 [(5, pt l13), (6, nt 0), (9, pt r29), (10, nt 0), (12, nt 0), (13, pt b63)] ?_
 refine Oe ?_
 refine V_seq ?_
 refine Vr ?_
 refine Os 10 [(9, pt r29), (10, nt 0), (12, nt 0), (13, pt b63), (55, .bool false), (58, .pointer (some ⟨b63, 1, none⟩))] ?_
 refine Oc 33 (.tmp 58) 1 (pt g48) (some 59) hb63 rfl ?_
 refine Os 26 [(13, pt b63), (74, .bool false)] ?_
 refine Oe ?_
 refine V_false rfl ?_
 refine V_skip ?_
 refine X_then ?_
 refine Vr ?_
 refine Os 2 [(2, pt b63)] ?_
 refine Oe ?_
 refine V_ret ?_
 exact X_return _ rfl ⟨b63, r29, gg33, g48, l13, H30, F49, F14, pv24, pv61, pv42, rfl, hb63, hR31, ho50, ho15, hK0, by omega, (fun q hq => ⟨by have h1 := own35 q hq; omega, by have h1 := lt36 q hq; omega⟩), (fun q hq => ⟨by have h1 := own53 q hq; omega, by have h1 := lt54 q hq; omega⟩), (fun q hq => ⟨by have h1 := own18 q hq; omega, by have h1 := lt19 q hq; omega⟩), (fun q h1 h2 => dis58 q h2 h1), dis39, dis57⟩
end Go.Al


namespace Go.Al
open Go Go.RowKit Go.Proofs
set_option maxRecDepth 10000 in
theorem rall_spec (H : Nat → Prop) (r g : Nat) (ts : List Trk) (rs : List Rfm) (w : World) (hR : Rfr H w r g ts rs) : Calls Tryz.prog 20 #[.pointer (some ⟨r, 0, none⟩)] w fun e w' => ∃ Ak capk, e = .returned (.tuple #[.slice Ak rs.length capk, .bool true]) ∧ SlT w' 45 Rfm.cells Ak capk rs ∧ (∀ q, inA Ak q → w.heap.size ≤ q) ∧ Keep none_ w w' := by
 have hHlt := Rfr.lt hR
 have hrH := Rfr.at_ hR
 have hgH := Rfr.atg hR
 have hrlt := hHlt _ hrH
 have hglt := hHlt _ hgH
 have hin := Rfr.inn hR
 obtain ⟨A, cap, hr, hA, hAo, hrg⟩ := Rfr.parts hR
 have hAlt := SlT.lt hA
 have hAr : ∀ q, inA A q → q ≠ r ∧ q ≠ g ∧ q < w.heap.size := fun q hq => ⟨(hAo q hq).2.1, (hAo q hq).2.2, hAlt q hq⟩
 have hgo : ∀ q, only g q → q ≠ r ∧ q = g := fun q hq => ⟨fun e => hrg (e.symm.trans hq), hq⟩
 have hgl : ∀ q, only g q → q < w.heap.size := fun q hq => by rw [show q = g from hq]; exact hglt
 have hHo : ∀ q, H q → 0 ≤ q := fun q _ => Nat.zero_le q
 have htl := hin.tl
 have hrl := hin.rl
 have hK0 : Keep none_ w w := Keep.refl _ _
 have hzhK0 := Keep.size hK0
 refine enterM Tryz.func20 rfl [pt r] 28 rfl rfl rfl ?_
 refine V_pick [(0, pt r)] rfl ?_
 refine Vr ?_
 refine OI_alloc 45 (.slice none 0 0) [.slice none 0 0] (some 2) (by kernel_rfl) (by kernel_rfl) (by kernel_rfl) ?_
 intro b1 w1 e1 hb1 k1 z1
 have hsz2 := Keep.size k1
 replace hr := hr.keep k1 (fun f => f)
 replace hA := SlT.keep0 hA k1
 replace hR := Rfr.keep hR k1 (fun _ _ f => f)
 replace hK0 := Keep.tr hK0 (Keep.ofNone k1)
 have hb1lt := hb1.lt
 refine OI_alloc 4 (.bool false) [.bool false] (some 3) (by kernel_rfl) (by kernel_rfl) (by kernel_rfl) ?_
 intro b3 w3 e3 hb3 k3 z3
 have hsz4 := Keep.size k3
 replace hr := hr.keep k3 (fun f => f)
 replace hb1 := hb1.keep k3 (fun f => f)
 replace hA := SlT.keep0 hA k3
 replace hR := Rfr.keep hR k3 (fun _ _ f => f)
 replace hK0 := Keep.tr hK0 (Keep.ofNone k3)
 have hb3lt := hb3.lt
 refine Oer ?_
 refine Os 1 [(2, pt b1), (3, pt b3), (8, pt r)] ?_
 refine Ok { callee := (Callee.value (Operand.func 48)), args := #[(Operand.tmp 8)], argTypes := #[34] } 48 #[pt r] (some 9) (all_at r g _ _ _ _ hr) ?_
 rintro _ w5 ⟨bg7, bs8, bn9, rfl, hbg7, hbs8, hbn9, hk6, hgebg7, hgebs8, hgebn9⟩
 refine ⟨_, rfl, ?_⟩
 have hsz10 := Keep.size hk6
 replace hr := hr.keep hk6 (fun f => f)
 replace hb1 := hb1.keep hk6 (fun f => f)
 replace hb3 := hb3.keep hk6 (fun f => f)
 replace hA := SlT.keep0 hA hk6
 replace hR := Rfr.keep hR hk6 (fun _ _ f => f)
 replace hK0 := Keep.tr hK0 (Keep.ofNone hk6)
 have hbg7lt := hbg7.lt
 have hbs8lt := hbs8.lt
 have hbn9lt := hbn9.lt
 refine Os 3 [(2, pt b1), (3, pt b3), (4, .func (.func 183) #[] #[pt bg7, pt bs8, pt bn9])] ?_
 refine Oe ?_
 refine V_seq ?_
 refine Vr ?_
 refine Os 2 [(2, pt b1), (3, pt b3), (4, .func (.func 183) #[] #[pt bg7, pt bs8, pt bn9]), (11, .bool false)] ?_
 refine Oe ?_
 refine V_false rfl ?_
 refine V_skip ?_
 refine X_then ?_
 refine Vr ?_
 refine OI_alloc 45 (.slice none 0 0) [.slice none 0 0] (some 5) (by kernel_rfl) (by kernel_rfl) (by kernel_rfl) ?_
 intro b11 w11 e11 hb11 k11 z11
 have hsz12 := Keep.size k11
 replace hr := hr.keep k11 (fun f => f)
 replace hb1 := hb1.keep k11 (fun f => f)
 replace hb3 := hb3.keep k11 (fun f => f)
 replace hbg7 := hbg7.keep k11 (fun f => f)
 replace hbs8 := hbs8.keep k11 (fun f => f)
 replace hbn9 := hbn9.keep k11 (fun f => f)
 replace hA := SlT.keep0 hA k11
 replace hR := Rfr.keep hR k11 (fun _ _ f => f)
 replace hK0 := Keep.tr hK0 (Keep.ofNone k11)
 have hb11lt := hb11.lt
 refine Oe ?_
 refine V_seq ?_
 refine Vr ?_
 refine Os 1 [(2, pt b1), (3, pt b3), (5, pt b11), (12, .func (.func 183) #[] #[pt bg7, pt bs8, pt bn9])] ?_
 refine Oe ?_
 refine V_block ?_
 obtain ⟨D, hD9, hDH⟩ := Rfr.grqF hR
 obtain ⟨_, _, _, _, A2, cap2, hat2, hAD2⟩ := hD9
 have hA2 := hat2.sl
 have owA2 : ∀ q, inA A2 q → q < w.heap.size := fun q hq => hHlt q (hDH q (hAD2 q hq))
 refine V_pick [(2, pt b1), (3, pt b3), (5, pt b11), (12, .func (.func 183) #[] #[pt bg7, pt bs8, pt bn9])] rfl ?_
 have hN0 : w.heap.size ≤ w11.heap.size := Keep.size hK0
 refine V_range2 (gf := 183) (caps := #[pt bg7, pt bs8, pt bn9]) (m := rs.length) (by kernel_rfl) (by kernel_rfl) (by kernel_rfl) (alongQ bg7 bs8 bn9 g cap2 A2 rs (by omega)) (⟨hbg7, hat2, ⟨hbs8, hbn9, hA2⟩⟩) (fun W W' h k => ⟨h.1.quiet k, h.2.1.quiet k, h.2.2.quiet k⟩) (GQ.enc2_size _) (fun M1 k W => ∃ Ak : Option Addr, ∃ capk : Nat, (Blk W r [.slice A ts.length cap, pt g] 97) ∧ (Blk W b1 [.slice none 0 0] 45) ∧ (Blk W b3 [.bool false] 4) ∧ (Blk W bs8 [nt 0] 3) ∧ (Blk W bn9 [nt 0] 3) ∧ (SlT W 47 GQ.Ci.cells A2 cap2 (cellsQ 0 rs)) ∧ (Keep none_ w W) ∧ (Blk W b11 [.slice Ak ((rs.take k).length) capk] 45) ∧ (SlT W 45 Rfm.cells Ak capk (rs.take k)) ∧ (∀ q, inA Ak q → M1 ≤ q)) (fun M1 c k W => False) (fun M1 k W W' h hk => by obtain ⟨Ak, capk, jr, jb1, jb3, jbs8, jbn9, jA2, jhK0, jb11, jAk, ownk⟩ := h; exact ⟨Ak, capk, jr.quiet hk, jb1.quiet hk, jb3.quiet hk, jbs8.quiet hk, jbn9.quiet hk, jA2.quiet hk, jhK0.quiet hk (by omega), jb11.quiet hk, jAk.quiet hk, ownk⟩) (fun _ _ _ _ _ h _ => h.elim) (fun M1 hM1 => ⟨none, 0, hr, hb1, hb3, hbs8, hbn9, hA2, hK0, hb11, SlT.nil _ _ _, fun q h => (inA_none h).elim⟩) (fun M1 k W h => by obtain ⟨Ak, capk, jr, jb1, jb3, jbs8, jbn9, jA2, jhK0, jb11, jAk, ownk⟩ := h; exact ⟨jbs8, jbn9, jA2⟩) ?_ ?_ (fun _ _ _ _ _ _ _ _ h _ => h.elim)
 ·
  intro lp D M1 k W hD hl hM hMW hkm ⟨Ak, capk, jr, jb1, jb3, jbs8, jbn9, jA2, jhK0, jb11, jAk, ownk⟩ ⟨rr, hrr⟩ hDD
  have hzjhK0 := Keep.size jhK0
  have hrlt := jr.lt
  have hb1lt := jb1.lt
  have hb3lt := jb3.lt
  have hbs8lt := jbs8.lt
  have hbn9lt := jbn9.lt
  have hb11lt := jb11.lt
  have ltjA2 := SlT.lt jA2
  have ltjAk := SlT.lt jAk
  obtain ⟨x, hx⟩ : ∃ x, rs[k]? = some x := ⟨_, List.getElem?_eq_getElem (by omega)⟩
  rw [GQ.enc2_at (zipQ_at0 hx)]
  have hlk : (rs.take k).length = k := by rw [List.length_take]; omega
  have hs1 : rs.take (k + 1) = rs.take k ++ [x] := by obtain ⟨h1, h2⟩ := List.getElem?_eq_some_iff.1 hx; rw [List.take_succ_eq_append_getElem h1, h2]
  refine V_pick [(2, pt b1), (3, pt b3), (5, pt b11), (13, nt ((k : Nat) : Int)), (14, .agg (Rfm.cells x).toArray)] rfl ?_
  have hfen : Keep (fen w11.heap.size M1) W W := Keep.refl _ _
  have hzhfen := Keep.size hfen
  refine Vr ?_
  refine Os 1 [(2, pt b1), (3, pt b3), (5, pt b11), (6, nt ((k : Nat) : Int)), (14, .agg (Rfm.cells x).toArray)] ?_
  refine Oe ?_
  refine V_region ?_
  refine OI_alloc 57 (.agg (Rfm.cells Rfm.zero).toArray) (Rfm.cells Rfm.zero) (some 7) (by kernel_rfl) (by kernel_rfl) (by kernel_rfl) ?_
  intro b13 w13 e13 hb13 k13 z13
  have hsz14 := Keep.size k13
  replace jr := jr.keep k13 (fun f => f)
  replace jb1 := jb1.keep k13 (fun f => f)
  replace jb3 := jb3.keep k13 (fun f => f)
  replace jbs8 := jbs8.keep k13 (fun f => f)
  replace jbn9 := jbn9.keep k13 (fun f => f)
  replace jb11 := jb11.keep k13 (fun f => f)
  replace jA2 := SlT.keep0 jA2 k13
  replace jAk := SlT.keep0 jAk k13
  replace jhK0 := Keep.tr jhK0 (Keep.ofNone k13)
  replace hfen := Keep.tr hfen (Keep.ofNone k13)
  have hb13lt := hb13.lt
  refine OI_set (m := 45) (kd := true) 57 (.tmp 7) (.tmp 14) 0 (.agg (Rfm.cells x).toArray) (Rfm.cells x) none (by kernel_rfl) (by kernel_rfl) (by kernel_rfl) hb13 (by kernel_rfl) rfl (Rfm.len _) (Nat.le_of_ble_eq_true (by kernel_rfl)) (Rfm.one _) ?_
  intro w15 hb13_18 hk16 hz17
  replace hb13_18 : Blk w15 b13 (Rfm.cells x) 57 := (Blk.eqL (Rfm.over _ _) hb13_18)
  have hsz19 := Keep.size hk16
  replace jr := jr.keep hk16 (by show ¬ (_ = _); omega)
  replace jb1 := jb1.keep hk16 (by show ¬ (_ = _); omega)
  replace jb3 := jb3.keep hk16 (by show ¬ (_ = _); omega)
  replace jbs8 := jbs8.keep hk16 (by show ¬ (_ = _); omega)
  replace jbn9 := jbn9.keep hk16 (by show ¬ (_ = _); omega)
  replace jb11 := jb11.keep hk16 (by show ¬ (_ = _); omega)
  replace jA2 := SlT.keep jA2 hk16 (fun q hq hs => by have hs : q = b13 := hs; have g0 := owA2 q hq; have g1 := ltjA2 q hq; omega)
  replace jAk := SlT.keep jAk hk16 (fun q hq hs => by have hs : q = b13 := hs; have g0 := ownk q hq; have g1 := ltjAk q hq; omega)
  replace jhK0 := Keep.fresh jhK0 hk16 (by intro i hi hs; first | exact hs | exact Or.inl hs | exact Or.inr hs | (exfalso; have hs2 : i = b13 := hs; omega))
  replace hfen := Keep.fresh hfen hk16 (by intro i hi hs; have hs2 : i = b13 := hs; show _ ∨ _; omega)
  refine OI_end rfl ?_
  refine X_begin2 hfen ?_
  intro W2 hk2 ⟨r2, hr2⟩ hD2
  have hsz20 := Keep.size hk2
  replace jr := Blk.quiet jr hk2
  replace jb1 := Blk.quiet jb1 hk2
  replace jb3 := Blk.quiet jb3 hk2
  replace jbs8 := Blk.quiet jbs8 hk2
  replace jbn9 := Blk.quiet jbn9 hk2
  replace jb11 := Blk.quiet jb11 hk2
  replace hb13_18 := Blk.quiet hb13_18 hk2
  replace jA2 := SlT.quiet jA2 hk2
  replace jAk := SlT.quiet jAk hk2
  replace jhK0 := Keep.quiet jhK0 hk2 (by omega)
  have hzhk2 := Keep.size hk2
  have hfenb : Keep (fen w11.heap.size M1) W2 W2 := Keep.refl _ _
  have hzhfenb := Keep.size hfenb
  refine V_block ?_
  refine V_seq ?_
  refine Vr ?_
  refine Os 1 [(2, pt b1), (3, pt b3), (5, pt b11), (6, nt ((k : Nat) : Int)), (7, pt b13), (15, nt ((k : Nat) : Int))] ?_
  refine Oc 45 (.tmp 5) 0 (.slice Ak ((rs.take k).length) capk) (some 16) jb11 rfl ?_
  refine Os 5 [(2, pt b1), (3, pt b3), (5, pt b11), (6, nt ((k : Nat) : Int)), (7, pt b13), (19, .bool (!(decide (((k : Nat) : Int) = (((rs.take k).length : Nat) : Int)))))] ?_
  refine OI_eq [(2, pt b1), (3, pt b3), (5, pt b11), (6, nt ((k : Nat) : Int)), (7, pt b13), (19, .bool false)] (by rw [decide_eq_true (show (((k : Nat) : Int)) = _ by rw [hlk])]; rfl) ?_
  refine Os 8 [(2, pt b1), (3, pt b3), (5, pt b11), (7, pt b13), (22, .bool (decide (((k : Nat) : Int) > 100)))] ?_
  refine Oe ?_
  refine V_if (((k : Nat) : Int) > 100) (by kernel_rfl) (fun hc22 => ?_) (fun hc22 => ?_)
  ·
   exact (by omega : False).elim
  refine V_skip ?_
  refine X_then ?_
  refine V_region ?_
  refine Oc 45 (.tmp 5) 0 (.slice Ak ((rs.take k).length) capk) (some 23) jb11 rfl ?_
  refine Oa 57 (.tmp 7) 0 (Rfm.cells x) (some 24) 45 hb13_18 (take_all (Rfm.len _)) (Rfm.len _) ?_
  refine OI_slit (E := 57) (zv := .agg #[nt 0, nt 0, .int .u8 0, .int .u8 0, .int .u8 0, .int .u8 0, .int .u8 0, .int .u8 0, .int .u8 0, .int .u8 0, .int .u8 0, .int .u8 0, .int .u8 0, .int .u8 0, .int .u8 0, .int .u8 0, .int .u8 0, .int .u8 0, .int .u8 0, .int .u8 0, .int .u8 0, .int .u8 0, .int .u8 0, .int .u8 0, .int .u8 0, .int .u8 0, .int .u8 0, .int .u8 0, .int .u8 0, .int .u8 0, .int .u8 0, .int .u8 0, .int .u8 0, .int .u8 0, nt 0, nt 0, nt 0, .bool false, nt 0, nt 0, nt 0, nt 0, nt 0, nt 0, nt 0]) (sz := 45) (by_ := 136) 45 1 #[(0, (Operand.tmp 24))] [.agg (Rfm.cells x).toArray] (Rfm.cells x) (some 25) (by kernel_rfl) (by kernel_rfl) (by kernel_rfl) (by omega) rfl (by omega) (by intro v hv; obtain rfl := List.mem_singleton.1 hv; show (Rfm.cells x).toArray.size = 45; simp [Rfm.len]) (by kernel_rfl) (by show (Rfm.cells x).toArray.toList ++ [] = _; simp) ?_
  intro b23 w23 e23 hb23 k23 z23
  have hsz24 := Keep.size k23
  replace jr := jr.keep k23 (fun f => f)
  replace jb1 := jb1.keep k23 (fun f => f)
  replace jb3 := jb3.keep k23 (fun f => f)
  replace jbs8 := jbs8.keep k23 (fun f => f)
  replace jbn9 := jbn9.keep k23 (fun f => f)
  replace jb11 := jb11.keep k23 (fun f => f)
  replace hb13_18 := hb13_18.keep k23 (fun f => f)
  replace jA2 := SlT.keep0 jA2 k23
  replace jAk := SlT.keep0 jAk k23
  replace jhK0 := Keep.tr jhK0 (Keep.ofNone k23)
  replace hfenb := Keep.tr hfenb (Keep.ofNone k23)
  have hb23lt := hb23.lt
  refine OI_append (t := 45) (at2 := 45) (E := 57) (E2 := 57) (sz := 45) (by_ := 136) (zv := .agg #[nt 0, nt 0, .int .u8 0, .int .u8 0, .int .u8 0, .int .u8 0, .int .u8 0, .int .u8 0, .int .u8 0, .int .u8 0, .int .u8 0, .int .u8 0, .int .u8 0, .int .u8 0, .int .u8 0, .int .u8 0, .int .u8 0, .int .u8 0, .int .u8 0, .int .u8 0, .int .u8 0, .int .u8 0, .int .u8 0, .int .u8 0, .int .u8 0, .int .u8 0, .int .u8 0, .int .u8 0, .int .u8 0, .int .u8 0, .int .u8 0, .int .u8 0, .int .u8 0, .int .u8 0, nt 0, nt 0, nt 0, .bool false, nt 0, nt 0, nt 0, nt 0, nt 0, nt 0, nt 0]) (m := (rs.take k).length) (k := 1) (.tmp 23) (.tmp 25) (.slice Ak ((rs.take k).length) capk) (.slice (some ⟨b23, 0, none⟩) 1 1) (some 26) (by kernel_rfl) (by kernel_rfl) (by kernel_rfl) (by kernel_rfl) (by kernel_rfl) (by kernel_rfl) (by kernel_rfl) (SlT.slr jAk) (slr_one hb23 (Rfm.len x)) (Rfm.one x) (by first | omega | (simp only [List.length_nil]; omega)) (by omega) (by first | omega | (simp only [List.length_nil]; omega)) (by omega) ?_
  intro vv9 w25 hap
  obtain ⟨A25, cap25, rfl, hA25, hk25, own25x⟩ := app_one (f := Rfm.cells) (xs := (rs.take k)) (x := x) (A := Ak) (cap := capk) hap (fun x _ => Rfm.len x) (Rfm.len _)
  have own25 : ∀ q, inA A25 q → M1 ≤ q := fun q hq => by rcases own25x q hq with h | h; exact ownk q h; (show M1 ≤ q; omega)
  have hsz26 := Keep.size hk25
  replace jr := jr.keep hk25 (fun hs => by have h1 := ownk _ hs; have h2 := ltjAk _ hs; omega)
  replace jb1 := jb1.keep hk25 (fun hs => by have h1 := ownk _ hs; have h2 := ltjAk _ hs; omega)
  replace jb3 := jb3.keep hk25 (fun hs => by have h1 := ownk _ hs; have h2 := ltjAk _ hs; omega)
  replace jbs8 := jbs8.keep hk25 (fun hs => by have h1 := ownk _ hs; have h2 := ltjAk _ hs; omega)
  replace jbn9 := jbn9.keep hk25 (fun hs => by have h1 := ownk _ hs; have h2 := ltjAk _ hs; omega)
  replace jb11 := jb11.keep hk25 (fun hs => by have h1 := ownk _ hs; have h2 := ltjAk _ hs; omega)
  replace hb13_18 := hb13_18.keep hk25 (fun hs => by have h1 := ownk _ hs; have h2 := ltjAk _ hs; omega)
  replace jA2 := SlT.keep jA2 hk25 (fun q hq hs => by have g0 := owA2 q hq; have g1 := ltjA2 q hq; have h1 := ownk q hs; have h2 := ltjAk q hs; omega)
  replace jhK0 := Keep.fresh jhK0 hk25 (by intro i hi hs; first | exact hs | (exfalso; have h1 := ownk i hs; have h2 := ltjAk i hs; omega) | (have h1 := ownk i hs; have h2 := ltjAk i hs; show _ ∨ _; omega))
  replace hfenb := Keep.fresh hfenb hk25 (by intro i hi hs; have h1 := ownk i hs; have h2 := ltjAk i hs; show _ ∨ _; omega)
  have lt25 := SlT.lt hA25
  refine OI_set (m := 1) (kd := false) 45 (.tmp 5) (.tmp 26) 0 (.slice A25 (((rs.take k) ++ [x]).length) cap25) [.slice A25 (((rs.take k) ++ [x]).length) cap25] none (by kernel_rfl) (by kernel_rfl) (by kernel_rfl) jb11 (by kernel_rfl) (by kernel_rfl) (by kernel_rfl) (Nat.le_of_ble_eq_true (by kernel_rfl)) (by simp [Value.oneCell']) ?_
  intro w27 hb11_30 hk28 hz29
  replace hb11_30 : Blk w27 b11 [.slice A25 (((rs.take k) ++ [x]).length) cap25] 45 := hb11_30
  have hsz31 := Keep.size hk28
  replace jr := jr.keep hk28 (by show ¬ (_ = _); omega)
  replace jb1 := jb1.keep hk28 (by show ¬ (_ = _); omega)
  replace jb3 := jb3.keep hk28 (by show ¬ (_ = _); omega)
  replace jbs8 := jbs8.keep hk28 (by show ¬ (_ = _); omega)
  replace jbn9 := jbn9.keep hk28 (by show ¬ (_ = _); omega)
  replace hb13_18 := hb13_18.keep hk28 (by show ¬ (_ = _); omega)
  replace jA2 := SlT.keep jA2 hk28 (fun q hq hs => by have hs : q = b11 := hs; have g0 := owA2 q hq; have g1 := ltjA2 q hq; omega)
  replace hA25 := SlT.keep hA25 hk28 (fun q hq hs => by have hs : q = b11 := hs; have g0 := own25 q hq; have g1 := lt25 q hq; omega)
  replace jhK0 := Keep.fresh jhK0 hk28 (by intro i hi hs; first | exact hs | exact Or.inl hs | exact Or.inr hs | (exfalso; have hs2 : i = b11 := hs; omega))
  replace hfenb := Keep.fresh hfenb hk28 (by intro i hi hs; have hs2 : i = b11 := hs; show _ ∨ _; omega)
  refine OI_end rfl ?_
  refine X_block ?_
  exact fun a _ => ⟨hfenb, A25, cap25, jr, jb1, jb3, jbs8, jbn9, jA2, jhK0, by rw [hs1]; exact hb11_30, by rw [hs1]; exact hA25, own25⟩
 ·
  intro D M1 W hD hM ⟨Ak, capk, jr, jb1, jb3, jbs8, jbn9, jA2, jhK0, jb11, jAk, ownk⟩ hDD
  have hzjhK0 := Keep.size jhK0
  have hrlt := jr.lt
  have hb1lt := jb1.lt
  have hb3lt := jb3.lt
  have hbs8lt := jbs8.lt
  have hbn9lt := jbn9.lt
  have hb11lt := jb11.lt
  have ltjA2 := SlT.lt jA2
  have ltjAk := SlT.lt jAk
  rw [List.take_length] at jAk jb11
  refine X_block ?_
  refine X_then ?_
  refine Vr ?_
  refine Oc 45 (.tmp 5) 0 (.slice Ak rs.length capk) (some 27) jb11 rfl ?_
  refine OI_set (m := 1) (kd := false) 45 (.tmp 2) (.tmp 27) 0 (.slice Ak rs.length capk) [.slice Ak rs.length capk] none (by kernel_rfl) (by kernel_rfl) (by kernel_rfl) jb1 (by kernel_rfl) (by kernel_rfl) (by kernel_rfl) (Nat.le_of_ble_eq_true (by kernel_rfl)) (by simp [Value.oneCell']) ?_
  intro w32 hb1_35 hk33 hz34
  replace hb1_35 : Blk w32 b1 [.slice Ak rs.length capk] 45 := hb1_35
  have hsz36 := Keep.size hk33
  replace jr := jr.keep hk33 (by show ¬ (_ = _); omega)
  replace jb3 := jb3.keep hk33 (by show ¬ (_ = _); omega)
  replace jbs8 := jbs8.keep hk33 (by show ¬ (_ = _); omega)
  replace jbn9 := jbn9.keep hk33 (by show ¬ (_ = _); omega)
  replace jb11 := jb11.keep hk33 (by show ¬ (_ = _); omega)
  replace jAk := SlT.keep jAk hk33 (fun q hq hs => by have hs : q = b1 := hs; have g0 := ownk q hq; have g1 := ltjAk q hq; omega)
  replace jhK0 := Keep.fresh jhK0 hk33 (by intro i hi hs; first | exact hs | exact Or.inl hs | exact Or.inr hs | (exfalso; have hs2 : i = b1 := hs; omega))
  replace hDD := (Keep.block hk33 _ (Array.getElem?_eq_some_iff.1 hDD).1 (by show ¬ (_ = _); omega)).trans hDD
  refine OI_set (m := 1) (kd := false) 4 (.tmp 3) (.const (Value.bool true)) 0 (.bool true) [.bool true] none (by kernel_rfl) (by kernel_rfl) (by kernel_rfl) jb3 (by kernel_rfl) (by kernel_rfl) (by kernel_rfl) (Nat.le_of_ble_eq_true (by kernel_rfl)) (by simp [Value.oneCell']) ?_
  intro w37 hb3_40 hk38 hz39
  replace hb3_40 : Blk w37 b3 [.bool true] 4 := hb3_40
  have hsz41 := Keep.size hk38
  replace jr := jr.keep hk38 (by show ¬ (_ = _); omega)
  replace hb1_35 := hb1_35.keep hk38 (by show ¬ (_ = _); omega)
  replace jbs8 := jbs8.keep hk38 (by show ¬ (_ = _); omega)
  replace jbn9 := jbn9.keep hk38 (by show ¬ (_ = _); omega)
  replace jb11 := jb11.keep hk38 (by show ¬ (_ = _); omega)
  replace jAk := SlT.keep jAk hk38 (fun q hq hs => by have hs : q = b3 := hs; have g0 := ownk q hq; have g1 := ltjAk q hq; omega)
  replace jhK0 := Keep.fresh jhK0 hk38 (by intro i hi hs; first | exact hs | exact Or.inl hs | exact Or.inr hs | (exfalso; have hs2 : i = b3 := hs; omega))
  replace hDD := (Keep.block hk38 _ (Array.getElem?_eq_some_iff.1 hDD).1 (by show ¬ (_ = _); omega)).trans hDD
  refine Oe ?_
  refine V_ret ?_
  exact leave1 (.tuple #[.slice Ak rs.length capk, .bool true]) (.inl rfl) hDD (fun w' hk => ⟨res_cells2 (n1 := 1) (n2 := 1) rfl rfl rfl (by kernel_rfl) (by kernel_rfl) (Blk.quiet hb1_35 hk) (Blk.quiet hb3_40 hk) , ⟨Ak, capk, rfl, SlT.quiet jAk hk, (fun q h => by have h1 := ownk q h; omega), Keep.quiet jhK0 hk (by omega)⟩⟩)
end Go.Al


namespace Go.Al
open Go Go.RowKit Go.Proofs
/-! ### States, and what is done to them -/
structure RW where
  xs : List Acc
  cs : List Ci
  s : VS
  rs : List Rfm
def rwQ0 : RW := ⟨rfX, [], VS.zero, []⟩
def rwSub (ts : List Trk) (q : RW) (who of after : Int) (sum : Nat → Int) (now : Int) : RW := ⟨subX q.xs q.cs q.s ts q.rs who of after, q.cs, subS q.xs q.cs q.s ts q.rs who of after, subR q.xs q.cs q.s ts q.rs who of after sum now⟩
def rwDep (ts : List Trk) (q : RW) (who ref : Int) : RW := ⟨depX q.xs q.cs ts q.rs who ref, q.cs, q.s, depR q.xs q.cs ts q.rs who ref⟩
def rwSvc (ts : List Trk) (q : RW) (now : Int) : RW := ⟨q.xs, q.cs, (svcQ ts q.xs q.s q.rs now).s, (svcQ ts q.xs q.s q.rs now).rs⟩
def rwEvs (ts : List Trk) (q : RW) (now : Int) : List Evt := (svcQ ts q.xs q.s q.rs now).out
def RW.subE (ts : List Trk) (q : RW) (who of after : Int) : Int := _root_.Go.Al.subE q.xs q.cs q.s ts q.rs who of after
theorem SlT.ofE {α : Type} {w : World} {sz cap : Nat} {f : α → List Value} {A : Option Addr} {xs ys : List α} (h : SlT w sz f A cap xs) (e : xs = ys) : SlT w sz f A cap ys := e ▸ h
def plainT : Trk := ⟨1, 20, 2, 10, 3, 1, ⟨1, 500000000, 500000000, 1, 0⟩, ⟨1, 100000000, 100000000, 1, 0⟩, 50, 2⟩
theorem plain_ok : okTs [plainT] := ⟨by decide, by decide, by decide⟩

set_option maxRecDepth 10000 in
theorem plain_spec (w : World) : Calls Tryz.prog 16 #[] w fun e w' => e = .returned (.agg plainT.cells.toArray) ∧ Keep none_ w w' := by
 have hK0 : Keep none_ w w := Keep.refl _ _
 have hzhK0 := Keep.size hK0
 refine enterM Tryz.func16 rfl [] 4 rfl rfl rfl ?_
 refine V_pick [] rfl ?_
 refine Vr ?_
 refine OI_alloc 27 (.agg (Trk.cells Trk.zero).toArray) (Trk.cells Trk.zero) (some 0) (by kernel_rfl) (by kernel_rfl) (by kernel_rfl) ?_
 intro b1 w1 e1 hb1 k1 z1
 have hsz2 := Keep.size k1
 replace hK0 := Keep.tr hK0 (Keep.ofNone k1)
 have hb1lt := hb1.lt
 refine Oer ?_
 refine Os 3 [(0, pt b1), (3, .agg (Trk.cells plainT).toArray)] ?_
 refine OI_set (m := 18) (kd := true) 27 (.tmp 0) (.tmp 3) 0 (.agg (Trk.cells plainT).toArray) (Trk.cells plainT) none (by kernel_rfl) (by kernel_rfl) (by kernel_rfl) hb1 (by kernel_rfl) rfl (Trk.len _) (Nat.le_of_ble_eq_true (by kernel_rfl)) (Trk.one _) ?_
 intro w3 hb1_6 hk4 hz5
 replace hb1_6 : Blk w3 b1 (Trk.cells plainT) 27 := (Blk.eqL (Trk.over _ _) hb1_6)
 have hsz7 := Keep.size hk4
 replace hK0 := Keep.fresh hK0 hk4 (by intro i hi hs; first | exact hs | exact Or.inl hs | exact Or.inr hs | (exfalso; have hs2 : i = b1 := hs; omega))
 refine Oe ?_
 refine V_ret ?_
 exact leave0 (.agg (Trk.cells plainT).toArray) (.inl rfl) (res_agg1 (m := 18) rfl rfl (by kernel_rfl) hb1_6 rfl) ⟨rfl, hK0⟩

def kwQ1 : RW := rwSub [plainT] rwQ0 1 0 0 z0 0
def kwQ2 : RW := rwSvc [plainT] kwQ1 29
def kwQ3 : RW := rwSvc [plainT] kwQ2 30
theorem kw1 : RW.subE [plainT] rwQ0 1 0 0 = 0 := by kernel_rfl
theorem kw2 : rwEvs [plainT] kwQ1 29 = [] := by kernel_rfl
theorem kw3 : rwEvs [plainT] kwQ2 30 = [Evt.mk 1 0 4] := by kernel_rfl

set_option maxRecDepth 10000 in
set_option maxHeartbeats 1000000 in
theorem known_spec (w : World) : Calls Tryz.prog 18 #[] w fun e w' => e = .returned (.bool true) ∧ Keep none_ w w' := by
 have hK0 : Keep none_ w w := Keep.refl _ _
 have hzhK0 := Keep.size hK0
 refine enterV Tryz.func18 rfl [] 77 rfl rfl rfl ?_
 refine V_pick [] rfl ?_
 refine Vr ?_
 refine Os 1 [] ?_
 refine Oer ?_
 refine Ok { callee := (Callee.value (Operand.func 16)), args := #[], argTypes := #[] } 16 #[] (some 6) (plain_spec _) ?_
 rintro _ w1 ⟨rfl, hk2⟩
 refine ⟨_, rfl, ?_⟩
 have hsz3 := Keep.size hk2
 replace hK0 := Keep.tr hK0 (Keep.ofNone hk2)
 refine OI_slit (E := 27) (zv := .agg #[nt 0, nt 0, nt 0, nt 0, nt 0, nt 0, nt 0, nt 0, nt 0, nt 0, nt 0, nt 0, nt 0, nt 0, nt 0, nt 0, nt 0, nt 0]) (sz := 18) (by_ := 144) 29 1 #[(0, (Operand.tmp 6))] [.agg (Trk.cells plainT).toArray] (Trk.cells plainT) (some 7) (by kernel_rfl) (by kernel_rfl) (by kernel_rfl) (by omega) rfl (by omega) (by intro v hv; obtain rfl := List.mem_singleton.1 hv; show (Trk.cells plainT).toArray.size = 18; simp [Trk.len]) (by kernel_rfl) (by show (Trk.cells plainT).toArray.toList ++ [] = _; simp) ?_
 intro b4 w4 e4 hb4 k4 z4
 have hsz5 := Keep.size k4
 replace hK0 := Keep.tr hK0 (Keep.ofNone k4)
 have hb4lt := hb4.lt
 refine Ok { callee := (Callee.value (Operand.func 15)), args := #[(Operand.tmp 7)], argTypes := #[29] } 15 #[.slice (some ⟨b4, 0, none⟩) 1 1] (some 8) (begin_weak (some ⟨b4, 0, none⟩) 1 [(plainT)] _ (slt_blk (xs := [(plainT)]) (f := Trk.cells) hb4 Trk.len rfl) plain_ok) ?_
 rintro _ w8 ⟨b10, r11, gg12, v13, l14, H15, F16, G17, xv18, yv19, zv20, rfl, hb21, hR22, hV23, hL24, hk9, hge25, oH26, oF27, oG28, dHF29, dHG30, dFG31⟩
 refine ⟨_, rfl, ?_⟩
 have hsz32 := Keep.size hk9
 replace hb4 := hb4.keep hk9 (fun f => f)
 replace hK0 := Keep.tr hK0 (Keep.ofNone hk9)
 have hb10lt := hb21.lt
 have own33 : ∀ q, H15 q → w4.heap.size ≤ q ∧ q ≠ b4 ∧ q ≠ b10 := fun q hq => by have h1 := oH26 q hq; omega
 have lt34 := Rfr.lt hR22
 have own35 : ∀ q, F16 q → w4.heap.size ≤ q ∧ q ≠ b4 ∧ q ≠ b10 := fun q hq => by have h1 := oF27 q hq; omega
 have lt36 := VotT.lt hV23
 have own37 : ∀ q, G17 q → w4.heap.size ≤ q ∧ q ≠ b4 ∧ q ≠ b10 := fun q hq => by have h1 := oG28 q hq; omega
 have lt38 := Led.lt hL24
 replace hR22 : Rfr H15 w8 r11 gg12 [(plainT)] rwQ0.rs := hR22
 replace hV23 : VotT F16 w8 v13 rwQ0.s := hV23
 replace hL24 : Led G17 w8 l14 rwQ0.xs rwQ0.cs := hL24
 refine Os 4 [(1, pt b10)] ?_
 refine Oe ?_
 refine V_seq ?_
 refine Vr ?_
 refine Os 2 [(1, pt b10), (10, .bool false)] ?_
 refine Oe ?_
 refine V_false rfl ?_
 refine V_skip ?_
 refine X_then ?_
 refine V_seq ?_
 refine V_draws (acts [13]) none_ [[0, 1, 2, 3, 4, 5, 6, 7, 8, 9, 10, 11, 12, 13, 14, 15, 16, 17, 18]] (by kernel_rfl) (by repeat first | exact (by first | exact sure_body (by rintro _ _ ⟨_, _, h, _⟩; exact ⟨_, h⟩) | exact sure_body (by rintro _ _ ⟨_, _, _, _, _, _, _, _, _, _, _, h, _⟩; exact ⟨_, h⟩) | exact sure_body (by rintro _ _ ⟨h, _⟩; exact ⟨_, h⟩)) | refine sure_then ?_ | refine sure_block ?_ | refine sure_join ?_) (by kernel_rfl) ?_
 intro w40 hk39 he41 L hL42
 have hsz43 := Keep.size hk39
 replace hb4 := hb4.keep hk39 (fun f => f)
 replace hb21 := hb21.keep hk39 (fun f => f)
 replace hK0 := Keep.tr hK0 (Keep.ofNone hk39)
 replace hR22 := Rfr.keep hR22 hk39 (fun _ _ f => f)
 replace hV23 := VotT.keep hV23 hk39 (fun _ _ f => f)
 replace hL24 := Led.keep hL24 hk39 (fun _ _ f => f)
 have qhb4 := hb4
 have qhb21 := hb21
 have K44 : Keep none_ w40 w40 := Keep.refl _ _
 obtain rfl := List.mem_singleton.1 hL42
 refine Gs [3, 4, 5, 6, 7, 8, 9, 10, 11, 12, 13, 14, 15, 16, 17, 18] [(1, pt b10), (14, .pointer (some ⟨b10, 2, none⟩))] ?_
 refine Gc0 34 (.tmp 14) 2 (pt r11) (some 15) qhb21 rfl ?_
 refine Gs [7, 8, 9, 10, 11, 12, 13, 14, 15, 16, 17, 18] [(1, pt b10), (15, pt r11), (18, pt b10)] ?_
 refine Gc0 32 (.tmp 18) 0 (pt l14) (some 19) qhb21 rfl ?_
 refine Gs [11, 12, 13, 14, 15, 16, 17, 18] [(1, pt b10), (15, pt r11), (19, pt l14), (22, .pointer (some ⟨b10, 1, none⟩))] ?_
 refine Gc0 33 (.tmp 22) 1 (pt v13) (some 23) qhb21 rfl ?_
 refine Gs [13, 14, 15, 16, 17, 18] [(1, pt b10), (15, pt r11), (19, pt l14), (23, pt v13), (24, .agg (hshc z0).toArray)] ?_
 refine Gk0 { callee := (Callee.value (Operand.func 17)), args := #[(Operand.tmp 15), (Operand.tmp 19), (Operand.tmp 23), (Operand.const (Value.int IntKind.i64 1)), (Operand.const (Value.int IntKind.i64 0)), (Operand.tmp 24), (Operand.const (Value.int IntKind.i64 0)), (Operand.const (Value.int IntKind.i64 0))], argTypes := #[34, 32, 33, 3, 3, 42, 3, 3] } 17 #[pt r11, pt l14, pt v13, nt 1, nt 0, .agg (hshc z0).toArray, nt 0, nt 0] (some 25) (submit_spec H15 r11 gg12 [(plainT)] rwQ0.rs F16 v13 rwQ0.s G17 l14 rwQ0.xs rwQ0.cs 1 0 z0 0 0 _ hR22 hV23 hL24 dHF29 dHG30 dFG31) ?_
 rintro _ w47 ⟨rfl, ⟨F49, F52, F55, ho50, ho53, ho56, hfr51, hfr54, hfr57, hdis58, hdis59, hdis60⟩, hk48⟩
 refine ⟨_, rfl, ?_⟩
 have hsz61 := Keep.size hk48
 replace hb4 := hb4.keep hk48 (fun hs => by rcases hs with hs | hs | hs; (have u9 : _ = gg12 := hs; have u0 := own33 _ (Rfr.atg hR22); have u1 := lt34 _ (Rfr.atg hR22); omega); (have u0 := own35 _ hs; have u1 := lt36 _ hs; omega); (have u0 := own37 _ hs; have u1 := lt38 _ hs; omega))
 replace hb21 := hb21.keep hk48 (fun hs => by rcases hs with hs | hs | hs; (have u9 : _ = gg12 := hs; have u0 := own33 _ (Rfr.atg hR22); have u1 := lt34 _ (Rfr.atg hR22); omega); (have u0 := own35 _ hs; have u1 := lt36 _ hs; omega); (have u0 := own37 _ hs; have u1 := lt38 _ hs; omega))
 replace hK0 := Keep.fresh hK0 hk48 (by intro i hi hs; first | exact hs | (rcases hs with hs | hs | hs; (have u9 : _ = gg12 := hs; have u0 := own33 _ (Rfr.atg hR22); have u1 := lt34 _ (Rfr.atg hR22); omega); (have u0 := own35 i hs; have u1 := lt36 i hs; omega); (have u0 := own37 i hs; have u1 := lt38 i hs; omega)))
 have own63 : ∀ q, F49 q → w4.heap.size ≤ q ∧ q ≠ b4 ∧ q ≠ b10 := fun q hq => by rcases hfr51 q hq with h | h; (have h1 := own33 q h; have h2 := lt34 q h; omega); omega
 have lt62 := Rfr.lt ho50
 have own65 : ∀ q, F52 q → w4.heap.size ≤ q ∧ q ≠ b4 ∧ q ≠ b10 := fun q hq => by rcases hfr54 q hq with h | h; (have h1 := own35 q h; have h2 := lt36 q h; omega); omega
 have lt64 := VotT.lt ho53
 have own67 : ∀ q, F55 q → w4.heap.size ≤ q ∧ q ≠ b4 ∧ q ≠ b10 := fun q hq => by rcases hfr57 q hq with h | h; (have h1 := own37 q h; have h2 := lt38 q h; omega); omega
 have lt66 := Led.lt ho56
 replace ho50 : Rfr F49 w47 r11 gg12 [(plainT)] kwQ1.rs := ho50
 replace ho53 : VotT F52 w47 v13 kwQ1.s := ho53
 replace ho56 : Led F55 w47 l14 kwQ1.xs kwQ1.cs := ho56
 refine Gp_ [(1, pt b10), (25, .tuple #[nt (if RW.subE [(plainT)] rwQ0 1 0 0 = 0 then ((rwQ0.rs.length : Nat) : Int) else 0), nt (RW.subE [(plainT)] rwQ0 1 0 0)])] ?_
 refine GI_eq [(1, pt b10), (25, .tuple #[nt 0, nt 0])] (by rw [kw1]; rfl) ?_
 refine Gs [] [(1, pt b10), (2, nt 0), (3, nt 0)] ?_
 refine GI_end ?_
 refine X_then ?_
 refine V_seq ?_
 refine V_draws (acts [12]) none_ [[0, 1, 2, 3, 4, 5, 6, 7, 8, 9, 10, 11, 12, 13]] (by kernel_rfl) (by repeat first | exact (by first | exact sure_body (by rintro _ _ ⟨_, _, h, _⟩; exact ⟨_, h⟩) | exact sure_body (by rintro _ _ ⟨_, _, _, _, _, _, _, _, _, _, _, h, _⟩; exact ⟨_, h⟩) | exact sure_body (by rintro _ _ ⟨h, _⟩; exact ⟨_, h⟩)) | refine sure_then ?_ | refine sure_block ?_ | refine sure_join ?_) (by kernel_rfl) ?_
 intro w69 hk68 he70 L hL71
 have hsz72 := Keep.size hk68
 replace hb4 := hb4.keep hk68 (fun f => f)
 replace hb21 := hb21.keep hk68 (fun f => f)
 replace hK0 := Keep.tr hK0 (Keep.ofNone hk68)
 replace ho50 := Rfr.keep ho50 hk68 (fun _ _ f => f)
 replace ho53 := VotT.keep ho53 hk68 (fun _ _ f => f)
 replace ho56 := Led.keep ho56 hk68 (fun _ _ f => f)
 have qhb4 := hb4
 have qhb21 := hb21
 have K73 : Keep none_ w69 w69 := Keep.refl _ _
 obtain rfl := List.mem_singleton.1 hL71
 refine Gs [3, 4, 5, 6, 7, 8, 9, 10, 11, 12, 13] [(1, pt b10), (2, nt 0), (3, nt 0), (30, .pointer (some ⟨b10, 2, none⟩))] ?_
 refine Gc0 34 (.tmp 30) 2 (pt r11) (some 31) qhb21 rfl ?_
 refine Gs [7, 8, 9, 10, 11, 12, 13] [(1, pt b10), (2, nt 0), (3, nt 0), (31, pt r11), (34, pt b10)] ?_
 refine Gc0 32 (.tmp 34) 0 (pt l14) (some 35) qhb21 rfl ?_
 refine Gs [11, 12, 13] [(1, pt b10), (2, nt 0), (3, nt 0), (31, pt r11), (35, pt l14), (38, .pointer (some ⟨b10, 1, none⟩))] ?_
 refine Gc0 33 (.tmp 38) 1 (pt v13) (some 39) qhb21 rfl ?_
 refine Gk0 { callee := (Callee.value (Operand.func 22)), args := #[(Operand.tmp 31), (Operand.tmp 35), (Operand.tmp 39), (Operand.const (Value.int IntKind.i64 29))], argTypes := #[34, 32, 33, 3] } 22 #[pt r11, pt l14, pt v13, nt 29] (some 40) (service_spec F49 r11 gg12 [(plainT)] kwQ1.rs F52 v13 kwQ1.s F55 l14 kwQ1.xs kwQ1.cs 29 _ ho50 ho53 ho56 hdis58 hdis59 hdis60) ?_
 rintro _ w76 ⟨A78, cap78, rfl, hA78, ow78, ⟨F79, F82, ho80, ho83, hfr81, hfr84, hdis85, dA86, dA87⟩, hk77⟩
 refine ⟨_, rfl, ?_⟩
 have hsz88 := Keep.size hk77
 replace hb4 := hb4.keep hk77 (fun hs => by rcases hs with hs | hs; (have u9 : _ = gg12 := hs; have u0 := own63 _ (Rfr.atg ho50); have u1 := lt62 _ (Rfr.atg ho50); omega); (have u0 := own65 _ hs; have u1 := lt64 _ hs; omega))
 replace hb21 := hb21.keep hk77 (fun hs => by rcases hs with hs | hs; (have u9 : _ = gg12 := hs; have u0 := own63 _ (Rfr.atg ho50); have u1 := lt62 _ (Rfr.atg ho50); omega); (have u0 := own65 _ hs; have u1 := lt64 _ hs; omega))
 replace hK0 := Keep.fresh hK0 hk77 (by intro i hi hs; first | exact hs | (rcases hs with hs | hs; (have u9 : _ = gg12 := hs; have u0 := own63 _ (Rfr.atg ho50); have u1 := lt62 _ (Rfr.atg ho50); omega); (have u0 := own65 i hs; have u1 := lt64 i hs; omega)))
 replace ho56 := Led.keep ho56 hk77 (fun q hq hs => by rcases hs with hs | hs; exact (fun q h1 h2 => hdis59 q h2 h1) q hq (by rw [show q = gg12 from hs]; exact (Rfr.atg ho50)); exact (fun q h1 h2 => hdis60 q h2 h1) q hq hs)
 have own90 : ∀ q, F79 q → w4.heap.size ≤ q ∧ q ≠ b4 ∧ q ≠ b10 := fun q hq => by rcases hfr81 q hq with h | h; (have h1 := own63 q h; have h2 := lt62 q h; omega); omega
 have lt89 := Rfr.lt ho80
 have dis91 : ∀ q, F79 q → ¬ F55 q := fun q h1 h2 => by rcases hfr81 q h1 with h | h; exact hdis59 q h h2; (have h4 := lt66 q h2; omega)
 have own93 : ∀ q, F82 q → w4.heap.size ≤ q ∧ q ≠ b4 ∧ q ≠ b10 := fun q hq => by rcases hfr84 q hq with h | h; (have h1 := own65 q h; have h2 := lt64 q h; omega); omega
 have lt92 := VotT.lt ho83
 have dis94 : ∀ q, F82 q → ¬ F55 q := fun q h1 h2 => by rcases hfr84 q h1 with h | h; exact hdis60 q h h2; (have h4 := lt66 q h2; omega)
 have ltA78 := SlT.lt hA78
 have dis95 : ∀ q, inA A78 q → ¬ F55 q := fun q h1 h2 => by have h3 := ow78 q h1; have h4 := lt66 q h2; omega
 replace hA78 := SlT.ofE (xs := (rwEvs [(plainT)] kwQ1 29)) hA78 (show _ = ([] : List Evt) from kw2)
 replace ho80 : Rfr F79 w76 r11 gg12 [(plainT)] kwQ2.rs := ho80
 replace ho83 : VotT F82 w76 v13 kwQ2.s := ho83
 replace ho56 : Led F55 w76 l14 kwQ2.xs kwQ2.cs := ho56
 refine Gp_ [(1, pt b10), (2, nt 0), (3, nt 0), (40, .slice A78 ((rwEvs [(plainT)] kwQ1 29).length) cap78)] ?_
 refine GI_eq [(1, pt b10), (2, nt 0), (3, nt 0), (40, .slice A78 0 cap78)] (by rw [show (rwEvs [(plainT)] kwQ1 29) = ([] : List Evt) from kw2]; rfl) ?_
 refine Gs [] [(1, pt b10), (2, nt 0), (3, nt 0), (4, .slice A78 0 cap78)] ?_
 refine GI_end ?_
 refine X_then ?_
 refine V_seq ?_
 refine V_draws (acts [12]) none_ [[0, 1, 2, 3, 4, 5, 6, 7, 8, 9, 10, 11, 12, 13]] (by kernel_rfl) (by repeat first | exact (by first | exact sure_body (by rintro _ _ ⟨_, _, h, _⟩; exact ⟨_, h⟩) | exact sure_body (by rintro _ _ ⟨_, _, _, _, _, _, _, _, _, _, _, h, _⟩; exact ⟨_, h⟩) | exact sure_body (by rintro _ _ ⟨h, _⟩; exact ⟨_, h⟩)) | refine sure_then ?_ | refine sure_block ?_ | refine sure_join ?_) (by kernel_rfl) ?_
 intro w97 hk96 he98 L hL99
 have hsz100 := Keep.size hk96
 replace hb4 := hb4.keep hk96 (fun f => f)
 replace hb21 := hb21.keep hk96 (fun f => f)
 replace hA78 := SlT.keep0 hA78 hk96
 replace hK0 := Keep.tr hK0 (Keep.ofNone hk96)
 replace ho56 := Led.keep ho56 hk96 (fun _ _ f => f)
 replace ho80 := Rfr.keep ho80 hk96 (fun _ _ f => f)
 replace ho83 := VotT.keep ho83 hk96 (fun _ _ f => f)
 have qhb4 := hb4
 have qhb21 := hb21
 have qhA78 := hA78
 have K101 : Keep none_ w97 w97 := Keep.refl _ _
 obtain rfl := List.mem_singleton.1 hL99
 refine Gs [3, 4, 5, 6, 7, 8, 9, 10, 11, 12, 13] [(1, pt b10), (2, nt 0), (3, nt 0), (4, .slice A78 0 cap78), (43, .pointer (some ⟨b10, 2, none⟩))] ?_
 refine Gc0 34 (.tmp 43) 2 (pt r11) (some 44) qhb21 rfl ?_
 refine Gs [7, 8, 9, 10, 11, 12, 13] [(1, pt b10), (2, nt 0), (3, nt 0), (4, .slice A78 0 cap78), (44, pt r11), (47, pt b10)] ?_
 refine Gc0 32 (.tmp 47) 0 (pt l14) (some 48) qhb21 rfl ?_
 refine Gs [11, 12, 13] [(2, nt 0), (3, nt 0), (4, .slice A78 0 cap78), (44, pt r11), (48, pt l14), (51, .pointer (some ⟨b10, 1, none⟩))] ?_
 refine Gc0 33 (.tmp 51) 1 (pt v13) (some 52) qhb21 rfl ?_
 refine Gk0 { callee := (Callee.value (Operand.func 22)), args := #[(Operand.tmp 44), (Operand.tmp 48), (Operand.tmp 52), (Operand.const (Value.int IntKind.i64 30))], argTypes := #[34, 32, 33, 3] } 22 #[pt r11, pt l14, pt v13, nt 30] (some 53) (service_spec F79 r11 gg12 [(plainT)] kwQ2.rs F82 v13 kwQ2.s F55 l14 kwQ2.xs kwQ2.cs 30 _ ho80 ho83 ho56 hdis85 dis91 dis94) ?_
 rintro _ w104 ⟨A106, cap106, rfl, hA106, ow106, ⟨F107, F110, ho108, ho111, hfr109, hfr112, hdis113, dA114, dA115⟩, hk105⟩
 refine ⟨_, rfl, ?_⟩
 have hsz116 := Keep.size hk105
 replace hb4 := hb4.keep hk105 (fun hs => by rcases hs with hs | hs; (have u9 : _ = gg12 := hs; have u0 := own90 _ (Rfr.atg ho80); have u1 := lt89 _ (Rfr.atg ho80); omega); (have u0 := own93 _ hs; have u1 := lt92 _ hs; omega))
 replace hA78 := SlT.keep hA78 hk105 (fun q hq hs => by rcases hs with hs | hs; exact dA86 q hq (by rw [show q = gg12 from hs]; exact (Rfr.atg ho80)); exact dA87 q hq hs)
 replace hK0 := Keep.fresh hK0 hk105 (by intro i hi hs; first | exact hs | (rcases hs with hs | hs; (have u9 : _ = gg12 := hs; have u0 := own90 _ (Rfr.atg ho80); have u1 := lt89 _ (Rfr.atg ho80); omega); (have u0 := own93 i hs; have u1 := lt92 i hs; omega)))
 replace ho56 := Led.keep ho56 hk105 (fun q hq hs => by rcases hs with hs | hs; exact (fun q h1 h2 => dis91 q h2 h1) q hq (by rw [show q = gg12 from hs]; exact (Rfr.atg ho80)); exact (fun q h1 h2 => dis94 q h2 h1) q hq hs)
 have own118 : ∀ q, F107 q → w4.heap.size ≤ q ∧ q ≠ b4 := fun q hq => by rcases hfr109 q hq with h | h; (have h1 := own90 q h; have h2 := lt89 q h; omega); omega
 have lt117 := Rfr.lt ho108
 have dis119 : ∀ q, F107 q → ¬ inA A78 q := fun q h1 h2 => by rcases hfr109 q h1 with h | h; exact (fun q h1 h2 => dA86 q h2 h1) q h h2; (have h4 := ltA78 q h2; omega)
 have dis120 : ∀ q, F107 q → ¬ F55 q := fun q h1 h2 => by rcases hfr109 q h1 with h | h; exact dis91 q h h2; (have h4 := lt66 q h2; omega)
 have own122 : ∀ q, F110 q → w4.heap.size ≤ q ∧ q ≠ b4 := fun q hq => by rcases hfr112 q hq with h | h; (have h1 := own93 q h; have h2 := lt92 q h; omega); omega
 have lt121 := VotT.lt ho111
 have dis123 : ∀ q, F110 q → ¬ inA A78 q := fun q h1 h2 => by rcases hfr112 q h1 with h | h; exact (fun q h1 h2 => dA87 q h2 h1) q h h2; (have h4 := ltA78 q h2; omega)
 have dis124 : ∀ q, F110 q → ¬ F55 q := fun q h1 h2 => by rcases hfr112 q h1 with h | h; exact dis94 q h h2; (have h4 := lt66 q h2; omega)
 have ltA106 := SlT.lt hA106
 have dis125 : ∀ q, inA A106 q → ¬ F55 q := fun q h1 h2 => by have h3 := ow106 q h1; have h4 := lt66 q h2; omega
 replace hA106 := SlT.ofE (xs := (rwEvs [(plainT)] kwQ2 30)) hA106 (show _ = [Evt.mk 1 0 4] from kw3)
 replace ho108 : Rfr F107 w104 r11 gg12 [(plainT)] kwQ3.rs := ho108
 replace ho111 : VotT F110 w104 v13 kwQ3.s := ho111
 replace ho56 : Led F55 w104 l14 kwQ3.xs kwQ3.cs := ho56
 refine Gp_ [(2, nt 0), (3, nt 0), (4, .slice A78 0 cap78), (53, .slice A106 ((rwEvs [(plainT)] kwQ2 30).length) cap106)] ?_
 refine GI_eq [(2, nt 0), (3, nt 0), (4, .slice A78 0 cap78), (53, .slice A106 1 cap106)] (by rw [show (rwEvs [(plainT)] kwQ2 30) = [Evt.mk 1 0 4] from kw3]; rfl) ?_
 refine Gs [] [(2, nt 0), (3, nt 0), (4, .slice A78 0 cap78), (5, .slice A106 1 cap106)] ?_
 refine GI_end ?_
 refine X_then ?_
 refine Vr ?_
 refine Os 18 [(70, .bool true), (71, .slice A106 1 cap106)] ?_
 obtain ⟨b126, o126, L126, T126, rfl, hat126⟩ := SlT.open_ hA106 (by first | omega | (simp only [List.length_map]; omega) | (simp; done) | (simp; omega))
 have hb126lt := hat126.blk.lt
 have hob127 := ow106 b126 ⟨_, rfl, rfl⟩
 have hob128 := ltA106 b126 ⟨_, rfl, rfl⟩
 have hne129 : ∀ q, F55 q → q ≠ b126 := fun q hq hs => (fun q h1 h2 => dis125 q h2 h1) q hq ⟨_, rfl, hs⟩
 have own130 := fun q hq => And.intro (own67 q hq) (hne129 q hq)
 have hne131 : ∀ q, F107 q → q ≠ b126 := fun q hq hs => (fun q h1 h2 => dA114 q h2 h1) q hq ⟨_, rfl, hs⟩
 have own132 := fun q hq => And.intro (own118 q hq) (hne131 q hq)
 have hne133 : ∀ q, F110 q → q ≠ b126 := fun q hq hs => (fun q h1 h2 => dA115 q h2 h1) q hq ⟨_, rfl, hs⟩
 have own134 := fun q hq => And.intro (own122 q hq) (hne133 q hq)
 refine OI_pure (some 72) (.indexAddr 50 (.tmp 71) (.const (Value.int IntKind.i64 0))) (by kernel_rfl) (pure_idxN (b := b126) (o := o126) (len := 1) (cap := cap106) (kd := .i64) (j := 0) (E := 53) (sz := 3) (by_ := 24) (by kernel_rfl) (by kernel_rfl) (by kernel_rfl) (by omega)) ?_
 refine Oa 53 (.tmp 72) (o126 + 0 * 3) (Evt.cells (Evt.mk 1 0 4)) (some 73) 3 hat126.blk (At.elem' hat126 (es_at (rfl : ([Evt.mk 1 0 4] : List Evt)[0]? = some (Evt.mk 1 0 4)))) (At.len hat126 (es_at (rfl : ([Evt.mk 1 0 4] : List Evt)[0]? = some (Evt.mk 1 0 4)))) ?_
 refine Os 21 [(70, .bool true), (73, .agg (Evt.cells (Evt.mk 1 0 4)).toArray), (74, .agg (Evt.cells (Evt.mk 1 0 4)).toArray)] ?_
 refine OI_pure (some 75) ((Op.binOp BinOp.eql 53 (Operand.tmp 73) (Operand.tmp 74) 53)) (by kernel_rfl) (pure_eql_same (xs := Evt.cells (Evt.mk 1 0 4)) (by kernel_rfl) (by kernel_rfl) (by kernel_rfl) (by kernel_rfl)) ?_
 refine Os 24 [(0, .bool true)] ?_
 refine Oe ?_
 refine V_ret ?_
 exact X_return (.bool true) rfl ⟨rfl, hK0⟩
end Go.Al


namespace Go.Al
open Go Go.RowKit Go.Proofs
/-! ### Each track by itself -/
def tkT (a b : Int) : List Trk := [{ plainT with most := a }, { plainT with most := b }]
theorem tk_trk {a : Int} (h : 1 ≤ a ∧ a ≤ 4) : okTrk { plainT with most := a } := ⟨(by omega : 1 ≤ a ∧ a ≤ 12), (by decide : (0 : Int) ≤ 20 ∧ (20 : Int) ≤ 1073741824), (by decide : (0 : Int) ≤ 50 ∧ (50 : Int) ≤ 1073741824), (by decide : (0 : Int) ≤ 2 ∧ (2 : Int) ≤ 1000), (by decide : (0 : Int) ≤ 3 ∧ (3 : Int) ≤ 1000), (by decide : (0 : Int) ≤ 1 ∧ (1 : Int) ≤ 1000), (by decide : (1 : Int) ≤ 10 ∧ (10 : Int) ≤ 1000),
    (by decide : okCrv ⟨1, 500000000, 500000000, 1, 0⟩), (by decide : okCrv ⟨1, 100000000, 100000000, 1, 0⟩), (by decide : (0 : Int) ≤ 2 ∧ (2 : Int) ≤ 2)⟩
theorem tk_ok {a b : Int} (ha : 1 ≤ a ∧ a ≤ 4) (hb : 1 ≤ b ∧ b ≤ 4) : okTs (tkT a b) := by
  refine ⟨(by decide : 1 ≤ 2), (by decide : 2 ≤ 4), fun t ht => ?_⟩
  rcases List.mem_cons.1 ht with h | h
  · rw [h]; exact tk_trk ha
  · rw [List.mem_singleton.1 h]; exact tk_trk hb
def tkQ (a b : Int) : Nat → RW
  | 0 => rwQ0
  | i + 1 => rwDep (tkT a b) (rwSub (tkT a b) (tkQ a b i) (1 + Int.tmod (i : Int) 5) (Int.tmod (i : Int) 2) 0 z0 0) 5 (i : Int)
def tkF (a b : Int) (n : Nat) : RW := rwSvc (tkT a b) (tkQ a b (2 * n)) 2
def cntR (par : Int) (rs : List Rfm) : Nat → Int
  | 0 => 0
  | i + 1 => cntR par rs i + match rs[i]? with | none => 0 | some x => if Int.tmod (i : Int) 2 = par ∧ x.since ≥ 0 then 1 else 0
def trkAll : Nat → List Rfm → Bool
  | _, [] => true
  | i, x :: l => decide (x.track = Int.tmod (i : Int) 2) && trkAll (i + 1) l
theorem trkAll_at : ∀ {l : List Rfm} {k j : Nat} {x : Rfm}, trkAll k l = true → l[j]? = some x → x.track = Int.tmod ((k + j : Nat) : Int) 2
  | [], _, _, _, _, h => by cases h
  | y :: l, k, 0, x, h, h2 => by
    have h3 := (Bool.and_eq_true_iff.1 h).1
    have h4 : y = x := by simpa using h2
    rw [← h4]; exact of_decide_eq_true h3
  | y :: l, k, j + 1, x, h, h2 => by
    have h3 := (Bool.and_eq_true_iff.1 h).2
    have h4 := trkAll_at h3 (by simpa using h2)
    rw [h4, show k + 1 + j = k + (j + 1) by omega]
def tkG (a b n : Nat) (rs : List Rfm) : Bool := decide (rs.length = 2 * n) && trkAll 0 rs && decide (cntR 0 rs (2 * n) = imin (a : Int) (n : Int)) && decide (cntR 1 rs (2 * n) = imin (b : Int) (n : Int))
theorem tk_all : ((List.range 4).all fun a => (List.range 4).all fun b => (List.range 6).all fun n => tkG (a + 1) (b + 1) n (tkF ((a + 1 : Nat) : Int) ((b + 1 : Nat) : Int) n).rs) = true := by kernel_rfl
theorem tk1 {a b : Int} {n : Nat} (ha : 1 ≤ a ∧ a ≤ 4) (hb : 1 ≤ b ∧ b ≤ 4) (hn : n ≤ 5) : (tkF a b n).rs.length = 2 * n ∧ (∀ {j x}, (tkF a b n).rs[j]? = some x → x.track = Int.tmod ((j : Nat) : Int) 2) ∧
    cntR 0 (tkF a b n).rs (2 * n) = imin a (n : Int) ∧ cntR 1 (tkF a b n).rs (2 * n) = imin b (n : Int) := by
  obtain ⟨a, rfl⟩ : ∃ m : Nat, a = ((m + 1 : Nat) : Int) := ⟨(a - 1).toNat, by omega⟩
  obtain ⟨b, rfl⟩ : ∃ m : Nat, b = ((m + 1 : Nat) : Int) := ⟨(b - 1).toNat, by omega⟩
  have h := List.all_eq_true.1 (List.all_eq_true.1 (List.all_eq_true.1 tk_all a (List.mem_range.2 (by omega))) b (List.mem_range.2 (by omega))) n (List.mem_range.2 (by omega))
  obtain ⟨h1, h4⟩ := Bool.and_eq_true_iff.1 h
  obtain ⟨h1, h3⟩ := Bool.and_eq_true_iff.1 h1
  obtain ⟨h1, h2⟩ := Bool.and_eq_true_iff.1 h1
  exact ⟨of_decide_eq_true h1, fun {j x} hx => by have := trkAll_at h2 hx; rwa [Nat.zero_add] at this, of_decide_eq_true h3, of_decide_eq_true h4⟩
theorem cntR_succ {par : Int} {rs : List Rfm} {i : Nat} {x : Rfm} (h : rs[i]? = some x) : cntR par rs (i + 1) = cntR par rs i + if Int.tmod (i : Int) 2 = par ∧ x.since ≥ 0 then 1 else 0 := by
  show _ + (match rs[i]? with | none => (0 : Int) | some x => if Int.tmod (i : Int) 2 = par ∧ x.since ≥ 0 then 1 else 0) = _
  rw [h]
theorem cntR_yes {par : Int} {rs : List Rfm} {i : Nat} {x : Rfm} (h : rs[i]? = some x) (h1 : Int.tmod (i : Int) 2 = par) (h2 : x.since ≥ 0) : cntR par rs (i + 1) = cntR par rs i + 1 := by rw [cntR_succ h, if_pos ⟨h1, h2⟩]
theorem cntR_par {par : Int} {rs : List Rfm} {i : Nat} {x : Rfm} (h : rs[i]? = some x) (h1 : ¬ Int.tmod (i : Int) 2 = par) : cntR par rs (i + 1) = cntR par rs i := by rw [cntR_succ h, if_neg (fun h9 => h1 h9.1), Int.add_zero]
theorem cntR_no {par : Int} {rs : List Rfm} {i : Nat} {x : Rfm} (h : rs[i]? = some x) (h2 : ¬ x.since ≥ 0) : cntR par rs (i + 1) = cntR par rs i := by rw [cntR_succ h, if_neg (fun h9 => h2 h9.2), Int.add_zero]
theorem cntR_bnd (par : Int) (rs : List Rfm) : ∀ i : Nat, 0 ≤ cntR par rs i ∧ cntR par rs i ≤ i
  | 0 => ⟨Int.le_refl _, Int.le_refl _⟩
  | i + 1 => by
    have h := cntR_bnd par rs i
    show 0 ≤ cntR par rs i + (match rs[i]? with | none => (0 : Int) | some x => if Int.tmod (i : Int) 2 = par ∧ x.since ≥ 0 then 1 else 0) ∧ cntR par rs i + (match rs[i]? with | none => (0 : Int) | some x => if Int.tmod (i : Int) 2 = par ∧ x.since ≥ 0 then 1 else 0) ≤ ((i + 1 : Nat) : Int)
    split
    · omega
    · split <;> omega
theorem tmod2 (i : Nat) : Int.tmod (i : Int) 2 = 0 ∨ Int.tmod (i : Int) 2 = 1 := by
  rw [Int.tmod_eq_emod_of_nonneg (by omega)]; omega
theorem tmod5 (i : Nat) : 0 ≤ Int.tmod (i : Int) 5 ∧ Int.tmod (i : Int) 5 ≤ 4 := by
  rw [Int.tmod_eq_emod_of_nonneg (by omega)]; omega

end Go.Al


namespace Go.Al
open Go Go.RowKit Go.Proofs
set_option maxRecDepth 10000 in
set_option maxHeartbeats 2000000 in
theorem walk_ReferTracks (a b n : Int) (w : World) : Calls Tryz.prog 5 #[.int .i64 a, .int .i64 b, .int .i64 n] w fun e w' => e = .returned (.bool true) ∧ Keep none_ w w' := by
 have hK0 : Keep none_ w w := Keep.refl _ _
 have hzhK0 := Keep.size hK0
 refine enterV Tryz.func5 rfl [nt a, nt b, nt n] 158 rfl rfl rfl ?_
 refine V_pick [(0, nt a), (1, nt b), (2, nt n)] rfl ?_
 refine Vr ?_
 refine Os 1 [(0, nt a), (1, nt b), (2, nt n)] ?_
 refine Oe ?_
 refine V_seq ?_
 refine Vr ?_
 refine Os 3 [(0, nt a), (1, nt b), (2, nt n), (17, .bool (decide (a < 1)))] ?_
 by_cases hg1 : a < 1
 ·
  refine OI_eq [(0, nt a), (1, nt b), (2, nt n), (17, .bool true)] (by first | simp [hg1] | rfl) ?_
  refine Os 22 [(0, nt a), (1, nt b), (2, nt n), (36, .bool true)] ?_
  refine Oe ?_
  refine V_true rfl ?_
  refine Vr ?_
  refine Os 1 [(6, .bool true)] ?_
  refine Oe ?_
  refine V_ret ?_
  refine X_ret_then ?_
  exact X_return (.bool true) rfl ⟨rfl, hK0⟩
 refine OI_eq [(0, nt a), (1, nt b), (2, nt n), (17, .bool false)] (by first | simp [hg1] | rfl) ?_
 refine Os 7 [(0, nt a), (1, nt b), (2, nt n), (21, .bool (decide (a > 4)))] ?_
 by_cases hg2 : a > 4
 ·
  refine OI_eq [(0, nt a), (1, nt b), (2, nt n), (21, .bool true)] (by first | simp [hg2] | rfl) ?_
  refine Os 22 [(0, nt a), (1, nt b), (2, nt n), (36, .bool true)] ?_
  refine Oe ?_
  refine V_true rfl ?_
  refine Vr ?_
  refine Os 1 [(6, .bool true)] ?_
  refine Oe ?_
  refine V_ret ?_
  refine X_ret_then ?_
  exact X_return (.bool true) rfl ⟨rfl, hK0⟩
 refine OI_eq [(0, nt a), (1, nt b), (2, nt n), (21, .bool false)] (by first | simp [hg2] | rfl) ?_
 refine Os 11 [(0, nt a), (1, nt b), (2, nt n), (25, .bool (decide (b < 1)))] ?_
 by_cases hg3 : b < 1
 ·
  refine OI_eq [(0, nt a), (1, nt b), (2, nt n), (25, .bool true)] (by first | simp [hg3] | rfl) ?_
  refine Os 22 [(0, nt a), (1, nt b), (2, nt n), (36, .bool true)] ?_
  refine Oe ?_
  refine V_true rfl ?_
  refine Vr ?_
  refine Os 1 [(6, .bool true)] ?_
  refine Oe ?_
  refine V_ret ?_
  refine X_ret_then ?_
  exact X_return (.bool true) rfl ⟨rfl, hK0⟩
 refine OI_eq [(0, nt a), (1, nt b), (2, nt n), (25, .bool false)] (by first | simp [hg3] | rfl) ?_
 refine Os 15 [(0, nt a), (1, nt b), (2, nt n), (29, .bool (decide (b > 4)))] ?_
 by_cases hg4 : b > 4
 ·
  refine OI_eq [(0, nt a), (1, nt b), (2, nt n), (29, .bool true)] (by first | simp [hg4] | rfl) ?_
  refine Os 22 [(0, nt a), (1, nt b), (2, nt n), (36, .bool true)] ?_
  refine Oe ?_
  refine V_true rfl ?_
  refine Vr ?_
  refine Os 1 [(6, .bool true)] ?_
  refine Oe ?_
  refine V_ret ?_
  refine X_ret_then ?_
  exact X_return (.bool true) rfl ⟨rfl, hK0⟩
 refine OI_eq [(0, nt a), (1, nt b), (2, nt n), (29, .bool false)] (by first | simp [hg4] | rfl) ?_
 refine Os 19 [(0, nt a), (1, nt b), (2, nt n), (33, .bool (decide (n < 0)))] ?_
 by_cases hg5 : n < 0
 ·
  refine OI_eq [(0, nt a), (1, nt b), (2, nt n), (33, .bool true)] (by first | simp [hg5] | rfl) ?_
  refine Os 22 [(0, nt a), (1, nt b), (2, nt n), (36, .bool true)] ?_
  refine Oe ?_
  refine V_true rfl ?_
  refine Vr ?_
  refine Os 1 [(6, .bool true)] ?_
  refine Oe ?_
  refine V_ret ?_
  refine X_ret_then ?_
  exact X_return (.bool true) rfl ⟨rfl, hK0⟩
 refine OI_eq [(0, nt a), (1, nt b), (2, nt n), (33, .bool false)] (by first | simp [hg5] | rfl) ?_
 refine Os 22 [(0, nt a), (1, nt b), (2, nt n), (36, .bool (decide (n > 5)))] ?_
 refine Oe ?_
 refine V_if (n > 5) (by kernel_rfl) (fun hc6 => ?_) (fun hc6 => ?_)
 ·
  refine Vr ?_
  refine Os 1 [(6, .bool true)] ?_
  refine Oe ?_
  refine V_ret ?_
  refine X_ret_then ?_
  exact X_return (.bool true) rfl ⟨rfl, hK0⟩
 refine V_skip ?_
 refine X_then ?_
 refine Vr ?_
 refine Ok { callee := (Callee.value (Operand.func 16)), args := #[], argTypes := #[] } 16 #[] (some 37) (plain_spec _) ?_
 rintro _ w7 ⟨rfl, hk8⟩
 refine ⟨_, rfl, ?_⟩
 have hsz9 := Keep.size hk8
 replace hK0 := Keep.tr hK0 (Keep.ofNone hk8)
 refine Ok { callee := (Callee.value (Operand.func 16)), args := #[], argTypes := #[] } 16 #[] (some 38) (plain_spec _) ?_
 rintro _ w10 ⟨rfl, hk11⟩
 refine ⟨_, rfl, ?_⟩
 have hsz12 := Keep.size hk11
 replace hK0 := Keep.tr hK0 (Keep.ofNone hk11)
 refine OI_alloc 27 (.agg (Trk.cells Trk.zero).toArray) (Trk.cells Trk.zero) (some 7) (by kernel_rfl) (by kernel_rfl) (by kernel_rfl) ?_
 intro b13 w13 e13 hb13 k13 z13
 have hsz14 := Keep.size k13
 replace hK0 := Keep.tr hK0 (Keep.ofNone k13)
 have hb13lt := hb13.lt
 refine OI_alloc 27 (.agg (Trk.cells Trk.zero).toArray) (Trk.cells Trk.zero) (some 8) (by kernel_rfl) (by kernel_rfl) (by kernel_rfl) ?_
 intro b15 w15 e15 hb15 k15 z15
 have hsz16 := Keep.size k15
 replace hb13 := hb13.keep k15 (fun f => f)
 replace hK0 := Keep.tr hK0 (Keep.ofNone k15)
 have hb15lt := hb15.lt
 refine OI_set (m := 18) (kd := true) 27 (.tmp 7) (.tmp 37) 0 (.agg (Trk.cells plainT).toArray) (Trk.cells plainT) none (by kernel_rfl) (by kernel_rfl) (by kernel_rfl) hb13 (by kernel_rfl) rfl (Trk.len _) (Nat.le_of_ble_eq_true (by kernel_rfl)) (Trk.one _) ?_
 intro w17 hb13_20 hk18 hz19
 replace hb13_20 : Blk w17 b13 (Trk.cells plainT) 27 := (Blk.eqL (Trk.over _ _) hb13_20)
 have hsz21 := Keep.size hk18
 replace hb15 := hb15.keep hk18 (by show ¬ (_ = _); omega)
 replace hK0 := Keep.fresh hK0 hk18 (by intro i hi hs; first | exact hs | exact Or.inl hs | exact Or.inr hs | (exfalso; have hs2 : i = b13 := hs; omega))
 refine OI_set (m := 18) (kd := true) 27 (.tmp 8) (.tmp 38) 0 (.agg (Trk.cells plainT).toArray) (Trk.cells plainT) none (by kernel_rfl) (by kernel_rfl) (by kernel_rfl) hb15 (by kernel_rfl) rfl (Trk.len _) (Nat.le_of_ble_eq_true (by kernel_rfl)) (Trk.one _) ?_
 intro w22 hb15_25 hk23 hz24
 replace hb15_25 : Blk w22 b15 (Trk.cells plainT) 27 := (Blk.eqL (Trk.over _ _) hb15_25)
 have hsz26 := Keep.size hk23
 replace hb13_20 := hb13_20.keep hk23 (by show ¬ (_ = _); omega)
 replace hK0 := Keep.fresh hK0 hk23 (by intro i hi hs; first | exact hs | exact Or.inl hs | exact Or.inr hs | (exfalso; have hs2 : i = b15 := hs; omega))
 refine Oer ?_
 refine Os 3 [(0, nt a), (1, nt b), (2, nt n), (7, pt b13), (8, pt b15), (39, nt a), (40, nt b), (41, pt b13)] ?_
 refine OI_set (m := 1) (kd := false) 3 (.tmp 41) (.tmp 39) 0 (nt a) [nt a] none (by kernel_rfl) (by kernel_rfl) (by kernel_rfl) hb13_20 (by kernel_rfl) (by kernel_rfl) (by kernel_rfl) (Nat.le_of_ble_eq_true (by kernel_rfl)) (by simp [Value.oneCell']) ?_
 intro w27 hb13_30 hk28 hz29
 replace hb13_30 : Blk w27 b13 (Trk.cells { plainT with most := a }) 27 := (Blk.eqL (by kernel_rfl) hb13_30)
 have hsz31 := Keep.size hk28
 replace hb15_25 := hb15_25.keep hk28 (by show ¬ (_ = _); omega)
 replace hK0 := Keep.fresh hK0 hk28 (by intro i hi hs; first | exact hs | exact Or.inl hs | exact Or.inr hs | (exfalso; have hs2 : i = b13 := hs; omega))
 refine Os 5 [(0, nt a), (1, nt b), (2, nt n), (7, pt b13), (8, pt b15), (40, nt b), (42, pt b15)] ?_
 refine OI_set (m := 1) (kd := false) 3 (.tmp 42) (.tmp 40) 0 (nt b) [nt b] none (by kernel_rfl) (by kernel_rfl) (by kernel_rfl) hb15_25 (by kernel_rfl) (by kernel_rfl) (by kernel_rfl) (Nat.le_of_ble_eq_true (by kernel_rfl)) (by simp [Value.oneCell']) ?_
 intro w32 hb15_35 hk33 hz34
 replace hb15_35 : Blk w32 b15 (Trk.cells { plainT with most := b }) 27 := (Blk.eqL (by kernel_rfl) hb15_35)
 have hsz36 := Keep.size hk33
 replace hb13_30 := hb13_30.keep hk33 (by show ¬ (_ = _); omega)
 replace hK0 := Keep.fresh hK0 hk33 (by intro i hi hs; first | exact hs | exact Or.inl hs | exact Or.inr hs | (exfalso; have hs2 : i = b15 := hs; omega))
 refine Oer ?_
 refine Oa 27 (.tmp 7) 0 (Trk.cells { plainT with most := a }) (some 43) 18 hb13_30 (take_all (Trk.len _)) (Trk.len _) ?_
 refine Oa 27 (.tmp 8) 0 (Trk.cells { plainT with most := b }) (some 44) 18 hb15_35 (take_all (Trk.len _)) (Trk.len _) ?_
 refine OI_slit (E := 27) (zv := .agg #[nt 0, nt 0, nt 0, nt 0, nt 0, nt 0, nt 0, nt 0, nt 0, nt 0, nt 0, nt 0, nt 0, nt 0, nt 0, nt 0, nt 0, nt 0]) (sz := 18) (by_ := 144) 29 2 #[(0, (Operand.tmp 43)), (1, (Operand.tmp 44))] [.agg (Trk.cells { plainT with most := a }).toArray, .agg (Trk.cells { plainT with most := b }).toArray] ([{ plainT with most := a }, { plainT with most := b }].flatMap Trk.cells) (some 45) (by kernel_rfl) (by kernel_rfl) (by kernel_rfl) (by omega) rfl (by omega) (by intro v hv; simp only [List.mem_cons, List.not_mem_nil, or_false] at hv; rcases hv with rfl | rfl <;> rfl) (by kernel_rfl) rfl ?_
 intro b37 w37 e37 hb37 k37 z37
 have hsz38 := Keep.size k37
 replace hb13_30 := hb13_30.keep k37 (fun f => f)
 replace hb15_35 := hb15_35.keep k37 (fun f => f)
 replace hK0 := Keep.tr hK0 (Keep.ofNone k37)
 have hb37lt := hb37.lt
 refine Ok { callee := (Callee.value (Operand.func 15)), args := #[(Operand.tmp 45)], argTypes := #[29] } 15 #[.slice (some ⟨b37, 0, none⟩) 2 2] (some 46) (begin_weak (some ⟨b37, 0, none⟩) 2 [{ plainT with most := a }, { plainT with most := b }] _ (slt_blk (xs := [{ plainT with most := a }, { plainT with most := b }]) (f := Trk.cells) hb37 Trk.len rfl) (tk_ok (by omega) (by omega))) ?_
 rintro _ w41 ⟨b43, r44, gg45, v46, l47, H48, F49, G50, xv51, yv52, zv53, rfl, hb54, hR55, hV56, hL57, hk42, hge58, oH59, oF60, oG61, dHF62, dHG63, dFG64⟩
 refine ⟨_, rfl, ?_⟩
 have hsz65 := Keep.size hk42
 replace hb13_30 := hb13_30.keep hk42 (fun f => f)
 replace hb15_35 := hb15_35.keep hk42 (fun f => f)
 replace hb37 := hb37.keep hk42 (fun f => f)
 replace hK0 := Keep.tr hK0 (Keep.ofNone hk42)
 have hb43lt := hb54.lt
 replace hR55 : Rfr H48 w41 r44 gg45 (tkT a b) [] := hR55
 have own66 : ∀ q, H48 q → w37.heap.size ≤ q ∧ q ≠ b13 ∧ q ≠ b15 ∧ q ≠ b37 ∧ q ≠ b43 := fun q hq => by have h1 := oH59 q hq; omega
 have lt67 := Rfr.lt hR55
 have own68 : ∀ q, F49 q → w37.heap.size ≤ q ∧ q ≠ b13 ∧ q ≠ b15 ∧ q ≠ b37 ∧ q ≠ b43 := fun q hq => by have h1 := oF60 q hq; omega
 have lt69 := VotT.lt hV56
 have own70 : ∀ q, G50 q → w37.heap.size ≤ q ∧ q ≠ b13 ∧ q ≠ b15 ∧ q ≠ b37 ∧ q ≠ b43 := fun q hq => by have h1 := oG61 q hq; omega
 have lt71 := Led.lt hL57
 replace hR55 : Rfr H48 w41 r44 gg45 (tkT a b) rwQ0.rs := hR55
 replace hV56 : VotT F49 w41 v46 rwQ0.s := hV56
 replace hL57 : Led G50 w41 l47 rwQ0.xs rwQ0.cs := hL57
 refine Os 5 [(0, nt a), (1, nt b), (2, nt n), (9, pt b43)] ?_
 refine Oe ?_
 refine V_seq ?_
 refine Vr ?_
 refine Os 2 [(0, nt a), (1, nt b), (2, nt n), (9, pt b43), (48, .bool false)] ?_
 refine Oe ?_
 refine V_false rfl ?_
 refine V_skip ?_
 refine X_then ?_
 refine V_seq ?_
 refine Vr ?_
 refine Os 1 [(0, nt a), (1, nt b), (2, nt n), (9, pt b43), (10, nt 0)] ?_
 refine Oe ?_
 refine V_block ?_
 refine V_pick [(0, nt a), (1, nt b), (2, nt n), (9, pt b43), (10, nt 0)] rfl ?_
 refine V_loop (fun k wI e => ∃ i : Nat, ∃ Hk : Nat → Prop, ∃ Fk : Nat → Prop, ∃ Gk : Nat → Prop, (k + i = (2 * n).toNat) ∧ (Blk wI b43 [pt l47, pt v46, pt r44, .pointer xv51, .pointer yv52, .pointer zv53, nt 0] 39) ∧ (Rfr Hk wI r44 gg45 (tkT a b) (tkQ a b i).rs) ∧ (VotT Fk wI v46 (tkQ a b i).s) ∧ (Led Gk wI l47 (tkQ a b i).xs (tkQ a b i).cs) ∧ (∀ q, Hk q → w.heap.size ≤ q ∧ q ≠ b43) ∧ (∀ q, Fk q → w.heap.size ≤ q ∧ q ≠ b43) ∧ (∀ q, Gk q → w.heap.size ≤ q ∧ q ≠ b43) ∧ (∀ q, Hk q → ¬ Fk q) ∧ (∀ q, Hk q → ¬ Gk q) ∧ (∀ q, Fk q → ¬ Gk q) ∧ (Keep none_ w wI) ∧ e = [(0, nt a), (1, nt b), (2, nt n), (9, pt b43), (10, nt ((i : Nat) : Int))]) ((2 * n).toNat) ⟨0, H48, F49, G50, by omega, hb54, hR55, hV56, hL57, (fun q hq => by have h1 := own66 q hq; have h2 := lt67 q hq; omega), (fun q hq => by have h1 := own68 q hq; have h2 := lt69 q hq; omega), (fun q hq => by have h1 := own70 q hq; have h2 := lt71 q hq; omega), dHF62, dHG63, dFG64, hK0, rfl⟩ ?_
 rintro k73 w72 _ ⟨i, Hk, Fk, Gk, hki, hbk, hRk, hVk, hLk, hHko, hFko, hGko, dkHF, dkHG, dkFG, hK0, rfl⟩
 have hb43lt := hbk.lt
 have hzhK0 := Keep.size hK0
 have ltHk := Rfr.lt hRk
 have ltFk := VotT.lt hVk
 have ltGk := Led.lt hLk
 have hm5 := tmod5 i
 refine V_seq ?_
 refine Vr ?_
 have hw75 : IntKind.i64.wrap (2 * n) = 2 * n := (wrap64_id (by omega) (by omega)).trans (by omega)
 refine Os 3 [(0, nt a), (1, nt b), (2, nt n), (9, pt b43), (10, nt ((i : Nat) : Int)), (49, nt ((i : Nat) : Int)), (51, nt (IntKind.i64.wrap (2 * n)))] ?_
 refine OI_eq [(0, nt a), (1, nt b), (2, nt n), (9, pt b43), (10, nt ((i : Nat) : Int)), (49, nt ((i : Nat) : Int)), (51, nt (2 * n))] (by rw [hw75]) ?_
 refine Os 4 [(0, nt a), (1, nt b), (2, nt n), (9, pt b43), (10, nt ((i : Nat) : Int)), (52, .bool (decide (((i : Nat) : Int) < 2 * n)))] ?_
 refine Oe ?_
 refine V_if (((i : Nat) : Int) < 2 * n) (by kernel_rfl) (fun hc76 => ?_) (fun hc76 => ?_)
 ·
  refine V_skip ?_
  refine X_then ?_
  refine V_seq ?_
  refine V_block ?_
  refine V_seq ?_
  refine V_draws (acts [18]) none_ [[0, 1, 2, 3, 4, 5, 6, 7, 8, 9, 10, 11, 12, 13, 14, 15, 16, 17, 18]] (by kernel_rfl) (by repeat first | exact (by first | exact sure_body (by rintro _ _ ⟨_, _, h, _⟩; exact ⟨_, h⟩) | exact sure_body (by rintro _ _ ⟨_, _, _, _, _, _, _, _, _, _, _, h, _⟩; exact ⟨_, h⟩) | exact sure_body (by rintro _ _ ⟨h, _⟩; exact ⟨_, h⟩)) | refine sure_then ?_ | refine sure_block ?_ | refine sure_join ?_) (by kernel_rfl) ?_
  intro w78 hk77 he79 L hL80
  have hsz81 := Keep.size hk77
  replace hbk := hbk.keep hk77 (fun f => f)
  replace hRk := Rfr.keep hRk hk77 (fun _ _ f => f)
  replace hVk := VotT.keep hVk hk77 (fun _ _ f => f)
  replace hLk := Led.keep hLk hk77 (fun _ _ f => f)
  replace hK0 := Keep.tr hK0 (Keep.ofNone hk77)
  have qhbk := hbk
  have K82 : Keep none_ w78 w78 := Keep.refl _ _
  obtain rfl := List.mem_singleton.1 hL80
  refine Gs [3, 4, 5, 6, 7, 8, 9, 10, 11, 12, 13, 14, 15, 16, 17, 18] [(0, nt a), (1, nt b), (2, nt n), (9, pt b43), (10, nt ((i : Nat) : Int)), (57, .pointer (some ⟨b43, 2, none⟩))] ?_
  refine Gc0 34 (.tmp 57) 2 (pt r44) (some 58) qhbk rfl ?_
  refine Gs [7, 8, 9, 10, 11, 12, 13, 14, 15, 16, 17, 18] [(0, nt a), (1, nt b), (2, nt n), (9, pt b43), (10, nt ((i : Nat) : Int)), (58, pt r44), (61, pt b43)] ?_
  refine Gc0 32 (.tmp 61) 0 (pt l47) (some 62) qhbk rfl ?_
  refine Gs [11, 12, 13, 14, 15, 16, 17, 18] [(0, nt a), (1, nt b), (2, nt n), (9, pt b43), (10, nt ((i : Nat) : Int)), (58, pt r44), (62, pt l47), (65, .pointer (some ⟨b43, 1, none⟩))] ?_
  refine Gc0 33 (.tmp 65) 1 (pt v46) (some 66) qhbk rfl ?_
  have hw83 : IntKind.i64.wrap (1 + (Int.tmod ((i : Nat) : Int) 5)) = 1 + (Int.tmod ((i : Nat) : Int) 5) := (wrap64_id (by omega) (by omega)).trans (by omega)
  refine Gs [15, 16, 17, 18] [(0, nt a), (1, nt b), (2, nt n), (9, pt b43), (10, nt ((i : Nat) : Int)), (58, pt r44), (62, pt l47), (66, pt v46), (69, nt (IntKind.i64.wrap (1 + (Int.tmod ((i : Nat) : Int) 5))))] ?_
  refine GI_eq [(0, nt a), (1, nt b), (2, nt n), (9, pt b43), (10, nt ((i : Nat) : Int)), (58, pt r44), (62, pt l47), (66, pt v46), (69, nt (1 + (Int.tmod ((i : Nat) : Int) 5)))] (by rw [hw83]) ?_
  refine Gs [18] [(0, nt a), (1, nt b), (2, nt n), (9, pt b43), (10, nt ((i : Nat) : Int)), (58, pt r44), (62, pt l47), (66, pt v46), (69, nt (1 + (Int.tmod ((i : Nat) : Int) 5))), (71, nt (Int.tmod ((i : Nat) : Int) 2)), (72, .agg (hshc z0).toArray)] ?_
  refine GI_final 18 (by kernel_rfl) (by kernel_rfl) ?_
  refine Ok { callee := (Callee.value (Operand.func 17)), args := #[(Operand.tmp 58), (Operand.tmp 62), (Operand.tmp 66), (Operand.tmp 69), (Operand.tmp 71), (Operand.tmp 72), (Operand.const (Value.int IntKind.i64 0)), (Operand.const (Value.int IntKind.i64 0))], argTypes := #[34, 32, 33, 3, 3, 42, 3, 3] } 17 #[pt r44, pt l47, pt v46, nt (1 + (Int.tmod ((i : Nat) : Int) 5)), nt (Int.tmod ((i : Nat) : Int) 2), .agg (hshc z0).toArray, nt 0, nt 0] (some 73) (submit_spec Hk r44 gg45 (tkT a b) (tkQ a b i).rs Fk v46 (tkQ a b i).s Gk l47 (tkQ a b i).xs (tkQ a b i).cs (1 + (Int.tmod ((i : Nat) : Int) 5)) (Int.tmod ((i : Nat) : Int) 2) z0 0 0 _ hRk hVk hLk dkHF dkHG dkFG) ?_
  rintro _ w86 ⟨rfl, ⟨F88, F91, F94, ho89, ho92, ho95, hfr90, hfr93, hfr96, hdis97, hdis98, hdis99⟩, hk87⟩
  refine ⟨_, rfl, ?_⟩
  have hsz100 := Keep.size hk87
  replace hbk := hbk.keep hk87 (fun hs => by rcases hs with hs | hs | hs; (have u9 : _ = gg45 := hs; have u0 := hHko _ (Rfr.atg hRk); have u1 := ltHk _ (Rfr.atg hRk); omega); (have u0 := hFko _ hs; have u1 := ltFk _ hs; omega); (have u0 := hGko _ hs; have u1 := ltGk _ hs; omega))
  replace hK0 := Keep.fresh hK0 hk87 (by intro i hi hs; first | exact hs | (rcases hs with hs | hs | hs; (have u9 : _ = gg45 := hs; have u0 := hHko _ (Rfr.atg hRk); have u1 := ltHk _ (Rfr.atg hRk); omega); (have u0 := hFko i hs; have u1 := ltFk i hs; omega); (have u0 := hGko i hs; have u1 := ltGk i hs; omega)))
  have own102 : ∀ q, F88 q → w.heap.size ≤ q ∧ q ≠ b43 := fun q hq => by rcases hfr90 q hq with h | h; (have h1 := hHko q h; have h2 := ltHk q h; omega); omega
  have lt101 := Rfr.lt ho89
  have own104 : ∀ q, F91 q → w.heap.size ≤ q ∧ q ≠ b43 := fun q hq => by rcases hfr93 q hq with h | h; (have h1 := hFko q h; have h2 := ltFk q h; omega); omega
  have lt103 := VotT.lt ho92
  have own106 : ∀ q, F94 q → w.heap.size ≤ q ∧ q ≠ b43 := fun q hq => by rcases hfr96 q hq with h | h; (have h1 := hGko q h; have h2 := ltGk q h; omega); omega
  have lt105 := Led.lt ho95
  replace ho89 : Rfr F88 w86 r44 gg45 (tkT a b) (rwSub (tkT a b) (tkQ a b i) (1 + (Int.tmod ((i : Nat) : Int) 5)) (Int.tmod ((i : Nat) : Int) 2) 0 z0 0).rs := ho89
  replace ho92 : VotT F91 w86 v46 ((rwSub (tkT a b) (tkQ a b i) (1 + (Int.tmod ((i : Nat) : Int) 5)) (Int.tmod ((i : Nat) : Int) 2) 0 z0 0).s) := ho92
  replace ho95 : Led F94 w86 l47 (rwSub (tkT a b) (tkQ a b i) (1 + (Int.tmod ((i : Nat) : Int) 5)) (Int.tmod ((i : Nat) : Int) 2) 0 z0 0).xs (rwSub (tkT a b) (tkQ a b i) (1 + (Int.tmod ((i : Nat) : Int) 5)) (Int.tmod ((i : Nat) : Int) 2) 0 z0 0).cs := ho95
  refine Oe ?_
  refine V_draws (acts [9]) none_ [[0, 1, 2, 3, 4, 5, 6, 7, 8, 9]] (by kernel_rfl) (by repeat first | exact (by first | exact sure_body (by rintro _ _ ⟨_, _, h, _⟩; exact ⟨_, h⟩) | exact sure_body (by rintro _ _ ⟨_, _, _, _, _, _, _, _, _, _, _, h, _⟩; exact ⟨_, h⟩) | exact sure_body (by rintro _ _ ⟨h, _⟩; exact ⟨_, h⟩)) | refine sure_then ?_ | refine sure_block ?_ | refine sure_join ?_) (by kernel_rfl) ?_
  intro w108 hk107 he109 L hL110
  have hsz111 := Keep.size hk107
  replace hbk := hbk.keep hk107 (fun f => f)
  replace hK0 := Keep.tr hK0 (Keep.ofNone hk107)
  replace ho89 := Rfr.keep ho89 hk107 (fun _ _ f => f)
  replace ho92 := VotT.keep ho92 hk107 (fun _ _ f => f)
  replace ho95 := Led.keep ho95 hk107 (fun _ _ f => f)
  have qhbk := hbk
  have K112 : Keep none_ w108 w108 := Keep.refl _ _
  obtain rfl := List.mem_singleton.1 hL110
  refine Gs [3, 4, 5, 6, 7, 8, 9] [(0, nt a), (1, nt b), (2, nt n), (9, pt b43), (10, nt ((i : Nat) : Int)), (76, .pointer (some ⟨b43, 2, none⟩))] ?_
  refine Gc0 34 (.tmp 76) 2 (pt r44) (some 77) qhbk rfl ?_
  refine Gs [7, 8, 9] [(0, nt a), (1, nt b), (2, nt n), (9, pt b43), (10, nt ((i : Nat) : Int)), (77, pt r44), (80, pt b43)] ?_
  refine Gc0 32 (.tmp 80) 0 (pt l47) (some 81) qhbk rfl ?_
  refine Gs [9] [(0, nt a), (1, nt b), (2, nt n), (9, pt b43), (10, nt ((i : Nat) : Int)), (77, pt r44), (81, pt l47), (82, nt ((i : Nat) : Int))] ?_
  refine GI_final 9 (by kernel_rfl) (by kernel_rfl) ?_
  refine Ok { callee := (Callee.value (Operand.func 21)), args := #[(Operand.tmp 77), (Operand.tmp 81), (Operand.const (Value.int IntKind.i64 5)), (Operand.tmp 82)], argTypes := #[34, 32, 3, 3] } 21 #[pt r44, pt l47, nt 5, nt ((i : Nat) : Int)] (some 83) (deposit_spec F88 r44 gg45 (tkT a b) (rwSub (tkT a b) (tkQ a b i) (1 + (Int.tmod ((i : Nat) : Int) 5)) (Int.tmod ((i : Nat) : Int) 2) 0 z0 0).rs F94 l47 (rwSub (tkT a b) (tkQ a b i) (1 + (Int.tmod ((i : Nat) : Int) 5)) (Int.tmod ((i : Nat) : Int) 2) 0 z0 0).xs (rwSub (tkT a b) (tkQ a b i) (1 + (Int.tmod ((i : Nat) : Int) 5)) (Int.tmod ((i : Nat) : Int) 2) 0 z0 0).cs 5 ((i : Nat) : Int) _ ho89 ho95 hdis98) ?_
  rintro _ w115 ⟨rfl, ⟨F117, F120, ho118, ho121, hfr119, hfr122, hdis123⟩, hk116⟩
  refine ⟨_, rfl, ?_⟩
  have hsz124 := Keep.size hk116
  replace hbk := hbk.keep hk116 (fun hs => by rcases hs with hs | hs; (have u9 : _ = gg45 := hs; have u0 := own102 _ (Rfr.atg ho89); have u1 := lt101 _ (Rfr.atg ho89); omega); (have u0 := own106 _ hs; have u1 := lt105 _ hs; omega))
  replace hK0 := Keep.fresh hK0 hk116 (by intro i hi hs; first | exact hs | (rcases hs with hs | hs; (have u9 : _ = gg45 := hs; have u0 := own102 _ (Rfr.atg ho89); have u1 := lt101 _ (Rfr.atg ho89); omega); (have u0 := own106 i hs; have u1 := lt105 i hs; omega)))
  replace ho92 := VotT.keep ho92 hk116 (fun q hq hs => by rcases hs with hs | hs; exact (fun q h1 h2 => hdis97 q h2 h1) q hq (by rw [show q = gg45 from hs]; exact (Rfr.atg ho89)); exact hdis99 q hq hs)
  have own126 : ∀ q, F117 q → w.heap.size ≤ q ∧ q ≠ b43 := fun q hq => by rcases hfr119 q hq with h | h; (have h1 := own102 q h; have h2 := lt101 q h; omega); omega
  have lt125 := Rfr.lt ho118
  have dis127 : ∀ q, F117 q → ¬ F91 q := fun q h1 h2 => by rcases hfr119 q h1 with h | h; exact hdis97 q h h2; (have h4 := lt103 q h2; omega)
  have own129 : ∀ q, F120 q → w.heap.size ≤ q ∧ q ≠ b43 := fun q hq => by rcases hfr122 q hq with h | h; (have h1 := own106 q h; have h2 := lt105 q h; omega); omega
  have lt128 := Led.lt ho121
  have dis130 : ∀ q, F120 q → ¬ F91 q := fun q h1 h2 => by rcases hfr122 q h1 with h | h; exact (fun q h1 h2 => hdis99 q h2 h1) q h h2; (have h4 := lt103 q h2; omega)
  replace ho118 : Rfr F117 w115 r44 gg45 (tkT a b) (tkQ a b (i + 1)).rs := ho118
  replace ho92 : VotT F91 w115 v46 ((tkQ a b (i + 1)).s) := ho92
  replace ho121 : Led F120 w115 l47 (tkQ a b (i + 1)).xs (tkQ a b (i + 1)).cs := ho121
  refine OI_end rfl ?_
  refine X_block ?_
  refine X_then ?_
  refine V_region ?_
  have hw131 : IntKind.i64.wrap (((i : Nat) : Int) + 1) = ((i + 1 : Nat) : Int) := (wrap64_id (by omega) (by omega)).trans (by omega)
  refine Os 2 [(0, nt a), (1, nt b), (2, nt n), (9, pt b43), (54, nt (IntKind.i64.wrap (((i : Nat) : Int) + 1)))] ?_
  refine OI_eq [(0, nt a), (1, nt b), (2, nt n), (9, pt b43), (54, nt ((i + 1 : Nat) : Int))] (by rw [hw131]) ?_
  refine Os 3 [(0, nt a), (1, nt b), (2, nt n), (9, pt b43), (10, nt ((i + 1 : Nat) : Int))] ?_
  refine OI_end rfl ?_
  exact V_again (k73 - 1) (by omega) [(0, nt a), (1, nt b), (2, nt n), (9, pt b43), (10, nt ((i + 1 : Nat) : Int))] rfl ⟨i + 1, F117, F91, F120, by omega, hbk, ho118, ho92, ho121, (fun q hq => by have h1 := own126 q hq; have h2 := lt125 q hq; omega), (fun q hq => by have h1 := own104 q hq; have h2 := lt103 q hq; omega), (fun q hq => by have h1 := own129 q hq; have h2 := lt128 q hq; omega), dis127, hdis123, (fun q h1 h2 => dis130 q h2 h1), hK0, rfl⟩
 obtain ⟨m, rfl⟩ : ∃ m : Nat, n = ((m : Nat) : Int) := ⟨n.toNat, by omega⟩
 obtain rfl : i = 2 * m := by omega
 obtain ⟨ht1, ht2, ht3, ht4⟩ := tk1 (a := a) (b := b) (n := m) (by omega) (by omega) (by omega)
 refine V_exit ?_
 refine X_exit_then ?_
 refine X_exit_then ?_
 refine X_exit_here ?_
 refine X_then ?_
 refine V_seq ?_
 refine V_draws (acts [12]) none_ [[0, 1, 2, 3, 4, 5, 6, 7, 8, 9, 10, 11, 12]] (by kernel_rfl) (by repeat first | exact (by first | exact sure_body (by rintro _ _ ⟨_, _, h, _⟩; exact ⟨_, h⟩) | exact sure_body (by rintro _ _ ⟨_, _, _, _, _, _, _, _, _, _, _, h, _⟩; exact ⟨_, h⟩) | exact sure_body (by rintro _ _ ⟨h, _⟩; exact ⟨_, h⟩)) | refine sure_then ?_ | refine sure_block ?_ | refine sure_join ?_) (by kernel_rfl) ?_
 intro w133 hk132 he134 L hL135
 have hsz136 := Keep.size hk132
 replace hbk := hbk.keep hk132 (fun f => f)
 replace hRk := Rfr.keep hRk hk132 (fun _ _ f => f)
 replace hVk := VotT.keep hVk hk132 (fun _ _ f => f)
 replace hLk := Led.keep hLk hk132 (fun _ _ f => f)
 replace hK0 := Keep.tr hK0 (Keep.ofNone hk132)
 have qhbk := hbk
 have K137 : Keep none_ w133 w133 := Keep.refl _ _
 obtain rfl := List.mem_singleton.1 hL135
 refine Gs [3, 4, 5, 6, 7, 8, 9, 10, 11, 12] [(0, nt a), (1, nt b), (2, nt ((m : Nat) : Int)), (9, pt b43), (86, .pointer (some ⟨b43, 2, none⟩))] ?_
 refine Gc0 34 (.tmp 86) 2 (pt r44) (some 87) qhbk rfl ?_
 refine Gs [7, 8, 9, 10, 11, 12] [(0, nt a), (1, nt b), (2, nt ((m : Nat) : Int)), (9, pt b43), (87, pt r44), (90, pt b43)] ?_
 refine Gc0 32 (.tmp 90) 0 (pt l47) (some 91) qhbk rfl ?_
 refine Gs [11, 12] [(0, nt a), (1, nt b), (2, nt ((m : Nat) : Int)), (9, pt b43), (87, pt r44), (91, pt l47), (94, .pointer (some ⟨b43, 1, none⟩))] ?_
 refine Gc0 33 (.tmp 94) 1 (pt v46) (some 95) qhbk rfl ?_
 refine GI_final 12 (by kernel_rfl) (by kernel_rfl) ?_
 refine Ok { callee := (Callee.value (Operand.func 22)), args := #[(Operand.tmp 87), (Operand.tmp 91), (Operand.tmp 95), (Operand.const (Value.int IntKind.i64 2))], argTypes := #[34, 32, 33, 3] } 22 #[pt r44, pt l47, pt v46, nt 2] (some 96) (service_spec Hk r44 gg45 (tkT a b) (tkQ a b (2 * m)).rs Fk v46 (tkQ a b (2 * m)).s Gk l47 (tkQ a b (2 * m)).xs (tkQ a b (2 * m)).cs 2 _ hRk hVk hLk dkHF dkHG dkFG) ?_
 rintro _ w140 ⟨A142, cap142, rfl, hA142, ow142, ⟨F143, F146, ho144, ho147, hfr145, hfr148, hdis149, dA150, dA151⟩, hk141⟩
 refine ⟨_, rfl, ?_⟩
 have hsz152 := Keep.size hk141
 replace hbk := hbk.keep hk141 (fun hs => by rcases hs with hs | hs; (have u9 : _ = gg45 := hs; have u0 := hHko _ (Rfr.atg hRk); have u1 := ltHk _ (Rfr.atg hRk); omega); (have u0 := hFko _ hs; have u1 := ltFk _ hs; omega))
 replace hLk := Led.keep hLk hk141 (fun q hq hs => by rcases hs with hs | hs; exact (fun q h1 h2 => dkHG q h2 h1) q hq (by rw [show q = gg45 from hs]; exact (Rfr.atg hRk)); exact (fun q h1 h2 => dkFG q h2 h1) q hq hs)
 replace hK0 := Keep.fresh hK0 hk141 (by intro i hi hs; first | exact hs | (rcases hs with hs | hs; (have u9 : _ = gg45 := hs; have u0 := hHko _ (Rfr.atg hRk); have u1 := ltHk _ (Rfr.atg hRk); omega); (have u0 := hFko i hs; have u1 := ltFk i hs; omega)))
 have own154 : ∀ q, F143 q → w.heap.size ≤ q ∧ q ≠ b43 := fun q hq => by rcases hfr145 q hq with h | h; (have h1 := hHko q h; have h2 := ltHk q h; omega); omega
 have lt153 := Rfr.lt ho144
 have dis155 : ∀ q, F143 q → ¬ Gk q := fun q h1 h2 => by rcases hfr145 q h1 with h | h; exact dkHG q h h2; (have h4 := ltGk q h2; omega)
 have own157 : ∀ q, F146 q → w.heap.size ≤ q ∧ q ≠ b43 := fun q hq => by rcases hfr148 q hq with h | h; (have h1 := hFko q h; have h2 := ltFk q h; omega); omega
 have lt156 := VotT.lt ho147
 have dis158 : ∀ q, F146 q → ¬ Gk q := fun q h1 h2 => by rcases hfr148 q h1 with h | h; exact dkFG q h h2; (have h4 := ltGk q h2; omega)
 replace ho144 : Rfr F143 w140 r44 gg45 (tkT a b) (tkF a b m).rs := ho144
 replace ho147 : VotT F146 w140 v46 ((tkF a b m).s) := ho147
 replace hLk : Led Gk w140 l47 (tkF a b m).xs (tkF a b m).cs := hLk
 refine Oer ?_
 refine Os 3 [(0, nt a), (1, nt b), (2, nt ((m : Nat) : Int)), (100, .pointer (some ⟨b43, 2, none⟩))] ?_
 refine Oc 34 (.tmp 100) 2 (pt r44) (some 101) hbk rfl ?_
 refine Ok { callee := (Callee.value (Operand.func 20)), args := #[(Operand.tmp 101)], argTypes := #[34] } 20 #[pt r44] (some 102) (rall_spec F143 r44 gg45 (tkT a b) (tkF a b m).rs _ ho144) ?_
 rintro _ w159 ⟨A161, cap161, rfl, hA161, ow161, hk160⟩
 refine ⟨_, rfl, ?_⟩
 have hsz162 := Keep.size hk160
 replace hLk := Led.keep hLk hk160 (fun _ _ f => f)
 replace hK0 := Keep.tr hK0 (Keep.ofNone hk160)
 replace ho144 := Rfr.keep ho144 hk160 (fun _ _ f => f)
 replace ho147 := VotT.keep ho147 hk160 (fun _ _ f => f)
 have ltA161 := SlT.lt hA161
 refine Os 10 [(0, nt a), (1, nt b), (2, nt ((m : Nat) : Int)), (11, .slice A161 ((tkF a b m).rs.length) cap161), (12, .bool true)] ?_
 refine Oe ?_
 refine V_seq ?_
 refine Vr ?_
 have hw163 : IntKind.i64.wrap (2 * ((m : Nat) : Int)) = 2 * ((m : Nat) : Int) := (wrap64_id (by omega) (by omega)).trans (by omega)
 refine Os 7 [(0, nt a), (1, nt b), (2, nt ((m : Nat) : Int)), (11, .slice A161 ((tkF a b m).rs.length) cap161), (107, .bool false), (109, nt (((tkF a b m).rs.length : Nat) : Int)), (111, nt (IntKind.i64.wrap (2 * ((m : Nat) : Int))))] ?_
 refine OI_eq [(0, nt a), (1, nt b), (2, nt ((m : Nat) : Int)), (11, .slice A161 ((tkF a b m).rs.length) cap161), (107, .bool false), (109, nt (((tkF a b m).rs.length : Nat) : Int)), (111, nt (2 * ((m : Nat) : Int)))] (by rw [hw163]) ?_
 refine Os 9 [(0, nt a), (1, nt b), (2, nt ((m : Nat) : Int)), (11, .slice A161 ((tkF a b m).rs.length) cap161), (113, .bool (!(decide ((((tkF a b m).rs.length : Nat) : Int) = 2 * ((m : Nat) : Int)))))] ?_
 refine Oe ?_
 refine V_eq [(0, nt a), (1, nt b), (2, nt ((m : Nat) : Int)), (11, .slice A161 ((tkF a b m).rs.length) cap161), (113, .bool false)] (by rw [decide_eq_true (show ((((tkF a b m).rs.length : Nat) : Int) = 2 * ((m : Nat) : Int)) from (by rw [ht1]; omega))]; rfl) ?_
 refine V_false rfl ?_
 refine V_skip ?_
 refine X_then ?_
 refine Vr ?_
 refine Os 1 [(0, nt a), (1, nt b), (2, nt ((m : Nat) : Int)), (11, .slice A161 ((tkF a b m).rs.length) cap161), (114, .agg #[nt 0, nt 0])] ?_
 refine OI_alloc 61 (.agg #[nt 0, nt 0]) [nt 0, nt 0] (some 13) (by kernel_rfl) (by kernel_rfl) (by kernel_rfl) ?_
 intro b165 w165 e165 hb165 k165 z165
 have hsz166 := Keep.size k165
 replace hA161 := SlT.keep0 hA161 k165
 replace hLk := Led.keep hLk k165 (fun _ _ f => f)
 replace hK0 := Keep.tr hK0 (Keep.ofNone k165)
 replace ho144 := Rfr.keep ho144 k165 (fun _ _ f => f)
 replace ho147 := VotT.keep ho147 k165 (fun _ _ f => f)
 have hb165lt := hb165.lt
 refine OI_set (m := 2) (kd := true) 61 (.tmp 13) (.tmp 114) 0 (.agg #[nt 0, nt 0]) [nt 0, nt 0] none (by kernel_rfl) (by kernel_rfl) (by kernel_rfl) hb165 (by kernel_rfl) (by kernel_rfl) (by kernel_rfl) (Nat.le_of_ble_eq_true (by kernel_rfl)) (by simp [Value.oneCell']) ?_
 intro w167 hb165_170 hk168 hz169
 replace hb165_170 : Blk w167 b165 [nt 0, nt 0] 61 := hb165_170
 have hsz171 := Keep.size hk168
 replace hA161 := SlT.keep hA161 hk168 (fun q hq hs => by have hs : q = b165 := hs; have g0 := ow161 q hq; have g1 := ltA161 q hq; omega)
 replace hLk := Led.keep hLk hk168 (fun q hq hs => by have hs : q = b165 := hs; have g0 := hGko q hq; have g1 := ltGk q hq; omega)
 replace hK0 := Keep.fresh hK0 hk168 (by intro i hi hs; first | exact hs | exact Or.inl hs | exact Or.inr hs | (exfalso; have hs2 : i = b165 := hs; omega))
 replace ho144 := Rfr.keep ho144 hk168 (fun q hq hs => by have hs : q = b165 := hs; have g0 := own154 q hq; have g1 := lt153 q hq; omega)
 replace ho147 := VotT.keep ho147 hk168 (fun q hq hs => by have hs : q = b165 := hs; have g0 := own157 q hq; have g1 := lt156 q hq; omega)
 refine Oe ?_
 refine V_seq ?_
 refine Vr ?_
 refine Os 1 [(0, nt a), (1, nt b), (2, nt ((m : Nat) : Int)), (11, .slice A161 ((tkF a b m).rs.length) cap161), (13, pt b165), (14, nt 0)] ?_
 refine Oe ?_
 refine V_block ?_
 refine V_pick [(0, nt a), (1, nt b), (2, nt ((m : Nat) : Int)), (11, .slice A161 ((tkF a b m).rs.length) cap161), (13, pt b165), (14, nt 0)] rfl ?_
 refine V_loop (fun k wI e => ∃ j : Nat, ∃ c0 : Int, ∃ c1 : Int, (k + j = (tkF a b m).rs.length) ∧ (c0 = cntR 0 (tkF a b m).rs j) ∧ (c1 = cntR 1 (tkF a b m).rs j) ∧ (Blk wI b165 [.int .i64 c0, .int .i64 c1] 61) ∧ Keep (only b165) w167 wI ∧ e = [(0, nt a), (1, nt b), (2, nt ((m : Nat) : Int)), (11, .slice A161 ((tkF a b m).rs.length) cap161), (13, pt b165), (14, nt ((j : Nat) : Int))]) ((tkF a b m).rs.length) ⟨0, 0, 0, by omega, rfl, rfl, hb165_170, Keep.refl _ _, rfl⟩ ?_
 rintro k173 w172 _ ⟨j, c0, c1, hkj, hc0, hc1, hb2, hk174, rfl⟩
 have hsz175 := Keep.size hk174
 replace hA161 := SlT.keep hA161 hk174 (fun q hq hs => by have hs : q = b165 := hs; have g0 := ow161 q hq; have g1 := ltA161 q hq; omega)
 replace hK0 := Keep.fresh hK0 hk174 (by intro i hi hs; first | exact hs | exact Or.inl hs | exact Or.inr hs | (exfalso; have hs2 : i = b165 := hs; omega))
 have hzhk174 := Keep.size hk174
 have hb165lt := hb2.lt
 have hcb0 := cntR_bnd 0 (tkF a b m).rs j
 have hcb1 := cntR_bnd 1 (tkF a b m).rs j
 refine V_seq ?_
 refine Vr ?_
 refine Os 4 [(0, nt a), (1, nt b), (2, nt ((m : Nat) : Int)), (11, .slice A161 ((tkF a b m).rs.length) cap161), (13, pt b165), (14, nt ((j : Nat) : Int)), (118, .bool (decide (((j : Nat) : Int) < (((tkF a b m).rs.length : Nat) : Int))))] ?_
 refine Oe ?_
 refine V_if (((j : Nat) : Int) < (((tkF a b m).rs.length : Nat) : Int)) (by kernel_rfl) (fun hc176 => ?_) (fun hc176 => ?_)
 ·
  refine V_skip ?_
  refine X_then ?_
  refine V_seq ?_
  refine V_block ?_
  refine V_seq ?_
  refine Vr ?_
  refine Os 2 [(0, nt a), (1, nt b), (2, nt ((m : Nat) : Int)), (11, .slice A161 ((tkF a b m).rs.length) cap161), (13, pt b165), (14, nt ((j : Nat) : Int)), (121, .slice A161 ((tkF a b m).rs.length) cap161), (122, nt ((j : Nat) : Int))] ?_
  obtain ⟨b177, o177, L177, T177, rfl, hat177⟩ := SlT.open_ hA161 (by first | omega | (simp only [List.length_map]; omega) | (simp; done) | (simp; omega))
  have hb177lt := hat177.blk.lt
  have hob178 := ow161 b177 ⟨_, rfl, rfl⟩
  have hob179 := ltA161 b177 ⟨_, rfl, rfl⟩
  refine OI_pure (some 123) (.indexAddr 45 (.tmp 121) (.tmp 122)) (by kernel_rfl) (pure_idxN (b := b177) (o := o177) (len := (tkF a b m).rs.length) (cap := cap161) (kd := .i64) (j := j) (E := 57) (sz := 45) (by_ := 136) (by kernel_rfl) (by kernel_rfl) (by kernel_rfl) (by omega)) ?_
  refine Os 4 [(0, nt a), (1, nt b), (2, nt ((m : Nat) : Int)), (11, .slice (some ⟨b177, o177, none⟩) ((tkF a b m).rs.length) cap161), (13, pt b165), (14, nt ((j : Nat) : Int)), (124, .pointer (some ⟨b177, o177 + j * 45 + 1, none⟩))] ?_
  obtain ⟨x180, hx181⟩ : ∃ x, ((tkF a b m).rs)[j]? = some x := ⟨_, List.getElem?_eq_getElem (by first | omega | (simp only [List.length_map]; omega))⟩
  refine Oc 3 (.tmp 124) (o177 + j * 45 + 1) (nt x180.track) (some 125) hat177.blk (At.cell hat177 (es_at hx181) rfl) ?_
  refine Os 8 [(0, nt a), (1, nt b), (2, nt ((m : Nat) : Int)), (11, .slice (some ⟨b177, o177, none⟩) ((tkF a b m).rs.length) cap161), (13, pt b165), (14, nt ((j : Nat) : Int)), (128, .bool (!(decide (x180.track = Int.tmod ((j : Nat) : Int) 2))))] ?_
  refine Oe ?_
  refine V_eq [(0, nt a), (1, nt b), (2, nt ((m : Nat) : Int)), (11, .slice (some ⟨b177, o177, none⟩) ((tkF a b m).rs.length) cap161), (13, pt b165), (14, nt ((j : Nat) : Int)), (128, .bool false)] (by rw [decide_eq_true (show (x180.track = Int.tmod ((j : Nat) : Int) 2) from (ht2 hx181))]; rfl) ?_
  refine V_false rfl ?_
  refine V_skip ?_
  refine X_then ?_
  refine Vr ?_
  refine Os 2 [(0, nt a), (1, nt b), (2, nt ((m : Nat) : Int)), (11, .slice (some ⟨b177, o177, none⟩) ((tkF a b m).rs.length) cap161), (13, pt b165), (14, nt ((j : Nat) : Int)), (129, .slice (some ⟨b177, o177, none⟩) ((tkF a b m).rs.length) cap161), (130, nt ((j : Nat) : Int))] ?_
  refine OI_pure (some 131) (.indexAddr 45 (.tmp 129) (.tmp 130)) (by kernel_rfl) (pure_idxN (b := b177) (o := o177) (len := (tkF a b m).rs.length) (cap := cap161) (kd := .i64) (j := j) (E := 57) (sz := 45) (by_ := 136) (by kernel_rfl) (by kernel_rfl) (by kernel_rfl) (by omega)) ?_
  refine Os 4 [(0, nt a), (1, nt b), (2, nt ((m : Nat) : Int)), (11, .slice (some ⟨b177, o177, none⟩) ((tkF a b m).rs.length) cap161), (13, pt b165), (14, nt ((j : Nat) : Int)), (132, .pointer (some ⟨b177, o177 + j * 45 + 39, none⟩))] ?_
  refine Oc 3 (.tmp 132) (o177 + j * 45 + 39) (nt x180.since) (some 133) hat177.blk (At.cell hat177 (es_at hx181) rfl) ?_
  refine Os 6 [(0, nt a), (1, nt b), (2, nt ((m : Nat) : Int)), (11, .slice (some ⟨b177, o177, none⟩) ((tkF a b m).rs.length) cap161), (13, pt b165), (14, nt ((j : Nat) : Int)), (134, .bool (decide (x180.since ≥ 0)))] ?_
  refine Oe ?_
  refine V_if (x180.since ≥ 0) (by kernel_rfl) (fun hc183 => ?_) (fun hc183 => ?_)
  ·
   refine V_region ?_
   refine Os 2 [(0, nt a), (1, nt b), (2, nt ((m : Nat) : Int)), (11, .slice (some ⟨b177, o177, none⟩) ((tkF a b m).rs.length) cap161), (13, pt b165), (14, nt ((j : Nat) : Int)), (136, nt (Int.tmod ((j : Nat) : Int) 2))] ?_
   by_cases hpar184 : Int.tmod ((j : Nat) : Int) 2 = 0
   ·
    refine Op_ [(0, nt a), (1, nt b), (2, nt ((m : Nat) : Int)), (11, .slice (some ⟨b177, o177, none⟩) ((tkF a b m).rs.length) cap161), (13, pt b165), (14, nt ((j : Nat) : Int)), (136, nt (Int.tmod ((j : Nat) : Int) 2))] ?_
    refine OI_eq [(0, nt a), (1, nt b), (2, nt ((m : Nat) : Int)), (11, .slice (some ⟨b177, o177, none⟩) ((tkF a b m).rs.length) cap161), (13, pt b165), (14, nt ((j : Nat) : Int)), (136, nt 0)] (by rw [hpar184]) ?_
    refine Os 3 [(0, nt a), (1, nt b), (2, nt ((m : Nat) : Int)), (11, .slice (some ⟨b177, o177, none⟩) ((tkF a b m).rs.length) cap161), (13, pt b165), (14, nt ((j : Nat) : Int)), (136, nt 0), (137, pt b165)] ?_
    refine Oc 3 (.tmp 137) 0 (nt c0) (some 138) hb2 rfl ?_
    have hw185 : IntKind.i64.wrap (c0 + 1) = c0 + 1 := (wrap64_id (by omega) (by omega)).trans (by omega)
    refine Os 5 [(0, nt a), (1, nt b), (2, nt ((m : Nat) : Int)), (11, .slice (some ⟨b177, o177, none⟩) ((tkF a b m).rs.length) cap161), (13, pt b165), (14, nt ((j : Nat) : Int)), (136, nt 0), (139, nt (IntKind.i64.wrap (c0 + 1)))] ?_
    refine OI_eq [(0, nt a), (1, nt b), (2, nt ((m : Nat) : Int)), (11, .slice (some ⟨b177, o177, none⟩) ((tkF a b m).rs.length) cap161), (13, pt b165), (14, nt ((j : Nat) : Int)), (136, nt 0), (139, nt (c0 + 1))] (by rw [hw185]) ?_
    refine Os 6 [(0, nt a), (1, nt b), (2, nt ((m : Nat) : Int)), (11, .slice (some ⟨b177, o177, none⟩) ((tkF a b m).rs.length) cap161), (13, pt b165), (14, nt ((j : Nat) : Int)), (139, nt (c0 + 1)), (140, pt b165)] ?_
    refine OI_set (m := 1) (kd := false) 3 (.tmp 140) (.tmp 139) 0 (nt (c0 + 1)) [nt (c0 + 1)] none (by kernel_rfl) (by kernel_rfl) (by kernel_rfl) hb2 (by kernel_rfl) (by kernel_rfl) (by kernel_rfl) (Nat.le_of_ble_eq_true (by kernel_rfl)) (by simp [Value.oneCell']) ?_
    intro w186 hb165_189 hk187 hz188
    replace hb165_189 : Blk w186 b165 [nt (c0 + 1), nt c1] 61 := hb165_189
    have hsz190 := Keep.size hk187
    replace hat177 := hat177.keep hk187 (by show ¬ (_ = _); omega)
    replace hK0 := Keep.fresh hK0 hk187 (by intro i hi hs; first | exact hs | exact Or.inl hs | exact Or.inr hs | (exfalso; have hs2 : i = b165 := hs; omega))
    replace hk174 := Keep.fresh hk174 hk187 (by intro i hi hs; first | exact hs | exact Or.inl hs | exact Or.inr hs | (exfalso; have hs2 : i = b165 := hs; omega))
    refine OI_end rfl ?_
    refine X_block ?_
    refine X_then ?_
    refine V_region ?_
    have hw191 : IntKind.i64.wrap (((j : Nat) : Int) + 1) = ((j + 1 : Nat) : Int) := (wrap64_id (by omega) (by omega)).trans (by omega)
    refine Os 2 [(0, nt a), (1, nt b), (2, nt ((m : Nat) : Int)), (11, .slice (some ⟨b177, o177, none⟩) ((tkF a b m).rs.length) cap161), (13, pt b165), (120, nt (IntKind.i64.wrap (((j : Nat) : Int) + 1)))] ?_
    refine OI_eq [(0, nt a), (1, nt b), (2, nt ((m : Nat) : Int)), (11, .slice (some ⟨b177, o177, none⟩) ((tkF a b m).rs.length) cap161), (13, pt b165), (120, nt ((j + 1 : Nat) : Int))] (by rw [hw191]) ?_
    refine Os 3 [(0, nt a), (1, nt b), (2, nt ((m : Nat) : Int)), (11, .slice (some ⟨b177, o177, none⟩) ((tkF a b m).rs.length) cap161), (13, pt b165), (14, nt ((j + 1 : Nat) : Int))] ?_
    refine OI_end rfl ?_
    exact V_again (k173 - 1) (by omega) [(0, nt a), (1, nt b), (2, nt ((m : Nat) : Int)), (11, .slice (some ⟨b177, o177, none⟩) ((tkF a b m).rs.length) cap161), (13, pt b165), (14, nt ((j + 1 : Nat) : Int))] rfl ⟨j + 1, c0 + 1, c1, by omega, by rw [(cntR_yes hx181 hpar184 hc183), hc0], by rw [(cntR_par hx181 (by rw [hpar184]; decide)), hc1], hb165_189, hk174, rfl⟩
   have hpar192 : Int.tmod ((j : Nat) : Int) 2 = 1 := (tmod2 j).resolve_left hpar184
   refine Op_ [(0, nt a), (1, nt b), (2, nt ((m : Nat) : Int)), (11, .slice (some ⟨b177, o177, none⟩) ((tkF a b m).rs.length) cap161), (13, pt b165), (14, nt ((j : Nat) : Int)), (136, nt (Int.tmod ((j : Nat) : Int) 2))] ?_
   refine OI_eq [(0, nt a), (1, nt b), (2, nt ((m : Nat) : Int)), (11, .slice (some ⟨b177, o177, none⟩) ((tkF a b m).rs.length) cap161), (13, pt b165), (14, nt ((j : Nat) : Int)), (136, nt 1)] (by rw [hpar192]) ?_
   refine Os 3 [(0, nt a), (1, nt b), (2, nt ((m : Nat) : Int)), (11, .slice (some ⟨b177, o177, none⟩) ((tkF a b m).rs.length) cap161), (13, pt b165), (14, nt ((j : Nat) : Int)), (136, nt 1), (137, .pointer (some ⟨b165, 1, none⟩))] ?_
   refine Oc 3 (.tmp 137) 1 (nt c1) (some 138) hb2 rfl ?_
   have hw193 : IntKind.i64.wrap (c1 + 1) = c1 + 1 := (wrap64_id (by omega) (by omega)).trans (by omega)
   refine Os 5 [(0, nt a), (1, nt b), (2, nt ((m : Nat) : Int)), (11, .slice (some ⟨b177, o177, none⟩) ((tkF a b m).rs.length) cap161), (13, pt b165), (14, nt ((j : Nat) : Int)), (136, nt 1), (139, nt (IntKind.i64.wrap (c1 + 1)))] ?_
   refine OI_eq [(0, nt a), (1, nt b), (2, nt ((m : Nat) : Int)), (11, .slice (some ⟨b177, o177, none⟩) ((tkF a b m).rs.length) cap161), (13, pt b165), (14, nt ((j : Nat) : Int)), (136, nt 1), (139, nt (c1 + 1))] (by rw [hw193]) ?_
   refine Os 6 [(0, nt a), (1, nt b), (2, nt ((m : Nat) : Int)), (11, .slice (some ⟨b177, o177, none⟩) ((tkF a b m).rs.length) cap161), (13, pt b165), (14, nt ((j : Nat) : Int)), (139, nt (c1 + 1)), (140, .pointer (some ⟨b165, 1, none⟩))] ?_
   refine OI_set (m := 1) (kd := false) 3 (.tmp 140) (.tmp 139) 1 (nt (c1 + 1)) [nt (c1 + 1)] none (by kernel_rfl) (by kernel_rfl) (by kernel_rfl) hb2 (by kernel_rfl) (by kernel_rfl) (by kernel_rfl) (Nat.le_of_ble_eq_true (by kernel_rfl)) (by simp [Value.oneCell']) ?_
   intro w194 hb165_197 hk195 hz196
   replace hb165_197 : Blk w194 b165 [nt c0, nt (c1 + 1)] 61 := hb165_197
   have hsz198 := Keep.size hk195
   replace hat177 := hat177.keep hk195 (by show ¬ (_ = _); omega)
   replace hK0 := Keep.fresh hK0 hk195 (by intro i hi hs; first | exact hs | exact Or.inl hs | exact Or.inr hs | (exfalso; have hs2 : i = b165 := hs; omega))
   replace hk174 := Keep.fresh hk174 hk195 (by intro i hi hs; first | exact hs | exact Or.inl hs | exact Or.inr hs | (exfalso; have hs2 : i = b165 := hs; omega))
   refine OI_end rfl ?_
   refine X_block ?_
   refine X_then ?_
   refine V_region ?_
   have hw199 : IntKind.i64.wrap (((j : Nat) : Int) + 1) = ((j + 1 : Nat) : Int) := (wrap64_id (by omega) (by omega)).trans (by omega)
   refine Os 2 [(0, nt a), (1, nt b), (2, nt ((m : Nat) : Int)), (11, .slice (some ⟨b177, o177, none⟩) ((tkF a b m).rs.length) cap161), (13, pt b165), (120, nt (IntKind.i64.wrap (((j : Nat) : Int) + 1)))] ?_
   refine OI_eq [(0, nt a), (1, nt b), (2, nt ((m : Nat) : Int)), (11, .slice (some ⟨b177, o177, none⟩) ((tkF a b m).rs.length) cap161), (13, pt b165), (120, nt ((j + 1 : Nat) : Int))] (by rw [hw199]) ?_
   refine Os 3 [(0, nt a), (1, nt b), (2, nt ((m : Nat) : Int)), (11, .slice (some ⟨b177, o177, none⟩) ((tkF a b m).rs.length) cap161), (13, pt b165), (14, nt ((j + 1 : Nat) : Int))] ?_
   refine OI_end rfl ?_
   exact V_again (k173 - 1) (by omega) [(0, nt a), (1, nt b), (2, nt ((m : Nat) : Int)), (11, .slice (some ⟨b177, o177, none⟩) ((tkF a b m).rs.length) cap161), (13, pt b165), (14, nt ((j + 1 : Nat) : Int))] rfl ⟨j + 1, c0, c1 + 1, by omega, by rw [(cntR_par hx181 (by rw [hpar192]; decide)), hc0], by rw [(cntR_yes hx181 hpar192 hc183), hc1], hb165_197, hk174, rfl⟩
  refine V_skip ?_
  refine X_block ?_
  refine X_then ?_
  refine V_region ?_
  have hw200 : IntKind.i64.wrap (((j : Nat) : Int) + 1) = ((j + 1 : Nat) : Int) := (wrap64_id (by omega) (by omega)).trans (by omega)
  refine Os 2 [(0, nt a), (1, nt b), (2, nt ((m : Nat) : Int)), (11, .slice (some ⟨b177, o177, none⟩) ((tkF a b m).rs.length) cap161), (13, pt b165), (120, nt (IntKind.i64.wrap (((j : Nat) : Int) + 1)))] ?_
  refine OI_eq [(0, nt a), (1, nt b), (2, nt ((m : Nat) : Int)), (11, .slice (some ⟨b177, o177, none⟩) ((tkF a b m).rs.length) cap161), (13, pt b165), (120, nt ((j + 1 : Nat) : Int))] (by rw [hw200]) ?_
  refine Os 3 [(0, nt a), (1, nt b), (2, nt ((m : Nat) : Int)), (11, .slice (some ⟨b177, o177, none⟩) ((tkF a b m).rs.length) cap161), (13, pt b165), (14, nt ((j + 1 : Nat) : Int))] ?_
  refine OI_end rfl ?_
  exact V_again (k173 - 1) (by omega) [(0, nt a), (1, nt b), (2, nt ((m : Nat) : Int)), (11, .slice (some ⟨b177, o177, none⟩) ((tkF a b m).rs.length) cap161), (13, pt b165), (14, nt ((j + 1 : Nat) : Int))] rfl ⟨j + 1, c0, c1, by omega, by rw [(cntR_no hx181 hc183), hc0], by rw [(cntR_no hx181 hc183), hc1], hb2, hk174, rfl⟩
 have hj2 : j = 2 * m := by omega
 rw [hj2, ht3] at hc0
 rw [hj2, ht4] at hc1
 refine V_exit ?_
 refine X_exit_then ?_
 refine X_exit_then ?_
 refine X_exit_here ?_
 refine X_then ?_
 refine Vr ?_
 refine Os 1 [(0, nt a), (1, nt b), (2, nt ((m : Nat) : Int)), (13, pt b165), (141, pt b165)] ?_
 refine Oc 3 (.tmp 141) 0 (nt c0) (some 142) hb2 rfl ?_
 refine Os 7 [(1, nt b), (2, nt ((m : Nat) : Int)), (13, pt b165), (147, .bool (decide (c0 = imin a ((m : Nat) : Int))))] ?_
 refine OI_eq [(1, nt b), (2, nt ((m : Nat) : Int)), (13, pt b165), (147, .bool true)] (by rw [decide_eq_true (show (c0 = imin a ((m : Nat) : Int)) from hc0)]) ?_
 refine Os 8 [(1, nt b), (2, nt ((m : Nat) : Int)), (147, .bool true), (148, .pointer (some ⟨b165, 1, none⟩))] ?_
 refine Oc 3 (.tmp 148) 1 (nt c1) (some 149) hb2 rfl ?_
 refine Os 15 [(155, .bool (decide (c1 = imin b ((m : Nat) : Int))))] ?_
 refine OI_eq [(155, .bool true)] (by rw [decide_eq_true (show (c1 = imin b ((m : Nat) : Int)) from hc1)]) ?_
 refine Ok { callee := (Callee.value (Operand.func 18)), args := #[], argTypes := #[] } 18 #[] (some 156) (known_spec _) ?_
 rintro _ w203 ⟨rfl, hk204⟩
 refine ⟨_, rfl, ?_⟩
 have hsz205 := Keep.size hk204
 replace hK0 := Keep.tr hK0 (Keep.ofNone hk204)
 refine Os 18 [(6, .bool true)] ?_
 refine Oe ?_
 refine V_ret ?_
 exact X_return (.bool true) rfl ⟨rfl, hK0⟩
end Go.Al

