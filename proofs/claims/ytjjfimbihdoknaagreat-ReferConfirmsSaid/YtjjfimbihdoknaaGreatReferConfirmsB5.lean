/-
  Put together out of 10 texts: Walks of package per. Walks of package track. What a Refer holds, and where. Walks of package slices: few numbers are sorted. Walks of package refer: what is read. Walks of package refer: all, and who waits. Walks of package refer: who waits. Walks of package refer: Sub
-/
import Derived.Test.YtjjfimbihdoknaaGreatReferConfirmsB4
namespace Go.Al
open Go Go.RowKit Go.Proofs
set_option maxRecDepth 10000 in
theorem pIn_spec (n lo hi : Int) (w : World) : Calls Tryz.prog 169 #[nt n, nt lo, nt hi] w fun e w' => e = .returned (.bool (decide (lo ≤ n ∧ n ≤ hi))) ∧ w' = w := by
 refine enterV Tryz.func169 rfl [nt n, nt lo, nt hi] 15 rfl rfl rfl ?_
 refine Vr ?_
 refine On 1 [0, 1, 2] ?_
 refine Oer ?_
 refine Os 4 [(0, nt n), (2, nt hi), (10, .bool (decide (n ≥ lo)))] ?_
 by_cases hg1 : n ≥ lo
 ·
  refine OI_eq [(0, nt n), (2, nt hi), (10, .bool true)] (by first | simp [hg1] | rfl) ?_
  refine Ose [(6, .bool (decide (n ≤ hi)))] ?_
  refine V_ret ?_
  exact X_return (.bool (decide (n ≤ hi))) rfl ⟨by congr 2; simp only [Bool.decide_and]; by_cases h1 : lo ≤ n <;> simp [h1] <;> omega, rfl⟩
 refine OI_eq [(0, nt n), (2, nt hi), (10, .bool false)] (by first | simp [hg1] | rfl) ?_
 refine Ose [(6, .bool false)] ?_
 refine V_ret ?_
 exact X_return (.bool false) rfl ⟨by congr 2; simp only [Bool.decide_and]; by_cases h1 : lo ≤ n <;> simp [h1] <;> omega, rfl⟩
set_option maxRecDepth 10000 in
theorem tIn_spec (n lo hi : Int) (w : World) : Calls Tryz.prog 120 #[nt n, nt lo, nt hi] w fun e w' => e = .returned (.bool (decide (lo ≤ n ∧ n ≤ hi))) ∧ w' = w := by
 refine enterV Tryz.func120 rfl [nt n, nt lo, nt hi] 15 rfl rfl rfl ?_
 refine Vr ?_
 refine On 1 [0, 1, 2] ?_
 refine Oer ?_
 refine Os 4 [(0, nt n), (2, nt hi), (10, .bool (decide (n ≥ lo)))] ?_
 by_cases hg1 : n ≥ lo
 ·
  refine OI_eq [(0, nt n), (2, nt hi), (10, .bool true)] (by first | simp [hg1] | rfl) ?_
  refine Ose [(6, .bool (decide (n ≤ hi)))] ?_
  refine V_ret ?_
  exact X_return (.bool (decide (n ≤ hi))) rfl ⟨by congr 2; simp only [Bool.decide_and]; by_cases h1 : lo ≤ n <;> simp [h1] <;> omega, rfl⟩
 refine OI_eq [(0, nt n), (2, nt hi), (10, .bool false)] (by first | simp [hg1] | rfl) ?_
 refine Ose [(6, .bool false)] ?_
 refine V_ret ?_
 exact X_return (.bool false) rfl ⟨by congr 2; simp only [Bool.decide_and]; by_cases h1 : lo ≤ n <;> simp [h1] <;> omega, rfl⟩
set_option maxRecDepth 10000 in
theorem pheld_spec (n lo hi : Int) (w : World) : Calls Tryz.prog 186 #[nt n, nt lo, nt hi] w fun e w' => e = .returned (nt (heldI n lo hi)) ∧ w' = w := by
 refine enterV Tryz.func186 rfl [nt n, nt lo, nt hi] 12 rfl rfl rfl ?_
 refine Vr ?_
 refine On 1 [0, 1, 2] ?_
 refine Oer ?_
 refine Ose [(6, nt (imin (imax n lo) hi))] ?_
 refine V_ret ?_
 exact X_return (nt (imin (imax n lo) hi)) rfl ⟨by unfold heldI; rfl, rfl⟩
set_option maxRecDepth 10000 in
theorem ratio_spec (a b : Int) (w : World) : Calls Tryz.prog 153 #[nt a, nt b] w fun e w' => e = .returned (nt (ratioI a b)) ∧ w' = w := by
 refine enterV Tryz.func153 rfl [nt a, nt b] 12 rfl rfl rfl ?_
 refine Vr ?_
 refine On 1 [0, 1] ?_
 refine Oe ?_
 refine V_seq ?_
 refine Vs [(0, nt a), (1, nt b), (6, .bool (decide (b = 0)))] ?_
 refine V_if (b = 0) (by kernel_rfl) (fun hc1 => ?_) (fun hc1 => ?_)
 ·
  refine Vs [(4, nt 0)] ?_
  refine V_ret ?_
  refine X_ret_then ?_
  exact X_return (nt 0) rfl ⟨by unfold ratioI; rw [if_pos hc1], rfl⟩
 refine V_skip ?_
 refine X_then ?_
 refine Vr ?_
 refine On 3 [8, 9] ?_
 refine OI_pure (some 10) ((Op.binOp BinOp.quo 3 (Operand.tmp 8) (Operand.tmp 9) 3)) (by kernel_rfl) (pure_quo (k := .i64) (a := IntKind.i64.wrap (a * 1000000000)) (b := b) (by kernel_rfl) (by kernel_rfl) hc1) ?_
 refine Ose [(4, nt (imin (IntKind.i64.wrap (Int.tdiv (IntKind.i64.wrap (a * 1000000000)) b)) 1000000000))] ?_
 refine V_ret ?_
 exact X_return (nt (imin (IntKind.i64.wrap (Int.tdiv (IntKind.i64.wrap (a * 1000000000)) b)) 1000000000)) rfl ⟨by unfold ratioI; rw [if_neg hc1], rfl⟩
set_option maxRecDepth 10000 in
theorem perIs_spec (c : Crv) (w : World) : Calls Tryz.prog 121 #[.agg c.cells.toArray] w fun e w' => e = .returned (.bool (decide (okCrv c))) ∧ Keep none_ w w' := by
 have hK0 : Keep none_ w w := Keep.refl _ _
 have hzhK0 := Keep.size hK0
 refine enterV Tryz.func121 rfl [.agg (Crv.cells c).toArray] 57 rfl rfl rfl ?_
 refine Vr ?_
 refine OI_box 25 (.tmp 0) (.agg (Crv.cells c).toArray) (Crv.cells c) (some 1) (by kernel_rfl) (by kernel_rfl) rfl ?_
 intro b1 w1 e1 hb1 k1 z1
 have hsz2 := Keep.size k1
 replace hK0 := hK0.tn k1
 have hb1lt := hb1.lt
 refine On 2 [1] ?_
 refine Oer ?_
 refine On 1 [1, 4] ?_
 refine Oc 3 (.tmp 4) 1 (nt c.a) (some 5) hb1 rfl ?_
 refine Ok (kl 169 #[(.tmp 5), (.const (nt 0)), (.const (nt 1000000000))] #[3, 3, 3]) 169 #[nt c.a, nt 0, nt 1000000000] (some 6) (pIn_spec c.a 0 1000000000 _) ?_
 rintro _ w1 ⟨rfl, rfl⟩
 refine ⟨_, rfl, ?_⟩
 refine Os 4 [(1, pt b1), (7, .bool (decide ((0 : Int) ≤ c.a ∧ c.a ≤ 1000000000)))] ?_
 by_cases hg4 : (0 : Int) ≤ c.a ∧ c.a ≤ 1000000000
 ·
  refine OI_eq [(1, pt b1), (7, .bool true)] (by first | simp [hg4] | rfl) ?_
  refine On 5 [1, 7, 8] ?_
  refine Oc 3 (.tmp 8) 2 (nt c.b) (some 9) hb1 rfl ?_
  refine On 7 [1, 7, 9, 10] ?_
  refine Oc 3 (.tmp 10) 1 (nt c.a) (some 11) hb1 rfl ?_
  refine Ok (kl 169 #[(.tmp 9), (.const (nt 0)), (.tmp 11)] #[3, 3, 3]) 169 #[nt c.b, nt 0, nt c.a] (some 12) (pIn_spec c.b 0 c.a _) ?_
  rintro _ w1 ⟨rfl, rfl⟩
  refine ⟨_, rfl, ?_⟩
  refine Os 11 [(1, pt b1), (14, .bool (decide ((0 : Int) ≤ c.b ∧ c.b ≤ c.a)))] ?_
  by_cases hg6 : (0 : Int) ≤ c.b ∧ c.b ≤ c.a
  ·
   refine OI_eq [(1, pt b1), (14, .bool true)] (by first | simp [hg6] | rfl) ?_
   refine On 12 [1, 14, 15] ?_
   refine Oc 3 (.tmp 15) 3 (nt c.c) (some 16) hb1 rfl ?_
   refine Ok (kl 169 #[(.tmp 16), (.const (nt 1)), (.const (nt 1000000000))] #[3, 3, 3]) 169 #[nt c.c, nt 1, nt 1000000000] (some 17) (pIn_spec c.c 1 1000000000 _) ?_
   rintro _ w1 ⟨rfl, rfl⟩
   refine ⟨_, rfl, ?_⟩
   refine On 16 [1, 3] ?_
   refine Oe ?_
   refine V_seq ?_
   refine Vr ?_
   refine On 1 [1, 3, 19] ?_
   refine Oc 3 (.tmp 19) 0 (nt c.k) (some 20) hb1 rfl ?_
   refine Oe ?_
   refine V_block ?_
   refine Vs [(1, pt b1), (3, .bool (decide ((1 : Int) ≤ c.c ∧ c.c ≤ 1000000000))), (20, nt c.k), (21, .bool (decide (c.k = 1)))] ?_
   refine V_if (c.k = 1) (by kernel_rfl) (fun hc8 => ?_) (fun hc8 => ?_)
   ·
    refine Vr ?_
    refine Os 2 [(1, pt b1), (24, .bool (decide ((1 : Int) ≤ c.c ∧ c.c ≤ 1000000000)))] ?_
    by_cases hg9 : (1 : Int) ≤ c.c ∧ c.c ≤ 1000000000
    ·
     refine OI_eq [(1, pt b1), (24, .bool true)] (by first | simp [hg9] | rfl) ?_
     refine On 3 [24, 25] ?_
     refine Oc 3 (.tmp 25) 4 (nt c.d) (some 26) hb1 rfl ?_
     refine Ose [(2, .bool (decide (c.d = 0)))] ?_
     refine V_ret ?_
     refine X_ret_block ?_
     refine X_ret_then ?_
     exact X_return (.bool (decide (c.d = 0))) rfl ⟨by congr 2; first | (apply Eq.symm; (try simp only [decide_eq_true_eq]); (try simp only [decide_eq_false_iff_not]); unfold okCrv fallsC; simp_all <;> omega) | (rw [decide_eq_decide]; unfold okCrv fallsC; simp_all <;> omega), hK0⟩
    refine OI_eq [(1, pt b1), (24, .bool false)] (by first | simp [hg9] | rfl) ?_
    refine Ose [(2, .bool false)] ?_
    refine V_ret ?_
    refine X_ret_block ?_
    refine X_ret_then ?_
    exact X_return (.bool false) rfl ⟨by congr 2; first | (apply Eq.symm; (try simp only [decide_eq_true_eq]); (try simp only [decide_eq_false_iff_not]); unfold okCrv fallsC; simp_all <;> omega) | (rw [decide_eq_decide]; unfold okCrv fallsC; simp_all <;> omega), hK0⟩
   refine Vs [(1, pt b1), (3, .bool (decide ((1 : Int) ≤ c.c ∧ c.c ≤ 1000000000))), (20, nt c.k), (29, .bool (decide (c.k = 2)))] ?_
   refine V_if (c.k = 2) (by kernel_rfl) (fun hc10 => ?_) (fun hc10 => ?_)
   ·
    refine Vr ?_
    refine Os 2 [(1, pt b1), (32, .bool (decide ((1 : Int) ≤ c.c ∧ c.c ≤ 1000000000)))] ?_
    by_cases hg11 : (1 : Int) ≤ c.c ∧ c.c ≤ 1000000000
    ·
     refine OI_eq [(1, pt b1), (32, .bool true)] (by first | simp [hg11] | rfl) ?_
     refine On 3 [32, 33] ?_
     refine Oc 3 (.tmp 33) 4 (nt c.d) (some 34) hb1 rfl ?_
     refine Ok (kl 169 #[(.tmp 34), (.const (nt 1)), (.const (nt 1000000000))] #[3, 3, 3]) 169 #[nt c.d, nt 1, nt 1000000000] (some 35) (pIn_spec c.d 1 1000000000 _) ?_
     rintro _ w1 ⟨rfl, rfl⟩
     refine ⟨_, rfl, ?_⟩
     refine Ose [(2, .bool (decide ((1 : Int) ≤ c.d ∧ c.d ≤ 1000000000)))] ?_
     refine V_ret ?_
     refine X_ret_block ?_
     refine X_ret_then ?_
     exact X_return (.bool (decide ((1 : Int) ≤ c.d ∧ c.d ≤ 1000000000))) rfl ⟨by congr 2; first | (apply Eq.symm; (try simp only [decide_eq_true_eq]); (try simp only [decide_eq_false_iff_not]); unfold okCrv fallsC; simp_all <;> omega) | (rw [decide_eq_decide]; unfold okCrv fallsC; simp_all <;> omega), hK0⟩
    refine OI_eq [(1, pt b1), (32, .bool false)] (by first | simp [hg11] | rfl) ?_
    refine Ose [(2, .bool false)] ?_
    refine V_ret ?_
    refine X_ret_block ?_
    refine X_ret_then ?_
    exact X_return (.bool false) rfl ⟨by congr 2; first | (apply Eq.symm; (try simp only [decide_eq_true_eq]); (try simp only [decide_eq_false_iff_not]); unfold okCrv fallsC; simp_all <;> omega) | (rw [decide_eq_decide]; unfold okCrv fallsC; simp_all <;> omega), hK0⟩
   refine Vs [(1, pt b1), (37, .bool (decide (c.k = 3)))] ?_
   refine V_if (c.k = 3) (by kernel_rfl) (fun hc13 => ?_) (fun hc13 => ?_)
   ·
    refine Vr ?_
    refine On 1 [1, 39] ?_
    refine Oc 3 (.tmp 39) 1 (nt c.a) (some 40) hb1 rfl ?_
    refine Ok (kl 169 #[(.tmp 40), (.const (nt 0)), (.const (nt 1000000000))] #[3, 3, 3]) 169 #[nt c.a, nt 0, nt 1000000000] (some 41) (pIn_spec c.a 0 1000000000 _) ?_
    rintro _ w1 ⟨rfl, rfl⟩
    refine ⟨_, rfl, ?_⟩
    refine Os 4 [(1, pt b1), (42, .bool (decide ((0 : Int) ≤ c.a ∧ c.a ≤ 1000000000)))] ?_
    by_cases hg15 : (0 : Int) ≤ c.a ∧ c.a ≤ 1000000000
    ·
     refine OI_eq [(1, pt b1), (42, .bool true)] (by first | simp [hg15] | rfl) ?_
     refine On 5 [1, 42, 43] ?_
     refine Oc 3 (.tmp 43) 3 (nt c.c) (some 44) hb1 rfl ?_
     refine Ok (kl 169 #[(.tmp 44), (.const (nt 0)), (.const (nt 1000000000))] #[3, 3, 3]) 169 #[nt c.c, nt 0, nt 1000000000] (some 45) (pIn_spec c.c 0 1000000000 _) ?_
     rintro _ w1 ⟨rfl, rfl⟩
     refine ⟨_, rfl, ?_⟩
     refine Os 9 [(1, pt b1), (47, .bool (decide ((0 : Int) ≤ c.c ∧ c.c ≤ 1000000000)))] ?_
     by_cases hg17 : (0 : Int) ≤ c.c ∧ c.c ≤ 1000000000
     ·
      refine OI_eq [(1, pt b1), (47, .bool true)] (by first | simp [hg17] | rfl) ?_
      refine On 10 [1, 47, 48] ?_
      refine Oc 3 (.tmp 48) 2 (nt c.b) (some 49) hb1 rfl ?_
      refine Ok (kl 169 #[(.tmp 49), (.const (nt 1)), (.const (nt 1000000000))] #[3, 3, 3]) 169 #[nt c.b, nt 1, nt 1000000000] (some 50) (pIn_spec c.b 1 1000000000 _) ?_
      rintro _ w1 ⟨rfl, rfl⟩
      refine ⟨_, rfl, ?_⟩
      refine Os 14 [(1, pt b1), (52, .bool (decide ((1 : Int) ≤ c.b ∧ c.b ≤ 1000000000)))] ?_
      by_cases hg19 : (1 : Int) ≤ c.b ∧ c.b ≤ 1000000000
      ·
       refine OI_eq [(1, pt b1), (52, .bool true)] (by first | simp [hg19] | rfl) ?_
       refine On 15 [52, 53] ?_
       refine Oc 3 (.tmp 53) 4 (nt c.d) (some 54) hb1 rfl ?_
       refine Ose [(2, .bool (decide (c.d = 0)))] ?_
       refine V_ret ?_
       refine X_ret_block ?_
       refine X_ret_then ?_
       exact X_return (.bool (decide (c.d = 0))) rfl ⟨by congr 2; first | (apply Eq.symm; (try simp only [decide_eq_true_eq]); (try simp only [decide_eq_false_iff_not]); unfold okCrv fallsC; simp_all <;> omega) | (rw [decide_eq_decide]; unfold okCrv fallsC; simp_all <;> omega), hK0⟩
      refine OI_eq [(1, pt b1), (52, .bool false)] (by first | simp [hg19] | rfl) ?_
      refine Ose [(2, .bool false)] ?_
      refine V_ret ?_
      refine X_ret_block ?_
      refine X_ret_then ?_
      exact X_return (.bool false) rfl ⟨by congr 2; first | (apply Eq.symm; (try simp only [decide_eq_true_eq]); (try simp only [decide_eq_false_iff_not]); unfold okCrv fallsC; simp_all <;> omega) | (rw [decide_eq_decide]; unfold okCrv fallsC; simp_all <;> omega), hK0⟩
     refine OI_eq [(1, pt b1), (47, .bool false)] (by first | simp [hg17] | rfl) ?_
     refine Ose [(2, .bool false)] ?_
     refine V_ret ?_
     refine X_ret_block ?_
     refine X_ret_then ?_
     exact X_return (.bool false) rfl ⟨by congr 2; first | (apply Eq.symm; (try simp only [decide_eq_true_eq]); (try simp only [decide_eq_false_iff_not]); unfold okCrv fallsC; simp_all <;> omega) | (rw [decide_eq_decide]; unfold okCrv fallsC; simp_all <;> omega), hK0⟩
    refine OI_eq [(1, pt b1), (42, .bool false)] (by first | simp [hg15] | rfl) ?_
    refine Ose [(2, .bool false)] ?_
    refine V_ret ?_
    refine X_ret_block ?_
    refine X_ret_then ?_
    exact X_return (.bool false) rfl ⟨by congr 2; first | (apply Eq.symm; (try simp only [decide_eq_true_eq]); (try simp only [decide_eq_false_iff_not]); unfold okCrv fallsC; simp_all <;> omega) | (rw [decide_eq_decide]; unfold okCrv fallsC; simp_all <;> omega), hK0⟩
   refine V_skip ?_
   refine X_block ?_
   refine X_then ?_
   refine Vs [(2, .bool false)] ?_
   refine V_ret ?_
   exact X_return (.bool false) rfl ⟨by congr 2; first | (apply Eq.symm; (try simp only [decide_eq_true_eq]); (try simp only [decide_eq_false_iff_not]); unfold okCrv fallsC; simp_all <;> omega) | (rw [decide_eq_decide]; unfold okCrv fallsC; simp_all <;> omega), hK0⟩
  refine OI_eq [(1, pt b1), (14, .bool false)] (by first | simp [hg6] | rfl) ?_
  refine On 16 [1, 3] ?_
  refine Oe ?_
  refine V_seq ?_
  refine Vr ?_
  refine On 1 [1, 3, 19] ?_
  refine Oc 3 (.tmp 19) 0 (nt c.k) (some 20) hb1 rfl ?_
  refine Oe ?_
  refine V_block ?_
  refine Vs [(1, pt b1), (3, .bool false), (20, nt c.k), (21, .bool (decide (c.k = 1)))] ?_
  refine V_if (c.k = 1) (by kernel_rfl) (fun hc20 => ?_) (fun hc20 => ?_)
  ·
   refine Vs [(2, .bool false)] ?_
   refine V_ret ?_
   refine X_ret_block ?_
   refine X_ret_then ?_
   exact X_return (.bool false) rfl ⟨by congr 2; first | (apply Eq.symm; (try simp only [decide_eq_true_eq]); (try simp only [decide_eq_false_iff_not]); unfold okCrv fallsC; simp_all <;> omega) | (rw [decide_eq_decide]; unfold okCrv fallsC; simp_all <;> omega), hK0⟩
  refine Vs [(1, pt b1), (3, .bool false), (20, nt c.k), (29, .bool (decide (c.k = 2)))] ?_
  refine V_if (c.k = 2) (by kernel_rfl) (fun hc21 => ?_) (fun hc21 => ?_)
  ·
   refine Vs [(2, .bool false)] ?_
   refine V_ret ?_
   refine X_ret_block ?_
   refine X_ret_then ?_
   exact X_return (.bool false) rfl ⟨by congr 2; first | (apply Eq.symm; (try simp only [decide_eq_true_eq]); (try simp only [decide_eq_false_iff_not]); unfold okCrv fallsC; simp_all <;> omega) | (rw [decide_eq_decide]; unfold okCrv fallsC; simp_all <;> omega), hK0⟩
  refine Vs [(1, pt b1), (37, .bool (decide (c.k = 3)))] ?_
  refine V_if (c.k = 3) (by kernel_rfl) (fun hc22 => ?_) (fun hc22 => ?_)
  ·
   refine Vr ?_
   refine On 1 [1, 39] ?_
   refine Oc 3 (.tmp 39) 1 (nt c.a) (some 40) hb1 rfl ?_
   refine Ok (kl 169 #[(.tmp 40), (.const (nt 0)), (.const (nt 1000000000))] #[3, 3, 3]) 169 #[nt c.a, nt 0, nt 1000000000] (some 41) (pIn_spec c.a 0 1000000000 _) ?_
   rintro _ w1 ⟨rfl, rfl⟩
   refine ⟨_, rfl, ?_⟩
   refine Os 4 [(1, pt b1), (42, .bool (decide ((0 : Int) ≤ c.a ∧ c.a ≤ 1000000000)))] ?_
   by_cases hg24 : (0 : Int) ≤ c.a ∧ c.a ≤ 1000000000
   ·
    refine OI_eq [(1, pt b1), (42, .bool true)] (by first | simp [hg24] | rfl) ?_
    refine On 5 [1, 42, 43] ?_
    refine Oc 3 (.tmp 43) 3 (nt c.c) (some 44) hb1 rfl ?_
    refine Ok (kl 169 #[(.tmp 44), (.const (nt 0)), (.const (nt 1000000000))] #[3, 3, 3]) 169 #[nt c.c, nt 0, nt 1000000000] (some 45) (pIn_spec c.c 0 1000000000 _) ?_
    rintro _ w1 ⟨rfl, rfl⟩
    refine ⟨_, rfl, ?_⟩
    refine Os 9 [(1, pt b1), (47, .bool (decide ((0 : Int) ≤ c.c ∧ c.c ≤ 1000000000)))] ?_
    by_cases hg26 : (0 : Int) ≤ c.c ∧ c.c ≤ 1000000000
    ·
     refine OI_eq [(1, pt b1), (47, .bool true)] (by first | simp [hg26] | rfl) ?_
     refine On 10 [1, 47, 48] ?_
     refine Oc 3 (.tmp 48) 2 (nt c.b) (some 49) hb1 rfl ?_
     refine Ok (kl 169 #[(.tmp 49), (.const (nt 1)), (.const (nt 1000000000))] #[3, 3, 3]) 169 #[nt c.b, nt 1, nt 1000000000] (some 50) (pIn_spec c.b 1 1000000000 _) ?_
     rintro _ w1 ⟨rfl, rfl⟩
     refine ⟨_, rfl, ?_⟩
     refine Os 14 [(1, pt b1), (52, .bool (decide ((1 : Int) ≤ c.b ∧ c.b ≤ 1000000000)))] ?_
     by_cases hg28 : (1 : Int) ≤ c.b ∧ c.b ≤ 1000000000
     ·
      refine OI_eq [(1, pt b1), (52, .bool true)] (by first | simp [hg28] | rfl) ?_
      refine On 15 [52, 53] ?_
      refine Oc 3 (.tmp 53) 4 (nt c.d) (some 54) hb1 rfl ?_
      refine Ose [(2, .bool (decide (c.d = 0)))] ?_
      refine V_ret ?_
      refine X_ret_block ?_
      refine X_ret_then ?_
      exact X_return (.bool (decide (c.d = 0))) rfl ⟨by congr 2; first | (apply Eq.symm; (try simp only [decide_eq_true_eq]); (try simp only [decide_eq_false_iff_not]); unfold okCrv fallsC; simp_all <;> omega) | (rw [decide_eq_decide]; unfold okCrv fallsC; simp_all <;> omega), hK0⟩
     refine OI_eq [(1, pt b1), (52, .bool false)] (by first | simp [hg28] | rfl) ?_
     refine Ose [(2, .bool false)] ?_
     refine V_ret ?_
     refine X_ret_block ?_
     refine X_ret_then ?_
     exact X_return (.bool false) rfl ⟨by congr 2; first | (apply Eq.symm; (try simp only [decide_eq_true_eq]); (try simp only [decide_eq_false_iff_not]); unfold okCrv fallsC; simp_all <;> omega) | (rw [decide_eq_decide]; unfold okCrv fallsC; simp_all <;> omega), hK0⟩
    refine OI_eq [(1, pt b1), (47, .bool false)] (by first | simp [hg26] | rfl) ?_
    refine Ose [(2, .bool false)] ?_
    refine V_ret ?_
    refine X_ret_block ?_
    refine X_ret_then ?_
    exact X_return (.bool false) rfl ⟨by congr 2; first | (apply Eq.symm; (try simp only [decide_eq_true_eq]); (try simp only [decide_eq_false_iff_not]); unfold okCrv fallsC; simp_all <;> omega) | (rw [decide_eq_decide]; unfold okCrv fallsC; simp_all <;> omega), hK0⟩
   refine OI_eq [(1, pt b1), (42, .bool false)] (by first | simp [hg24] | rfl) ?_
   refine Ose [(2, .bool false)] ?_
   refine V_ret ?_
   refine X_ret_block ?_
   refine X_ret_then ?_
   exact X_return (.bool false) rfl ⟨by congr 2; first | (apply Eq.symm; (try simp only [decide_eq_true_eq]); (try simp only [decide_eq_false_iff_not]); unfold okCrv fallsC; simp_all <;> omega) | (rw [decide_eq_decide]; unfold okCrv fallsC; simp_all <;> omega), hK0⟩
  refine V_skip ?_
  refine X_block ?_
  refine X_then ?_
  refine Vs [(2, .bool false)] ?_
  refine V_ret ?_
  exact X_return (.bool false) rfl ⟨by congr 2; first | (apply Eq.symm; (try simp only [decide_eq_true_eq]); (try simp only [decide_eq_false_iff_not]); unfold okCrv fallsC; simp_all <;> omega) | (rw [decide_eq_decide]; unfold okCrv fallsC; simp_all <;> omega), hK0⟩
 refine OI_eq [(1, pt b1), (7, .bool false)] (by first | simp [hg4] | rfl) ?_
 refine On 16 [1, 3] ?_
 refine Oe ?_
 refine V_seq ?_
 refine Vr ?_
 refine On 1 [1, 3, 19] ?_
 refine Oc 3 (.tmp 19) 0 (nt c.k) (some 20) hb1 rfl ?_
 refine Oe ?_
 refine V_block ?_
 refine Vs [(1, pt b1), (3, .bool false), (20, nt c.k), (21, .bool (decide (c.k = 1)))] ?_
 refine V_if (c.k = 1) (by kernel_rfl) (fun hc29 => ?_) (fun hc29 => ?_)
 ·
  refine Vs [(2, .bool false)] ?_
  refine V_ret ?_
  refine X_ret_block ?_
  refine X_ret_then ?_
  exact X_return (.bool false) rfl ⟨by congr 2; first | (apply Eq.symm; (try simp only [decide_eq_true_eq]); (try simp only [decide_eq_false_iff_not]); unfold okCrv fallsC; simp_all <;> omega) | (rw [decide_eq_decide]; unfold okCrv fallsC; simp_all <;> omega), hK0⟩
 refine Vs [(1, pt b1), (3, .bool false), (20, nt c.k), (29, .bool (decide (c.k = 2)))] ?_
 refine V_if (c.k = 2) (by kernel_rfl) (fun hc30 => ?_) (fun hc30 => ?_)
 ·
  refine Vs [(2, .bool false)] ?_
  refine V_ret ?_
  refine X_ret_block ?_
  refine X_ret_then ?_
  exact X_return (.bool false) rfl ⟨by congr 2; first | (apply Eq.symm; (try simp only [decide_eq_true_eq]); (try simp only [decide_eq_false_iff_not]); unfold okCrv fallsC; simp_all <;> omega) | (rw [decide_eq_decide]; unfold okCrv fallsC; simp_all <;> omega), hK0⟩
 refine Vs [(1, pt b1), (37, .bool (decide (c.k = 3)))] ?_
 refine V_if (c.k = 3) (by kernel_rfl) (fun hc31 => ?_) (fun hc31 => ?_)
 ·
  refine Vr ?_
  refine On 1 [1, 39] ?_
  refine Oc 3 (.tmp 39) 1 (nt c.a) (some 40) hb1 rfl ?_
  refine Ok (kl 169 #[(.tmp 40), (.const (nt 0)), (.const (nt 1000000000))] #[3, 3, 3]) 169 #[nt c.a, nt 0, nt 1000000000] (some 41) (pIn_spec c.a 0 1000000000 _) ?_
  rintro _ w1 ⟨rfl, rfl⟩
  refine ⟨_, rfl, ?_⟩
  refine Os 4 [(1, pt b1), (42, .bool (decide ((0 : Int) ≤ c.a ∧ c.a ≤ 1000000000)))] ?_
  by_cases hg33 : (0 : Int) ≤ c.a ∧ c.a ≤ 1000000000
  ·
   refine OI_eq [(1, pt b1), (42, .bool true)] (by first | simp [hg33] | rfl) ?_
   refine On 5 [1, 42, 43] ?_
   refine Oc 3 (.tmp 43) 3 (nt c.c) (some 44) hb1 rfl ?_
   refine Ok (kl 169 #[(.tmp 44), (.const (nt 0)), (.const (nt 1000000000))] #[3, 3, 3]) 169 #[nt c.c, nt 0, nt 1000000000] (some 45) (pIn_spec c.c 0 1000000000 _) ?_
   rintro _ w1 ⟨rfl, rfl⟩
   refine ⟨_, rfl, ?_⟩
   refine Os 9 [(1, pt b1), (47, .bool (decide ((0 : Int) ≤ c.c ∧ c.c ≤ 1000000000)))] ?_
   by_cases hg35 : (0 : Int) ≤ c.c ∧ c.c ≤ 1000000000
   ·
    refine OI_eq [(1, pt b1), (47, .bool true)] (by first | simp [hg35] | rfl) ?_
    refine On 10 [1, 47, 48] ?_
    refine Oc 3 (.tmp 48) 2 (nt c.b) (some 49) hb1 rfl ?_
    refine Ok (kl 169 #[(.tmp 49), (.const (nt 1)), (.const (nt 1000000000))] #[3, 3, 3]) 169 #[nt c.b, nt 1, nt 1000000000] (some 50) (pIn_spec c.b 1 1000000000 _) ?_
    rintro _ w1 ⟨rfl, rfl⟩
    refine ⟨_, rfl, ?_⟩
    refine Os 14 [(1, pt b1), (52, .bool (decide ((1 : Int) ≤ c.b ∧ c.b ≤ 1000000000)))] ?_
    by_cases hg37 : (1 : Int) ≤ c.b ∧ c.b ≤ 1000000000
    ·
     refine OI_eq [(1, pt b1), (52, .bool true)] (by first | simp [hg37] | rfl) ?_
     refine On 15 [52, 53] ?_
     refine Oc 3 (.tmp 53) 4 (nt c.d) (some 54) hb1 rfl ?_
     refine Ose [(2, .bool (decide (c.d = 0)))] ?_
     refine V_ret ?_
     refine X_ret_block ?_
     refine X_ret_then ?_
     exact X_return (.bool (decide (c.d = 0))) rfl ⟨by congr 2; first | (apply Eq.symm; (try simp only [decide_eq_true_eq]); (try simp only [decide_eq_false_iff_not]); unfold okCrv fallsC; simp_all <;> omega) | (rw [decide_eq_decide]; unfold okCrv fallsC; simp_all <;> omega), hK0⟩
    refine OI_eq [(1, pt b1), (52, .bool false)] (by first | simp [hg37] | rfl) ?_
    refine Ose [(2, .bool false)] ?_
    refine V_ret ?_
    refine X_ret_block ?_
    refine X_ret_then ?_
    exact X_return (.bool false) rfl ⟨by congr 2; first | (apply Eq.symm; (try simp only [decide_eq_true_eq]); (try simp only [decide_eq_false_iff_not]); unfold okCrv fallsC; simp_all <;> omega) | (rw [decide_eq_decide]; unfold okCrv fallsC; simp_all <;> omega), hK0⟩
   refine OI_eq [(1, pt b1), (47, .bool false)] (by first | simp [hg35] | rfl) ?_
   refine Ose [(2, .bool false)] ?_
   refine V_ret ?_
   refine X_ret_block ?_
   refine X_ret_then ?_
   exact X_return (.bool false) rfl ⟨by congr 2; first | (apply Eq.symm; (try simp only [decide_eq_true_eq]); (try simp only [decide_eq_false_iff_not]); unfold okCrv fallsC; simp_all <;> omega) | (rw [decide_eq_decide]; unfold okCrv fallsC; simp_all <;> omega), hK0⟩
  refine OI_eq [(1, pt b1), (42, .bool false)] (by first | simp [hg33] | rfl) ?_
  refine Ose [(2, .bool false)] ?_
  refine V_ret ?_
  refine X_ret_block ?_
  refine X_ret_then ?_
  exact X_return (.bool false) rfl ⟨by congr 2; first | (apply Eq.symm; (try simp only [decide_eq_true_eq]); (try simp only [decide_eq_false_iff_not]); unfold okCrv fallsC; simp_all <;> omega) | (rw [decide_eq_decide]; unfold okCrv fallsC; simp_all <;> omega), hK0⟩
 refine V_skip ?_
 refine X_block ?_
 refine X_then ?_
 refine Vs [(2, .bool false)] ?_
 refine V_ret ?_
 exact X_return (.bool false) rfl ⟨by congr 2; first | (apply Eq.symm; (try simp only [decide_eq_true_eq]); (try simp only [decide_eq_false_iff_not]); unfold okCrv fallsC; simp_all <;> omega) | (rw [decide_eq_decide]; unfold okCrv fallsC; simp_all <;> omega), hK0⟩
theorem heldI_bnd (x : Int) : 0 ≤ heldI x 0 1000000000 ∧ heldI x 0 1000000000 ≤ 1000000000 := by
  unfold heldI imin imax
  split <;> split <;> omega
theorem w64_id {x : Int} (h1 : -9223372036854775808 ≤ x) (h2 : x ≤ 9223372036854775807) : w64 x = x := wrap64_id (by omega) (by omega)
set_option maxRecDepth 10000 in
theorem perAt_spec (c : Crv) (x : Int) (w : World) (hok : okCrv c) : Calls Tryz.prog 155 #[.agg c.cells.toArray, nt x] w fun e w' => e = .returned (nt (atI c x)) ∧ Keep none_ w w' := by
 have hK0 : Keep none_ w w := Keep.refl _ _
 have hzhK0 := Keep.size hK0
 refine enterV Tryz.func155 rfl [.agg (Crv.cells c).toArray, nt x] 59 rfl rfl rfl ?_
 refine Vr ?_
 refine OI_box 25 (.tmp 0) (.agg (Crv.cells c).toArray) (Crv.cells c) (some 2) (by kernel_rfl) (by kernel_rfl) rfl ?_
 intro b1 w1 e1 hb1 k1 z1
 have hsz2 := Keep.size k1
 replace hK0 := hK0.tn k1
 have hb1lt := hb1.lt
 refine On 2 [1, 2] ?_
 refine Oer ?_
 refine On 1 [2, 5] ?_
 refine Ok (kl 186 #[(.tmp 5), (.const (nt 0)), (.const (nt 1000000000))] #[3, 3, 3]) 186 #[nt x, nt 0, nt 1000000000] (some 6) (pheld_spec x 0 1000000000 _) ?_
 rintro _ w1 ⟨rfl, rfl⟩
 refine ⟨_, rfl, ?_⟩
 refine On 3 [1, 2] ?_
 refine Oe ?_
 refine V_seq ?_
 refine Vr ?_
 refine On 1 [1, 2, 7] ?_
 refine Oc 3 (.tmp 7) 0 (nt c.k) (some 8) hb1 rfl ?_
 refine Oe ?_
 refine V_block ?_
 refine Vs [(1, nt (heldI x 0 1000000000)), (2, pt b1), (8, nt c.k), (9, .bool (decide (c.k = 1)))] ?_
 refine V_if (c.k = 1) (by kernel_rfl) (fun hc4 => ?_) (fun hc4 => ?_)
 ·
  refine V_seq ?_
  refine Vr ?_
  refine On 2 [1, 2, 11, 12] ?_
  refine Oc 3 (.tmp 12) 3 (nt c.c) (some 13) hb1 rfl ?_
  refine Ose [(1, nt (heldI x 0 1000000000)), (2, pt b1), (14, .bool (decide (heldI x 0 1000000000 ≥ c.c)))] ?_
  refine V_if (heldI x 0 1000000000 ≥ c.c) (by kernel_rfl) (fun hc5 => ?_) (fun hc5 => ?_)
  ·
   refine Vr ?_
   refine On 1 [15] ?_
   refine Oc 3 (.tmp 15) 2 (nt c.b) (some 16) hb1 rfl ?_
   refine Ose [(4, nt c.b)] ?_
   refine V_ret ?_
   refine X_ret_then ?_
   refine X_ret_block ?_
   refine X_ret_then ?_
   exact X_return (nt c.b) rfl ⟨by unfold atI; rw [if_pos hc4, if_pos hc5], hK0⟩
  refine V_skip ?_
  refine X_then ?_
  refine V_seq ?_
  refine Vd (acts []) none_ [[0, 1, 2, 3, 4, 5, 6, 7, 8, 9, 10, 11, 12, 13]] ?_
  intro w7 hk6 he8 L hL9
  have hsz10 := Keep.size hk6
  replace hb1 := hb1.k0 hk6
  replace hK0 := hK0.tn hk6
  have qhb1 := hb1
  have K11 : Keep none_ w7 w7 := Keep.refl _ _
  obtain rfl := List.mem_singleton.1 hL9
  refine Gn [1, 2, 3, 4, 5, 6, 7, 8, 9, 10, 11, 12, 13] [1, 2, 17] ?_
  refine Gc0 3 (.tmp 17) 1 (nt c.a) (some 18) qhb1 rfl ?_
  refine Gn [3, 4, 5, 6, 7, 8, 9, 10, 11, 12, 13] [1, 2, 18, 19] ?_
  refine Gc0 3 (.tmp 19) 1 (nt c.a) (some 20) qhb1 rfl ?_
  refine Gn [5, 6, 7, 8, 9, 10, 11, 12, 13] [1, 2, 18, 20, 21] ?_
  refine Gc0 3 (.tmp 21) 2 (nt c.b) (some 22) qhb1 rfl ?_
  refine Gn [10, 11, 12, 13] [18, 25, 26] ?_
  refine Gc0 3 (.tmp 26) 3 (nt c.c) (some 27) qhb1 rfl ?_
  refine GI_pure (some 28) ((Op.binOp BinOp.quo 3 (Operand.tmp 25) (Operand.tmp 27) 3)) (by kernel_rfl) (by kernel_rfl) (pure_quo (k := .i64) (a := IntKind.i64.wrap ((IntKind.i64.wrap (c.a - c.b)) * (heldI x 0 1000000000))) (b := c.c) (by kernel_rfl) (by kernel_rfl) (by unfold okCrv fallsC at hok; omega)) ?_
  refine Gs [] [(4, nt (IntKind.i64.wrap (c.a - (IntKind.i64.wrap (Int.tdiv (IntKind.i64.wrap ((IntKind.i64.wrap (c.a - c.b)) * (heldI x 0 1000000000))) c.c)))))] ?_
  refine GI_end ?_
  refine X_then ?_
  refine V_ret ?_
  refine X_ret_block ?_
  refine X_ret_then ?_
  exact X_return (nt (IntKind.i64.wrap (c.a - (IntKind.i64.wrap (Int.tdiv (IntKind.i64.wrap ((IntKind.i64.wrap (c.a - c.b)) * (heldI x 0 1000000000))) c.c))))) rfl ⟨by unfold atI; rw [if_pos hc4, if_neg hc5], hK0⟩
 refine Vs [(1, nt (heldI x 0 1000000000)), (2, pt b1), (8, nt c.k), (30, .bool (decide (c.k = 2)))] ?_
 refine V_if (c.k = 2) (by kernel_rfl) (fun hc12 => ?_) (fun hc12 => ?_)
 ·
  refine V_seq ?_
  refine Vd (acts []) none_ [[0, 1, 2, 3, 4, 5, 6, 7, 8, 9, 10, 11, 12, 13]] ?_
  intro w14 hk13 he15 L hL16
  have hsz17 := Keep.size hk13
  replace hb1 := hb1.k0 hk13
  replace hK0 := hK0.tn hk13
  have qhb1 := hb1
  have K18 : Keep none_ w14 w14 := Keep.refl _ _
  obtain rfl := List.mem_singleton.1 hL16
  refine Gn [1, 2, 3, 4, 5, 6, 7, 8, 9, 10, 11, 12, 13] [1, 2, 32] ?_
  refine Gc0 3 (.tmp 32) 1 (nt c.a) (some 33) qhb1 rfl ?_
  refine Gn [4, 5, 6, 7, 8, 9, 10, 11, 12, 13] [2, 33, 34, 35] ?_
  refine Gc0 3 (.tmp 35) 4 (nt c.d) (some 36) qhb1 rfl ?_
  refine GI_pure (some 37) ((Op.binOp BinOp.quo 3 (Operand.tmp 34) (Operand.tmp 36) 3)) (by kernel_rfl) (by kernel_rfl) (pure_quo (k := .i64) (a := heldI x 0 1000000000) (b := c.d) (by kernel_rfl) (by kernel_rfl) (by unfold okCrv fallsC at hok; omega)) ?_
  refine Gn [7, 8, 9, 10, 11, 12, 13] [2, 33, 37, 38] ?_
  refine Gc0 3 (.tmp 38) 3 (nt c.c) (some 39) qhb1 rfl ?_
  refine Gn [11, 12, 13] [41, 42] ?_
  refine Gc0 3 (.tmp 42) 2 (nt c.b) (some 43) qhb1 rfl ?_
  refine Gs [] [(4, nt (imax (IntKind.i64.wrap (c.a - (IntKind.i64.wrap ((IntKind.i64.wrap (Int.tdiv (heldI x 0 1000000000) c.d)) * c.c)))) c.b))] ?_
  refine GI_end ?_
  refine X_then ?_
  refine V_ret ?_
  refine X_ret_block ?_
  refine X_ret_then ?_
  exact X_return (nt (imax (IntKind.i64.wrap (c.a - (IntKind.i64.wrap ((IntKind.i64.wrap (Int.tdiv (heldI x 0 1000000000) c.d)) * c.c)))) c.b)) rfl ⟨by unfold atI; rw [if_neg hc4, if_pos hc12], hK0⟩
 refine Vs [(1, nt (heldI x 0 1000000000)), (2, pt b1), (45, .bool (decide (c.k = 3)))] ?_
 refine V_if (c.k = 3) (by kernel_rfl) (fun hc19 => ?_) (fun hc19 => ?_)
 ·
  refine V_seq ?_
  refine Vd (acts [11]) none_ [[0, 1, 2, 3, 4, 5, 6, 7, 8, 9, 10, 11, 12]] ?_
  intro w21 hk20 he22 L hL23
  have hsz24 := Keep.size hk20
  replace hb1 := hb1.k0 hk20
  replace hK0 := hK0.tn hk20
  have qhb1 := hb1
  have K25 : Keep none_ w21 w21 := Keep.refl _ _
  obtain rfl := List.mem_singleton.1 hL23
  refine Gn [1, 2, 3, 4, 5, 6, 7, 8, 9, 10, 11, 12] [1, 2, 47] ?_
  refine Gc0 3 (.tmp 47) 1 (nt c.a) (some 48) qhb1 rfl ?_
  refine Gn [5, 6, 7, 8, 9, 10, 11, 12] [2, 49, 50, 51] ?_
  refine Gc0 3 (.tmp 51) 2 (nt c.b) (some 52) qhb1 rfl ?_
  refine Gn [7, 8, 9, 10, 11, 12] [2, 49, 53] ?_
  refine GI_pure (some 54) ((Op.binOp BinOp.quo 3 (Operand.tmp 49) (Operand.tmp 53) 3)) (by kernel_rfl) (by kernel_rfl) (pure_quo (k := .i64) (a := IntKind.i64.wrap (c.a * 1000000000)) (b := IntKind.i64.wrap ((heldI x 0 1000000000) + c.b)) (by kernel_rfl) (by kernel_rfl) (fun h7 => by unfold okCrv fallsC at hok; have h9 := heldI_bnd x; have h8 : w64 (heldI x 0 1000000000 + c.b) = _ := w64_id (by omega) (by omega); have h6 : w64 (heldI x 0 1000000000 + c.b) = 0 := h7; omega)) ?_
  refine Gn [9, 10, 11, 12] [54, 55] ?_
  refine Gc0 3 (.tmp 55) 3 (nt c.c) (some 56) qhb1 rfl ?_
  refine Gn [11, 12] [57] ?_
  refine Gk0 (kl 186 #[(.tmp 57), (.const (nt 0)), (.const (nt 1000000000))] #[3, 3, 3]) 186 #[nt (IntKind.i64.wrap ((IntKind.i64.wrap (Int.tdiv (IntKind.i64.wrap (c.a * 1000000000)) (IntKind.i64.wrap ((heldI x 0 1000000000) + c.b)))) - c.c)), nt 0, nt 1000000000] (some 58) (pheld_spec (IntKind.i64.wrap ((IntKind.i64.wrap (Int.tdiv (IntKind.i64.wrap (c.a * 1000000000)) (IntKind.i64.wrap ((heldI x 0 1000000000) + c.b)))) - c.c)) 0 1000000000 _) ?_
  rintro _ w21 ⟨rfl, rfl⟩
  refine ⟨_, rfl, ?_⟩
  refine Gs [] [(4, nt (heldI (IntKind.i64.wrap ((IntKind.i64.wrap (Int.tdiv (IntKind.i64.wrap (c.a * 1000000000)) (IntKind.i64.wrap ((heldI x 0 1000000000) + c.b)))) - c.c)) 0 1000000000))] ?_
  refine GI_end ?_
  refine X_then ?_
  refine V_ret ?_
  refine X_ret_block ?_
  refine X_ret_then ?_
  exact X_return (nt (heldI (IntKind.i64.wrap ((IntKind.i64.wrap (Int.tdiv (IntKind.i64.wrap (c.a * 1000000000)) (IntKind.i64.wrap ((heldI x 0 1000000000) + c.b)))) - c.c)) 0 1000000000)) rfl ⟨by unfold atI; rw [if_neg hc4, if_neg hc12, if_pos hc19], hK0⟩
 refine V_skip ?_
 refine X_block ?_
 refine X_then ?_
 refine Vs [(4, nt 0)] ?_
 refine V_ret ?_
 exact X_return (nt 0) rfl ⟨by unfold atI; rw [if_neg hc4, if_neg hc12, if_neg hc19], hK0⟩
end Go.Al

namespace Go.Al
open Go Go.RowKit Go.Proofs
set_option maxRecDepth 10000 in
theorem trkIs_spec (x : Trk) (w : World) : Calls Tryz.prog 80 #[.agg x.cells.toArray] w fun e w' => e = .returned (.bool (decide (okTrk x))) ∧ Keep none_ w w' := by
 have hK0 : Keep none_ w w := Keep.refl _ _
 have hzhK0 := Keep.size hK0
 refine enterV Tryz.func80 rfl [.agg (Trk.cells x).toArray] 51 rfl rfl rfl ?_
 refine Vr ?_
 refine OI_box 27 (.tmp 0) (.agg (Trk.cells x).toArray) (Trk.cells x) (some 1) (by kernel_rfl) (by kernel_rfl) rfl ?_
 intro b1 w1 e1 hb1 k1 z1
 have hsz2 := Keep.size k1
 replace hK0 := hK0.tn k1
 have hb1lt := hb1.lt
 refine On 2 [1] ?_
 refine Oer ?_
 refine On 1 [1, 3] ?_
 refine Oc 3 (.tmp 3) 0 (nt x.most) (some 4) hb1 rfl ?_
 refine Ok (kl 120 #[(.tmp 4), (.const (nt 1)), (.const (nt 12))] #[3, 3, 3]) 120 #[nt x.most, nt 1, nt 12] (some 5) (tIn_spec x.most 1 12 _) ?_
 rintro _ w1 ⟨rfl, rfl⟩
 refine ⟨_, rfl, ?_⟩
 refine Os 4 [(1, pt b1), (6, .bool (decide ((1 : Int) ≤ x.most ∧ x.most ≤ 12)))] ?_
 by_cases hg6 : (1 : Int) ≤ x.most ∧ x.most ≤ 12
 ·
  refine OI_eq [(1, pt b1), (6, .bool true)] (by first | simp [hg6] | rfl) ?_
  refine On 5 [1, 6, 7] ?_
  refine Oc 3 (.tmp 7) 1 (nt x.deposit) (some 8) hb1 rfl ?_
  refine Ok (kl 120 #[(.tmp 8), (.const (nt 0)), (.const (nt 1073741824))] #[3, 3, 3]) 120 #[nt x.deposit, nt 0, nt 1073741824] (some 9) (tIn_spec x.deposit 0 1073741824 _) ?_
  rintro _ w1 ⟨rfl, rfl⟩
  refine ⟨_, rfl, ?_⟩
  refine Os 9 [(1, pt b1), (11, .bool (decide ((0 : Int) ≤ x.deposit ∧ x.deposit ≤ 1073741824)))] ?_
  by_cases hg10 : (0 : Int) ≤ x.deposit ∧ x.deposit ≤ 1073741824
  ·
   refine OI_eq [(1, pt b1), (11, .bool true)] (by first | simp [hg10] | rfl) ?_
   refine On 10 [1, 11, 12] ?_
   refine Oc 3 (.tmp 12) 16 (nt x.cap) (some 13) hb1 rfl ?_
   refine Ok (kl 120 #[(.tmp 13), (.const (nt 0)), (.const (nt 1073741824))] #[3, 3, 3]) 120 #[nt x.cap, nt 0, nt 1073741824] (some 14) (tIn_spec x.cap 0 1073741824 _) ?_
   rintro _ w1 ⟨rfl, rfl⟩
   refine ⟨_, rfl, ?_⟩
   refine Os 14 [(1, pt b1), (16, .bool (decide ((0 : Int) ≤ x.cap ∧ x.cap ≤ 1073741824)))] ?_
   by_cases hg14 : (0 : Int) ≤ x.cap ∧ x.cap ≤ 1073741824
   ·
    refine OI_eq [(1, pt b1), (16, .bool true)] (by first | simp [hg14] | rfl) ?_
    refine On 15 [1, 16, 17] ?_
    refine Oc 3 (.tmp 17) 2 (nt x.prepare) (some 18) hb1 rfl ?_
    refine Ok (kl 120 #[(.tmp 18), (.const (nt 0)), (.const (nt 1000))] #[3, 3, 3]) 120 #[nt x.prepare, nt 0, nt 1000] (some 19) (tIn_spec x.prepare 0 1000 _) ?_
    rintro _ w1 ⟨rfl, rfl⟩
    refine ⟨_, rfl, ?_⟩
    refine Os 19 [(1, pt b1), (21, .bool (decide ((0 : Int) ≤ x.prepare ∧ x.prepare ≤ 1000)))] ?_
    by_cases hg18 : (0 : Int) ≤ x.prepare ∧ x.prepare ≤ 1000
    ·
     refine OI_eq [(1, pt b1), (21, .bool true)] (by first | simp [hg18] | rfl) ?_
     refine On 20 [1, 21, 22] ?_
     refine Oc 3 (.tmp 22) 4 (nt x.confirm) (some 23) hb1 rfl ?_
     refine Ok (kl 120 #[(.tmp 23), (.const (nt 0)), (.const (nt 1000))] #[3, 3, 3]) 120 #[nt x.confirm, nt 0, nt 1000] (some 24) (tIn_spec x.confirm 0 1000 _) ?_
     rintro _ w1 ⟨rfl, rfl⟩
     refine ⟨_, rfl, ?_⟩
     refine Os 24 [(1, pt b1), (26, .bool (decide ((0 : Int) ≤ x.confirm ∧ x.confirm ≤ 1000)))] ?_
     by_cases hg22 : (0 : Int) ≤ x.confirm ∧ x.confirm ≤ 1000
     ·
      refine OI_eq [(1, pt b1), (26, .bool true)] (by first | simp [hg22] | rfl) ?_
      refine On 25 [1, 26, 27] ?_
      refine Oc 3 (.tmp 27) 5 (nt x.enact) (some 28) hb1 rfl ?_
      refine Ok (kl 120 #[(.tmp 28), (.const (nt 0)), (.const (nt 1000))] #[3, 3, 3]) 120 #[nt x.enact, nt 0, nt 1000] (some 29) (tIn_spec x.enact 0 1000 _) ?_
      rintro _ w1 ⟨rfl, rfl⟩
      refine ⟨_, rfl, ?_⟩
      refine Os 29 [(1, pt b1), (31, .bool (decide ((0 : Int) ≤ x.enact ∧ x.enact ≤ 1000)))] ?_
      by_cases hg26 : (0 : Int) ≤ x.enact ∧ x.enact ≤ 1000
      ·
       refine OI_eq [(1, pt b1), (31, .bool true)] (by first | simp [hg26] | rfl) ?_
       refine On 30 [1, 31, 32] ?_
       refine Oc 3 (.tmp 32) 3 (nt x.decision) (some 33) hb1 rfl ?_
       refine Ok (kl 120 #[(.tmp 33), (.const (nt 1)), (.const (nt 1000))] #[3, 3, 3]) 120 #[nt x.decision, nt 1, nt 1000] (some 34) (tIn_spec x.decision 1 1000 _) ?_
       rintro _ w1 ⟨rfl, rfl⟩
       refine ⟨_, rfl, ?_⟩
       refine Os 34 [(1, pt b1), (36, .bool (decide ((1 : Int) ≤ x.decision ∧ x.decision ≤ 1000)))] ?_
       by_cases hg30 : (1 : Int) ≤ x.decision ∧ x.decision ≤ 1000
       ·
        refine OI_eq [(1, pt b1), (36, .bool true)] (by first | simp [hg30] | rfl) ?_
        refine On 35 [1, 36, 37] ?_
        refine Oa 25 (.tmp 37) 6 (Crv.cells x.app) (some 38) 5 hb1 rfl rfl ?_
        refine Ok (kl 121 #[(.tmp 38)] #[25]) 121 #[.agg (Crv.cells x.app).toArray] (some 39) (perIs_spec x.app _) ?_
        rintro _ w31 ⟨rfl, hk32⟩
        refine ⟨_, rfl, ?_⟩
        have hsz33 := Keep.size hk32
        replace hb1 := hb1.k0 hk32
        replace hK0 := hK0.tn hk32
        refine Os 39 [(1, pt b1), (41, .bool (decide (okCrv x.app)))] ?_
        by_cases hg34 : okCrv x.app
        ·
         refine OI_eq [(1, pt b1), (41, .bool true)] (by first | simp [hg34] | rfl) ?_
         refine On 40 [1, 41, 42] ?_
         refine Oa 25 (.tmp 42) 11 (Crv.cells x.sup) (some 43) 5 hb1 rfl rfl ?_
         refine Ok (kl 121 #[(.tmp 43)] #[25]) 121 #[.agg (Crv.cells x.sup).toArray] (some 44) (perIs_spec x.sup _) ?_
         rintro _ w35 ⟨rfl, hk36⟩
         refine ⟨_, rfl, ?_⟩
         have hsz37 := Keep.size hk36
         replace hb1 := hb1.k0 hk36
         replace hK0 := hK0.tn hk36
         refine Os 44 [(1, pt b1), (46, .bool (decide (okCrv x.sup)))] ?_
         by_cases hg38 : okCrv x.sup
         ·
          refine OI_eq [(1, pt b1), (46, .bool true)] (by first | simp [hg38] | rfl) ?_
          refine On 45 [46, 47] ?_
          refine Oc 3 (.tmp 47) 17 (nt x.rank) (some 48) hb1 rfl ?_
          refine Ok (kl 120 #[(.tmp 48), (.const (nt 0)), (.const (nt 2))] #[3, 3, 3]) 120 #[nt x.rank, nt 0, nt 2] (some 49) (tIn_spec x.rank 0 2 _) ?_
          rintro _ w35 ⟨rfl, rfl⟩
          refine ⟨_, rfl, ?_⟩
          refine Ose [(2, .bool (decide ((0 : Int) ≤ x.rank ∧ x.rank ≤ 2)))] ?_
          refine V_ret ?_
          exact X_return (.bool (decide ((0 : Int) ≤ x.rank ∧ x.rank ≤ 2))) rfl ⟨by congr 2; first | (apply Eq.symm; (try simp only [decide_eq_true_eq]); (try simp only [decide_eq_false_iff_not]); unfold okTrk; simp_all <;> omega) | (rw [decide_eq_decide]; unfold okTrk; simp_all <;> omega), hK0⟩
         refine OI_eq [(1, pt b1), (46, .bool false)] (by first | simp [hg38] | rfl) ?_
         refine Ose [(2, .bool false)] ?_
         refine V_ret ?_
         exact X_return (.bool false) rfl ⟨by congr 2; first | (apply Eq.symm; (try simp only [decide_eq_true_eq]); (try simp only [decide_eq_false_iff_not]); unfold okTrk; simp_all <;> omega) | (rw [decide_eq_decide]; unfold okTrk; simp_all <;> omega), hK0⟩
        refine OI_eq [(1, pt b1), (41, .bool false)] (by first | simp [hg34] | rfl) ?_
        refine Ose [(2, .bool false)] ?_
        refine V_ret ?_
        exact X_return (.bool false) rfl ⟨by congr 2; first | (apply Eq.symm; (try simp only [decide_eq_true_eq]); (try simp only [decide_eq_false_iff_not]); unfold okTrk; simp_all <;> omega) | (rw [decide_eq_decide]; unfold okTrk; simp_all <;> omega), hK0⟩
       refine OI_eq [(1, pt b1), (36, .bool false)] (by first | simp [hg30] | rfl) ?_
       refine Ose [(2, .bool false)] ?_
       refine V_ret ?_
       exact X_return (.bool false) rfl ⟨by congr 2; first | (apply Eq.symm; (try simp only [decide_eq_true_eq]); (try simp only [decide_eq_false_iff_not]); unfold okTrk; simp_all <;> omega) | (rw [decide_eq_decide]; unfold okTrk; simp_all <;> omega), hK0⟩
      refine OI_eq [(1, pt b1), (31, .bool false)] (by first | simp [hg26] | rfl) ?_
      refine Ose [(2, .bool false)] ?_
      refine V_ret ?_
      exact X_return (.bool false) rfl ⟨by congr 2; first | (apply Eq.symm; (try simp only [decide_eq_true_eq]); (try simp only [decide_eq_false_iff_not]); unfold okTrk; simp_all <;> omega) | (rw [decide_eq_decide]; unfold okTrk; simp_all <;> omega), hK0⟩
     refine OI_eq [(1, pt b1), (26, .bool false)] (by first | simp [hg22] | rfl) ?_
     refine Ose [(2, .bool false)] ?_
     refine V_ret ?_
     exact X_return (.bool false) rfl ⟨by congr 2; first | (apply Eq.symm; (try simp only [decide_eq_true_eq]); (try simp only [decide_eq_false_iff_not]); unfold okTrk; simp_all <;> omega) | (rw [decide_eq_decide]; unfold okTrk; simp_all <;> omega), hK0⟩
    refine OI_eq [(1, pt b1), (21, .bool false)] (by first | simp [hg18] | rfl) ?_
    refine Ose [(2, .bool false)] ?_
    refine V_ret ?_
    exact X_return (.bool false) rfl ⟨by congr 2; first | (apply Eq.symm; (try simp only [decide_eq_true_eq]); (try simp only [decide_eq_false_iff_not]); unfold okTrk; simp_all <;> omega) | (rw [decide_eq_decide]; unfold okTrk; simp_all <;> omega), hK0⟩
   refine OI_eq [(1, pt b1), (16, .bool false)] (by first | simp [hg14] | rfl) ?_
   refine Ose [(2, .bool false)] ?_
   refine V_ret ?_
   exact X_return (.bool false) rfl ⟨by congr 2; first | (apply Eq.symm; (try simp only [decide_eq_true_eq]); (try simp only [decide_eq_false_iff_not]); unfold okTrk; simp_all <;> omega) | (rw [decide_eq_decide]; unfold okTrk; simp_all <;> omega), hK0⟩
  refine OI_eq [(1, pt b1), (11, .bool false)] (by first | simp [hg10] | rfl) ?_
  refine Ose [(2, .bool false)] ?_
  refine V_ret ?_
  exact X_return (.bool false) rfl ⟨by congr 2; first | (apply Eq.symm; (try simp only [decide_eq_true_eq]); (try simp only [decide_eq_false_iff_not]); unfold okTrk; simp_all <;> omega) | (rw [decide_eq_decide]; unfold okTrk; simp_all <;> omega), hK0⟩
 refine OI_eq [(1, pt b1), (6, .bool false)] (by first | simp [hg6] | rfl) ?_
 refine Ose [(2, .bool false)] ?_
 refine V_ret ?_
 exact X_return (.bool false) rfl ⟨by congr 2; first | (apply Eq.symm; (try simp only [decide_eq_true_eq]); (try simp only [decide_eq_false_iff_not]); unfold okTrk; simp_all <;> omega) | (rw [decide_eq_decide]; unfold okTrk; simp_all <;> omega), hK0⟩
set_option maxRecDepth 10000 in
theorem shares_spec (y : Tly) (iss : Int) (w : World) : Calls Tryz.prog 154 #[.agg y.cells.toArray, nt iss] w fun e w' => e = .returned (.tuple #[nt (apprI y), nt (ratioI y.s iss)]) ∧ Keep none_ w w' := by
 have hK0 : Keep none_ w w := Keep.refl _ _
 have hzhK0 := Keep.size hK0
 refine enterV Tryz.func154 rfl [.agg (Tly.cells y).toArray, nt iss] 18 rfl rfl rfl ?_
 refine Vr ?_
 refine OI_box 55 (.tmp 0) (.agg (Tly.cells y).toArray) (Tly.cells y) (some 2) (by kernel_rfl) (by kernel_rfl) rfl ?_
 intro b1 w1 e1 hb1 k1 z1
 have hsz2 := Keep.size k1
 replace hK0 := hK0.tn k1
 have hb1lt := hb1.lt
 refine Ose [(1, nt iss), (2, pt b1)] ?_
 refine V_seq ?_
 refine Vd (acts [7, 11]) none_ [[0, 1, 2, 3, 4, 5, 6, 7, 8, 9, 10, 11, 12, 13]] ?_
 intro w4 hk3 he5 L hL6
 have hsz7 := Keep.size hk3
 replace hb1 := hb1.k0 hk3
 replace hK0 := hK0.tn hk3
 have qhb1 := hb1
 have K8 : Keep none_ w4 w4 := Keep.refl _ _
 obtain rfl := List.mem_singleton.1 hL6
 refine Gn [1, 2, 3, 4, 5, 6, 7, 8, 9, 10, 11, 12, 13] [1, 2, 6] ?_
 refine Gc0 3 (.tmp 6) 0 (nt y.a) (some 7) qhb1 rfl ?_
 refine Gn [3, 4, 5, 6, 7, 8, 9, 10, 11, 12, 13] [1, 2, 7, 8] ?_
 refine Gc0 3 (.tmp 8) 0 (nt y.a) (some 9) qhb1 rfl ?_
 refine Gn [5, 6, 7, 8, 9, 10, 11, 12, 13] [1, 2, 7, 9, 10] ?_
 refine Gc0 3 (.tmp 10) 1 (nt y.n) (some 11) qhb1 rfl ?_
 refine Gs [7, 8, 9, 10, 11, 12, 13] [(1, nt iss), (2, pt b1), (7, nt y.a), (12, nt (IntKind.i64.wrap (y.a + y.n)))] ?_
 refine Gk (kl 153 #[(.tmp 7), (.tmp 12)] #[3, 3]) 153 #[nt y.a, nt (IntKind.i64.wrap (y.a + y.n))] (some 13) (ratio_spec y.a (IntKind.i64.wrap (y.a + y.n)) _) ?_
 rintro _ w4 ⟨rfl, rfl⟩
 refine ⟨_, rfl, K8, ?_⟩
 refine Gn [9, 10, 11, 12, 13] [1, 13, 14] ?_
 refine Gc0 3 (.tmp 14) 2 (nt y.s) (some 15) qhb1 rfl ?_
 refine Gn [11, 12, 13] [13, 15, 16] ?_
 refine Gk0 (kl 153 #[(.tmp 15), (.tmp 16)] #[3, 3]) 153 #[nt y.s, nt iss] (some 17) (ratio_spec y.s iss _) ?_
 rintro _ w4 ⟨rfl, rfl⟩
 refine ⟨_, rfl, ?_⟩
 refine Gs [] [(4, nt (ratioI y.a (IntKind.i64.wrap (y.a + y.n)))), (5, nt (ratioI y.s iss))] ?_
 refine GI_end ?_
 refine X_then ?_
 refine V_ret ?_
 exact X_return _ rfl ⟨rfl, hK0⟩
set_option maxRecDepth 10000 in
theorem passing_spec (x : Trk) (y : Tly) (iss el : Int) (w : World) (ha : okCrv x.app) (hs : okCrv x.sup) : Calls Tryz.prog 104 #[.agg x.cells.toArray, .agg y.cells.toArray, nt iss, nt el] w fun e w' => e = .returned (.bool (passB x y iss el)) ∧ Keep none_ w w' := by
 have hK0 : Keep none_ w w := Keep.refl _ _
 have hzhK0 := Keep.size hK0
 refine enterV Tryz.func104 rfl [.agg (Trk.cells x).toArray, .agg (Tly.cells y).toArray, nt iss, nt el] 39 rfl rfl rfl ?_
 refine Vr ?_
 refine OI_box 27 (.tmp 0) (.agg (Trk.cells x).toArray) (Trk.cells x) (some 4) (by kernel_rfl) (by kernel_rfl) rfl ?_
 intro b1 w1 e1 hb1 k1 z1
 have hsz2 := Keep.size k1
 replace hK0 := hK0.tn k1
 have hb1lt := hb1.lt
 refine OI_box 55 (.tmp 1) (.agg (Tly.cells y).toArray) (Tly.cells y) (some 5) (by kernel_rfl) (by kernel_rfl) rfl ?_
 intro b3 w3 e3 hb3 k3 z3
 have hsz4 := Keep.size k3
 replace hb1 := hb1.k0 k3
 replace hK0 := hK0.tn k3
 have hb3lt := hb3.lt
 refine On 3 [2, 3, 4, 5] ?_
 refine Oer ?_
 refine On 2 [2, 4, 5, 12, 13] ?_
 refine Oc 3 (.tmp 13) 3 (nt x.decision) (some 14) hb1 rfl ?_
 refine On 5 [2, 4, 5, 15, 16] ?_
 refine Oc 3 (.tmp 16) 3 (nt x.decision) (some 17) hb1 rfl ?_
 refine Ok (kl 153 #[(.tmp 15), (.tmp 17)] #[3, 3]) 153 #[nt (imin el x.decision), nt x.decision] (some 18) (ratio_spec (imin el x.decision) x.decision _) ?_
 rintro _ w3 ⟨rfl, rfl⟩
 refine ⟨_, rfl, ?_⟩
 refine On 8 [2, 4, 5, 9] ?_
 refine Oer ?_
 refine Oa 55 (.tmp 5) 0 (Tly.cells y) (some 20) 3 hb3 (take_all (Tly.len _)) (Tly.len _) ?_
 refine On 2 [4, 9, 20, 21] ?_
 refine Ok (kl 154 #[(.tmp 20), (.tmp 21)] #[55, 3]) 154 #[.agg (Tly.cells y).toArray, nt iss] (some 22) (shares_spec y iss _) ?_
 rintro _ w8 ⟨rfl, hk9⟩
 refine ⟨_, rfl, ?_⟩
 have hsz10 := Keep.size hk9
 replace hb1 := hb1.k0 hk9
 replace hb3 := hb3.k0 hk9
 replace hK0 := hK0.tn hk9
 refine On 8 [4, 9, 10, 11] ?_
 refine Oer ?_
 refine On 2 [4, 9, 11, 25, 26] ?_
 refine Oa 25 (.tmp 26) 6 (Crv.cells x.app) (some 27) 5 hb1 rfl rfl ?_
 refine On 4 [4, 9, 11, 25, 27, 28] ?_
 refine Ok (kl 155 #[(.tmp 27), (.tmp 28)] #[25, 3]) 155 #[.agg (Crv.cells x.app).toArray, nt (ratioI (imin el x.decision) x.decision)] (some 29) (perAt_spec x.app (ratioI (imin el x.decision) x.decision) _ ha) ?_
 rintro _ w11 ⟨rfl, hk12⟩
 refine ⟨_, rfl, ?_⟩
 have hsz13 := Keep.size hk12
 replace hb1 := hb1.k0 hk12
 replace hb3 := hb3.k0 hk12
 replace hK0 := hK0.tn hk12
 refine Os 7 [(4, pt b1), (9, nt (ratioI (imin el x.decision) x.decision)), (11, nt (ratioI y.s iss)), (31, .bool (decide (apprI y ≥ atI x.app (ratioI (imin el x.decision) x.decision))))] ?_
 by_cases hg14 : apprI y ≥ atI x.app (ratioI (imin el x.decision) x.decision)
 ·
  refine OI_eq [(4, pt b1), (9, nt (ratioI (imin el x.decision) x.decision)), (11, nt (ratioI y.s iss)), (31, .bool true)] (by first | simp [hg14] | rfl) ?_
  refine On 9 [9, 31, 32, 33] ?_
  refine Oa 25 (.tmp 33) 11 (Crv.cells x.sup) (some 34) 5 hb1 rfl rfl ?_
  refine On 11 [31, 32, 34, 35] ?_
  refine Ok (kl 155 #[(.tmp 34), (.tmp 35)] #[25, 3]) 155 #[.agg (Crv.cells x.sup).toArray, nt (ratioI (imin el x.decision) x.decision)] (some 36) (perAt_spec x.sup (ratioI (imin el x.decision) x.decision) _ hs) ?_
  rintro _ w15 ⟨rfl, hk16⟩
  refine ⟨_, rfl, ?_⟩
  have hsz17 := Keep.size hk16
  replace hb1 := hb1.k0 hk16
  replace hb3 := hb3.k0 hk16
  replace hK0 := hK0.tn hk16
  refine Ose [(8, .bool (decide (ratioI y.s iss ≥ atI x.sup (ratioI (imin el x.decision) x.decision))))] ?_
  refine V_ret ?_
  exact X_return (.bool (decide (ratioI y.s iss ≥ atI x.sup (ratioI (imin el x.decision) x.decision)))) rfl ⟨by unfold passB; simp [*], hK0⟩
 refine OI_eq [(4, pt b1), (9, nt (ratioI (imin el x.decision) x.decision)), (11, nt (ratioI y.s iss)), (31, .bool false)] (by first | simp [hg14] | rfl) ?_
 refine Ose [(8, .bool false)] ?_
 refine V_ret ?_
 exact X_return (.bool false) rfl ⟨by unfold passB; simp [*], hK0⟩
end Go.Al

namespace Go.Al
open Go Go.RowKit Go.Proofs
def cellsQ : Nat → List Rfm → List GQ.Ci
  | _, [] => []
  | i, x :: l => ⟨0, (i : Int), x⟩ :: cellsQ (i + 1) l
def zipQ : Nat → List Rfm → List (Int × Rfm)
  | _, [] => []
  | i, x :: l => ((i : Int), x) :: zipQ (i + 1) l
theorem cellsQ_len : ∀ (i : Nat) (l : List Rfm), (cellsQ i l).length = l.length
  | _, [] => rfl
  | i, x :: l => by simp only [cellsQ, List.length_cons, cellsQ_len]
theorem zipQ_len : ∀ (i : Nat) (l : List Rfm), (zipQ i l).length = l.length
  | _, [] => rfl
  | i, x :: l => by simp only [zipQ, List.length_cons, zipQ_len]
theorem zipQ_at : ∀ (l : List Rfm) (i k : Nat) (x : Rfm), l[k]? = some x → (zipQ i l)[k]? = some (((i + k : Nat) : Int), x)
  | [], _, _, _, h => by cases h
  | y :: l, i, 0, x, h => by simp only [List.getElem?_cons_zero, Option.some.injEq] at h; subst h; rfl
  | y :: l, i, k + 1, x, h => by
    simp only [zipQ, List.getElem?_cons_succ] at h ⊢
    rw [zipQ_at l (i + 1) k x h]
    congr 2; omega
theorem rowQ : ∀ (i : Nat) (l : List Rfm), GQ.rowL 0 (cellsQ i l) = zipQ i l
  | _, [] => rfl
  | i, x :: l => by
    have := rowQ (i + 1) l
    unfold GQ.rowL at this ⊢
    simp only [cellsQ, zipQ, List.filter_cons, beq_self_eq_true, if_true, List.map_cons, this]
theorem getQ : ∀ (l : List Rfm) (i : Nat) (ref : Int), GQ.getC 0 ref (cellsQ i l) = if (i : Int) ≤ ref then l[(ref - i).toNat]? else none
  | [], i, ref => by simp [cellsQ, GQ.getC]
  | x :: l, i, ref => by
    simp only [cellsQ, GQ.getC, true_and]
    by_cases h : (i : Int) = ref
    · rw [if_pos h, if_pos (by omega), show (ref - i).toNat = 0 by omega]; rfl
    · rw [if_neg h, getQ l (i + 1) ref]
      by_cases h2 : (i : Int) ≤ ref
      · rw [if_pos (by omega), if_pos h2, show (ref - (i : Int)).toNat = (ref - ((i + 1 : Nat) : Int)).toNat + 1 by omega, List.getElem?_cons_succ]
      · rw [if_neg (by omega), if_neg h2]
theorem getQ0 (l : List Rfm) (ref : Int) : GQ.getC 0 ref (cellsQ 0 l) = getR l ref := by
  rw [getQ]; unfold getR
  by_cases h : 0 ≤ ref
  · by_cases h2 : ref < l.length
    · rw [if_pos (by omega), if_pos ⟨h, h2⟩]; congr 1; omega
    · rw [if_pos (by omega), if_neg (by omega), List.getElem?_eq_none (by omega)]
  · rw [if_neg (by omega), if_neg (by omega)]
theorem setQ (x : Rfm) : ∀ (l : List Rfm) (i j : Nat), j < l.length → GQ.setC 0 ((i + j : Nat) : Int) x (cellsQ i l) = cellsQ i (l.set j x)
  | [], _, _, h => by simp at h
  | y :: l, i, 0, _ => by
    simp only [cellsQ, GQ.setC, List.set_cons_zero]
    rw [if_pos ⟨trivial, by omega⟩, show ((i + 0 : Nat) : Int) = i by omega]
  | y :: l, i, j + 1, h => by
    simp only [cellsQ, GQ.setC, List.set_cons_succ]
    rw [if_neg (by omega), if_pos (.inr ⟨rfl, by show (i : Int) < _; omega⟩), show ((i + (j + 1) : Nat) : Int) = ((i + 1 + j : Nat) : Int) by omega, setQ x l (i + 1) j (by simpa using h)]
theorem setQ_new (x : Rfm) : ∀ (l : List Rfm) (i : Nat), GQ.setC 0 ((i + l.length : Nat) : Int) x (cellsQ i l) = cellsQ i (l ++ [x])
  | [], i => rfl
  | y :: l, i => by
    simp only [cellsQ, GQ.setC, List.cons_append, List.length_cons]
    rw [if_neg (by omega), if_pos (.inr ⟨rfl, by show (i : Int) < _; omega⟩), show ((i + (l.length + 1) : Nat) : Int) = ((i + 1 + l.length : Nat) : Int) by omega, setQ_new x l (i + 1)]
structure RfIn (ts : List Trk) (rs : List Rfm) : Prop where
  tl : ts.length ≤ 4
  tok : ∀ t ∈ ts, okTrk t
  rl : rs.length ≤ 12
  rtk : ∀ x ∈ rs, 0 ≤ x.track ∧ x.track < ts.length
structure RfrX (D : Nat → Prop) (A : Option Addr) (cap : Nat) (w : World) (r g : Nat) (ts : List Trk) (rs : List Rfm) : Prop where
  blk : Blk w r [.slice A ts.length cap, pt g] 97
  sl : SlT w 18 Trk.cells A cap ts
  grd : GQ.Grd D w g (cellsQ 0 rs)
  dA : ∀ q, inA A q → ¬ D q
  rA : ∀ q, inA A q → q ≠ r
  rD : ∀ q, D q → q ≠ r
def Rfr (F : Nat → Prop) (w : World) (r g : Nat) (ts : List Trk) (rs : List Rfm) : Prop := RfIn ts rs ∧ (∀ q, F q → q < w.heap.size) ∧ ∃ D A cap, RfrX D A cap w r g ts rs ∧ F r ∧ (∀ q, D q → F q) ∧ (∀ q, inA A q → F q)
section
variable {F S : Nat → Prop} {w w' : World} {r g N : Nat} {ts : List Trk} {rs : List Rfm}
theorem Rfr.lt (h : Rfr F w r g ts rs) : ∀ q, F q → q < w.heap.size := h.2.1
theorem Rfr.inn (h : Rfr F w r g ts rs) : RfIn ts rs := h.1
theorem Rfr.at_ (h : Rfr F w r g ts rs) : F r := by obtain ⟨_, _, _, _, _, _, h, _⟩ := h; exact h
theorem Rfr.atg (h : Rfr F w r g ts rs) : F g := by obtain ⟨_, _, _, _, _, h, _, h2, _⟩ := h; exact h2 _ h.grd.at_
theorem Rfr.keep (h : Rfr F w r g ts rs) (k : Keep S w w') (hS : ∀ q, F q → ¬ S q) : Rfr F w' r g ts rs := by
  obtain ⟨h0, h1, D, A, cap, h2, h3, h4, h5⟩ := h
  exact ⟨h0, fun q hq => Nat.lt_of_lt_of_le (h1 q hq) k.size, D, A, cap, ⟨h2.blk.keep k (hS _ h3), h2.sl.keep k (fun q hq => hS q (h5 q hq)), h2.grd.keep k (fun q hq => hS q (h4 q hq)), h2.dA, h2.rA, h2.rD⟩, h3, h4, h5⟩
theorem Rfr.quiet (h : Rfr F w r g ts rs) (k : Keep (lb N w) w w') : Rfr F w' r g ts rs := by
  obtain ⟨h0, h1, D, A, cap, h2, h3, h4, h5⟩ := h
  exact ⟨h0, fun q hq => Nat.lt_of_lt_of_le (h1 q hq) k.size, D, A, cap, ⟨h2.blk.quiet k, h2.sl.quiet k, h2.grd.quiet k, h2.dA, h2.rA, h2.rD⟩, h3, h4, h5⟩
theorem Rfr.grq (h : Rfr F w r g ts rs) : ∃ D, GQ.Grd D w g (cellsQ 0 rs) := by obtain ⟨_, _, D, _, _, h, _⟩ := h; exact ⟨D, h.grd⟩
theorem Rfr.grqF (h : Rfr F w r g ts rs) : ∃ D, GQ.Grd D w g (cellsQ 0 rs) ∧ ∀ q, D q → F q := by obtain ⟨_, _, D, _, _, h, _, h2, _⟩ := h; exact ⟨D, h.grd, h2⟩
theorem Rfr.parts (h : Rfr F w r g ts rs) : ∃ A cap, Blk w r [.slice A ts.length cap, pt g] 97 ∧ SlT w 18 Trk.cells A cap ts ∧ (∀ q, inA A q → F q ∧ q ≠ r ∧ q ≠ g) ∧ r ≠ g := by
  obtain ⟨h0, h1, D, A, cap, h2, h3, h4, h5⟩ := h
  exact ⟨A, cap, h2.blk, h2.sl, fun q hq => ⟨h5 q hq, h2.rA q hq, fun e => h2.dA q hq (e ▸ h2.grd.at_)⟩, fun e => h2.rD _ h2.grd.at_ e.symm⟩
end
theorem setQ_grdO {F : Nat → Prop} {g : Nat} {cs : List GQ.Ci} {a b : Int} {x : Rfm} {w : World} (h : GQ.Grd F w g cs) (hmax : cs.length < 100000) : Calls Tryz.prog 45 #[pt g, nt a, nt b, .agg (Rfm.cells x).toArray] w fun e w' => e = .returned (.tuple #[]) ∧ (∃ F', GQ.Grd F' w' g (GQ.setC a b x cs) ∧ (∀ q, F' q → F q ∨ w.heap.size ≤ q)) ∧ Keep (only g) w w' :=
  (GQ.set_spec (fun q => F q ∨ w.heap.size ≤ q) g cs a b x w (h.gr.mono (fun _ h => .inl h)) (fun _ h => .inr h) hmax).mono (by
    rintro e w' ⟨rfl, h1, h2⟩
    exact ⟨rfl, ⟨GQ.more F w w', GQ.Grd.of h1 (.inl h.at_) (fun q hq hD => hD.imp id (fun h => ⟨h, hq⟩)) (fun q hq => by rcases hq with hq | hq; exact Nat.lt_of_lt_of_le (h.lt q hq) h2.size; exact hq.2), fun q hq => hq.imp id (·.1)⟩, h2⟩)
theorem Rfr.turn {F : Nat → Prop} {w w' : World} {r g : Nat} {ts : List Trk} {rs rs' : List Rfm} {D D' : Nat → Prop} {A : Option Addr} {cap : Nat} (h1 : ∀ q, F q → q < w.heap.size) (h2 : RfrX D A cap w r g ts rs) (h3 : F r) (h4 : ∀ q, D q → F q) (h5 : ∀ q, inA A q → F q)
    (k : Keep (only g) w w') (hin : RfIn ts rs') (hG : GQ.Grd D' w' g (cellsQ 0 rs')) (hfr : ∀ q, D' q → D q ∨ w.heap.size ≤ q) : (∃ F', Rfr F' w' r g ts rs' ∧ ∀ q, F' q → F q ∨ w.heap.size ≤ q) := by
  have hg := h2.grd.at_
  refine ⟨fun q => F q ∨ D' q, ⟨hin, fun q hq => ?_, D', A, cap, ⟨h2.blk.keep k (fun e => h2.rD _ hg (show r = g from e).symm), h2.sl.keep k (fun q hq e => h2.dA q hq (by rw [show q = g from e]; exact hg)), hG, fun q hq hd => ?_, h2.rA, fun q hq e => ?_⟩, .inl h3, fun q hq => .inr hq, fun q hq => .inl (h5 q hq)⟩, ?_⟩
  · rcases hq with hq | hq
    · exact Nat.lt_of_lt_of_le (h1 q hq) k.size
    · exact hG.lt q hq
  · rcases hfr q hd with hd | hd
    · exact h2.dA q hq hd
    · have := h1 q (h5 q hq); omega
  · rcases hfr q hq with hd | hd
    · exact h2.rD q hd e
    · have := h1 r h3; omega
  · rintro q (hq | hq)
    · exact .inl hq
    · exact (hfr q hq).imp (h4 q) id
theorem rset_spec (F : Nat → Prop) (r g : Nat) (ts : List Trk) (rs : List Rfm) (ref : Int) (x : Rfm) (w : World) (h : Rfr F w r g ts rs) (hj : 0 ≤ ref ∧ ref < rs.length) (ht : 0 ≤ x.track ∧ x.track < ts.length) : Calls Tryz.prog 45 #[pt g, nt 0, nt ref, .agg (Rfm.cells x).toArray] w fun e w' => e = .returned (.tuple #[]) ∧ (∃ F', Rfr F' w' r g ts (rs.set ref.toNat x) ∧ (∀ q, F' q → F q ∨ w.heap.size ≤ q)) ∧ Keep (only g) w w' := by
  obtain ⟨h0, h1, D, A, cap, h2, h3, h4, h5⟩ := h
  have hrl := h0.rl
  refine (setQ_grdO (a := 0) (b := ref) (x := x) h2.grd (by rw [cellsQ_len]; omega)).mono ?_
  rintro e w' ⟨rfl, ⟨D', hG, hfr⟩, hk⟩
  obtain ⟨j, rfl⟩ : ∃ j : Nat, ref = j := ⟨ref.toNat, by omega⟩
  have e1 := setQ x rs 0 j (by omega)
  rw [Nat.zero_add] at e1
  rw [e1] at hG
  refine ⟨rfl, Rfr.turn h1 h2 h3 h4 h5 hk ⟨h0.tl, h0.tok, by rw [List.length_set]; exact hrl, fun y hy => ?_⟩ hG hfr, hk⟩
  rcases List.mem_or_eq_of_mem_set hy with hy | rfl
  · exact h0.rtk y hy
  · exact ht
theorem rnew_spec (F : Nat → Prop) (r g : Nat) (ts : List Trk) (rs : List Rfm) (x : Rfm) (w : World) (h : Rfr F w r g ts rs) (hj : rs.length < 12) (ht : 0 ≤ x.track ∧ x.track < ts.length) : Calls Tryz.prog 45 #[pt g, nt 0, nt (rs.length : Int), .agg (Rfm.cells x).toArray] w fun e w' => e = .returned (.tuple #[]) ∧ (∃ F', Rfr F' w' r g ts (rs ++ [x]) ∧ (∀ q, F' q → F q ∨ w.heap.size ≤ q)) ∧ Keep (only g) w w' := by
  obtain ⟨h0, h1, D, A, cap, h2, h3, h4, h5⟩ := h
  refine (setQ_grdO (a := 0) (b := (rs.length : Int)) (x := x) h2.grd (by rw [cellsQ_len]; omega)).mono ?_
  rintro e w' ⟨rfl, ⟨D', hG, hfr⟩, hk⟩
  have e1 := setQ_new x rs 0
  rw [Nat.zero_add] at e1
  rw [e1] at hG
  refine ⟨rfl, Rfr.turn h1 h2 h3 h4 h5 hk ⟨h0.tl, h0.tok, by simp; omega, fun y hy => ?_⟩ hG hfr, hk⟩
  rcases List.mem_append.1 hy with hy | hy
  · exact h0.rtk y hy
  · rw [List.mem_singleton.1 hy]; exact ht
theorem qlen_spec (F : Nat → Prop) (r g : Nat) (ts : List Trk) (rs : List Rfm) (w : World) (h : Rfr F w r g ts rs) : Calls Tryz.prog 41 #[pt g] w fun e w' => e = .returned (nt (rs.length : Int)) ∧ w' = w := by
  obtain ⟨D, h⟩ := h.grq
  have := GQ.len_spec D g (cellsQ 0 rs) w h.gr
  rw [cellsQ_len] at this; exact this
theorem qget_spec (F : Nat → Prop) (r g : Nat) (ts : List Trk) (rs : List Rfm) (ref : Int) (w : World) (h : Rfr F w r g ts rs) : Calls Tryz.prog 53 #[pt g, nt 0, nt ref] w fun e w' => e = .returned (.tuple #[.agg (getA rs ref).cells.toArray, .bool (getR rs ref).isSome]) ∧ Keep none_ w w' := by
  obtain ⟨D, h⟩ := h.grq
  have := GQ.get_spec D g (cellsQ 0 rs) 0 ref w h.gr
  rw [getQ0] at this; exact this
theorem getA_in {rs : List Rfm} {ts : List Trk} (h : RfIn ts rs) {ref : Int} {x : Rfm} (hx : getR rs ref = some x) : (0 ≤ ref ∧ ref < rs.length) ∧ (0 ≤ x.track ∧ x.track < ts.length) ∧ rs[ref.toNat]? = some x ∧ getA rs ref = x := by
  have hx0 := hx
  unfold getR at hx
  split at hx
  · rename_i hr
    exact ⟨hr, h.rtk x (List.mem_of_getElem? hx), hx, by unfold getA; rw [hx0]; rfl⟩
  · cases hx
theorem trkA_at {ts : List Trk} {i : Int} (h : 0 ≤ i ∧ i < ts.length) : ∃ j : Nat, i = (j : Int) ∧ j < ts.length ∧ ts[j]? = some (trkA ts i) ∧ trkA ts i ∈ ts := by
  obtain ⟨j, rfl⟩ : ∃ j : Nat, i = j := ⟨i.toNat, by omega⟩
  have hj : j < ts.length := by omega
  have e : trkA ts (j : Int) = ts[j] := by unfold trkA trkO; rw [if_pos h, Int.toNat_natCast, List.getElem?_eq_getElem hj]; rfl
  exact ⟨j, rfl, hj, by rw [e, List.getElem?_eq_getElem hj], by rw [e]; exact List.getElem_mem hj⟩
end Go.Al

namespace Go.Al
open Go Go.RowKit Go.Proofs
theorem sink_at {A1 A2 R ys : List Int} {x : Int} {j : Nat} (h : ys = A2.reverse ++ x :: (A1.reverse ++ R)) (hj : j = A2.length) : ys[j]? = some x := by
  subst h hj
  rw [List.getElem?_append_right (by simp)]; simp
theorem sink_prev {A1 A2 R ys : List Int} {x y : Int} {j : Nat} (h : ys = A2.reverse ++ x :: (A1.reverse ++ R)) (hj : j = A2.length) (h0 : 0 < j) (hy : ys[j - 1]? = some y) : ∃ B, A2 = y :: B ∧ (ys.set j y).set (j - 1) x = B.reverse ++ x :: ((A1 ++ [y]).reverse ++ R) := by
  subst h hj
  cases A2 with
  | nil => simp at h0
  | cons z B =>
    have hb : B.reverse.length = B.length := List.length_reverse
    have e1 : (z :: B).length - 1 = B.reverse.length := by simp
    have e2 : (z :: B).length = B.reverse.length + 1 := by simp
    rw [e1, List.reverse_cons, List.append_assoc, List.getElem?_append_right (Nat.le_refl _), Nat.sub_self] at hy
    simp only [List.singleton_append, List.getElem?_cons_zero, Option.some.injEq] at hy
    subst hy
    refine ⟨B, rfl, ?_⟩
    rw [e1, e2, List.reverse_cons, List.append_assoc, List.set_append_right _ _ (by omega), Nat.add_sub_cancel_left]
    simp only [List.singleton_append, List.set_cons_succ, List.set_cons_zero]
    rw [List.set_append_right _ _ (by omega), Nat.sub_self]
    simp only [List.set_cons_zero, List.reverse_append, List.reverse_cons, List.reverse_nil, List.nil_append, List.cons_append]
theorem sink_go {key : Int → Int} {x y : Int} {B : List Int} (h : key x > key y) : sink key x (y :: B) = y :: sink key x B := by simp only [sink]; rw [if_pos h]
theorem sink_stop {key : Int → Int} {x y : Int} {B : List Int} (h : ¬ key x > key y) : sink key x (y :: B) = x :: y :: B := by simp only [sink]; rw [if_neg h]
theorem cmpI_neg {a b : Int} : cmpI a b < 0 ↔ a < b := by
  unfold cmpI
  split
  · simp [*]
  · split <;> simp_all
theorem sinks_step {key : Int → Int} {xs : List Int} {i : Nat} {x : Int} (h : xs[i]? = some x) : (xs.take (i + 1)).foldl (fun acc x => sink key x acc) [] = sink key x ((xs.take i).foldl (fun acc x => sink key x acc) []) ∧ xs.drop i = x :: xs.drop (i + 1) := by
  obtain ⟨h1, rfl⟩ := List.getElem?_eq_some_iff.1 h
  refine ⟨?_, List.drop_eq_getElem_cons h1⟩
  rw [List.take_succ_eq_append_getElem h1, List.foldl_append]; rfl
set_option maxRecDepth 10000 in
theorem isort_at (b o cap F : Nat) (cv : Value) (L : List Value) (T : TypeId) (xs : List Int) (key : Int → Int) (w : World) (h : At w b o L T 1 cap (xs.map intc)) (hn : xs.length ≤ 19) (h1 : 0 < xs.length) (hb : bodied Tryz.prog F = true) (hF : ∀ x y w1, Keep (only b) w w1 → Calls Tryz.prog F #[nt x, nt y, cv] w1 fun e w' => e = .returned (nt (cmpI (key y) (key x))) ∧ Keep none_ w1 w') : Calls Tryz.prog 203 #[sl_ b o xs.length cap, nt 0, nt (xs.length : Int), .func (.func F) #[] #[cv]] w fun e w' => e = .returned (.tuple #[]) ∧ SlT w' 1 intc (some ⟨b, o, none⟩) cap (sortD key xs) ∧ Keep (only b) w w' := by
 have hblt := h.blk.lt
 obtain ⟨x0, xt, hx0⟩ : ∃ x0 xt, xs = x0 :: xt := by cases xs with
  | nil => simp at h1
  | cons x0 xt => exact ⟨x0, xt, rfl⟩
 have hK0 : Keep (only b) w w := Keep.refl _ _
 have hzhK0 := Keep.size hK0
 refine enterV Tryz.func203 rfl [sl_ b o xs.length cap, nt 0, nt (xs.length : Int), .func (.func F) #[] #[cv]] 53 rfl rfl rfl ?_
 refine Vs [(0, sl_ b o xs.length cap), (1, nt 0), (2, nt (xs.length : Int)), (3, .func (.func F) #[] #[cv]), (8, nt 1)] ?_
 refine V_block ?_
 refine V_pick [(0, sl_ b o xs.length cap), (1, nt 0), (2, nt (xs.length : Int)), (3, .func (.func F) #[] #[cv]), (8, nt 1)] rfl ?_
 refine V_loop (fun k wI e => ∃ i : Nat, ∃ acc : List Int, ∃ ys : List Int, ∃ Lx : List Value, (k + i = xs.length) ∧ (i ≤ xs.length) ∧ (acc = (xs.take i).foldl (fun acc x => sink key x acc) []) ∧ (acc.length = i) ∧ (ys = acc.reverse ++ xs.drop i) ∧ (At wI b o Lx T 1 cap (ys.map intc)) ∧ Keep (only b) w wI ∧ e = [(0, sl_ b o xs.length cap), (1, nt 0), (2, nt (xs.length : Int)), (3, .func (.func F) #[] #[cv]), (8, nt (i : Int))]) (xs.length - 1) ⟨1, [x0], xs, L, by omega, by omega, by rw [hx0]; rfl, rfl, by rw [hx0]; rfl, h, Keep.refl _ _, rfl⟩ ?_
 rintro k2 w1 _ ⟨i, acc, ys, Lx, hki, hi, hso, hal, hys, hat, hk3, rfl⟩
 have hsz4 := Keep.size hk3
 replace hK0 := Keep.fr hK0 hk3
 have hzhk3 := Keep.size hk3
 have hyl : ys.length = xs.length := by rw [hys, List.length_append, List.length_reverse, hal, List.length_drop]; omega
 refine V_seq ?_
 refine Vs [(0, sl_ b o xs.length cap), (1, nt 0), (2, nt (xs.length : Int)), (3, .func (.func F) #[] #[cv]), (8, nt (i : Int)), (14, .bool (decide ((i : Int) < (xs.length : Int))))] ?_
 refine V_if ((i : Int) < (xs.length : Int)) (by kernel_rfl) (fun hc5 => ?_) (fun hc5 => ?_)
 ·
  refine V_skip ?_
  refine X_then ?_
  refine V_seq ?_
  refine V_block ?_
  refine Vs [(0, sl_ b o xs.length cap), (1, nt 0), (2, nt (xs.length : Int)), (3, .func (.func F) #[] #[cv]), (8, nt (i : Int)), (9, nt (i : Int))] ?_
  refine V_block ?_
  obtain ⟨x, hx⟩ : ∃ x, xs[i]? = some x := ⟨_, List.getElem?_eq_getElem (by omega)⟩
  obtain ⟨hst1, hst2⟩ := sinks_step (key := key) hx
  have hzs0 : ys = acc.reverse ++ x :: (([] : List Int).reverse ++ xs.drop (i + 1)) := by rw [hys, hst2]; rfl
  refine V_pick [(0, sl_ b o xs.length cap), (1, nt 0), (2, nt (xs.length : Int)), (3, .func (.func F) #[] #[cv]), (8, nt (i : Int)), (9, nt (i : Int))] rfl ?_
  refine V_loop (fun k wI e => ∃ j : Nat, ∃ A1 : List Int, ∃ A2 : List Int, ∃ zs : List Int, ∃ L2 : List Value, (k = j) ∧ (j = A2.length) ∧ (acc = A1 ++ A2) ∧ (sink key x acc = A1 ++ sink key x A2) ∧ (zs = A2.reverse ++ x :: (A1.reverse ++ xs.drop (i + 1))) ∧ (At wI b o L2 T 1 cap (zs.map intc)) ∧ Keep (only b) w1 wI ∧ e = [(0, sl_ b o xs.length cap), (1, nt 0), (2, nt (xs.length : Int)), (3, .func (.func F) #[] #[cv]), (8, nt (i : Int)), (9, nt (j : Int))]) i ⟨i, [], acc, ys, _, rfl, by omega, rfl, rfl, hzs0, hat, Keep.refl _ _, rfl⟩ ?_
  rintro k7 w6 _ ⟨j, A1, A2, zs, L2, hkj, hj, hac, hsk, hzs, hat2, hk8, rfl⟩
  have hsz9 := Keep.size hk8
  replace hK0 := Keep.fr hK0 hk8
  replace hk3 := Keep.fr hk3 hk8
  have hzhk8 := Keep.size hk8
  have hzl : zs.length = xs.length := by rw [hzs, ← hyl, hzs0, hac]; simp only [List.length_append, List.length_reverse, List.length_cons, List.length_nil, List.length_drop, List.reverse_append]; omega
  have hjl : j ≤ i := by have h9 := congrArg List.length hac; rw [List.length_append] at h9; omega
  have hzj := sink_at hzs hj
  refine V_seq ?_
  refine V_seq ?_
  refine Vd (acts [14]) none_ [[0, 1, 2, 3, 4, 5, 6, 7, 8, 9, 10, 11, 12, 13, 14, 15, 16]] ?_
  intro w11 hk10 he12 L hL13
  have hsz14 := Keep.size hk10
  replace hat2 := hat2.keep hk10 id
  replace hK0 := hK0.tn hk10
  replace hk3 := hk3.tn hk10
  replace hk8 := hk8.tn hk10
  have qhat2 := hat2
  have K15 : Keep none_ w11 w11 := Keep.refl _ _
  obtain rfl := List.mem_singleton.1 hL13
  refine Gs [4, 5, 6, 7, 8, 9, 10, 11, 12, 13, 14, 15, 16] [(0, sl_ b o xs.length cap), (1, nt 0), (2, nt (xs.length : Int)), (3, .func (.func F) #[] #[cv]), (8, nt (i : Int)), (9, nt (j : Int)), (21, .bool (decide ((j : Int) > 0)))] ?_
  by_cases hg16 : (j : Int) > 0
  ·
   refine GI_eq [(0, sl_ b o xs.length cap), (1, nt 0), (2, nt (xs.length : Int)), (3, .func (.func F) #[] #[cv]), (8, nt (i : Int)), (9, nt (j : Int)), (21, .bool true)] (by first | rw [decide_eq_true hg16] | simp [hg16] | rfl) ?_
   refine Gn [7, 8, 9, 10, 11, 12, 13, 14, 15, 16] [0, 1, 2, 3, 8, 9, 21, 22, 23, 24] ?_
   refine GI_pure (some 25) (.indexAddr 72 (.tmp 23) (.tmp 24)) (by kernel_rfl) (by kernel_rfl) (pure_idxN (b := b) (o := o) (len := xs.length) (cap := cap) (kd := .i64) (j := j) (E := 3) (sz := 1) (by_ := 8) (by kernel_rfl) (by kernel_rfl) (by kernel_rfl) (by omega)) ?_
   refine Gc0 3 (.tmp 25) (o + j * 1) (nt x) (some 26) qhat2.blk (At.cell0 qhat2 (es_at hzj) rfl) ?_
   have hw17 : IntKind.i64.wrap ((j : Int) - 1) = ((j - 1 : Nat) : Int) := (wrap64_id (by omega) (by omega)).trans (by omega)
   refine Gs [12, 13, 14, 15, 16] [(0, sl_ b o xs.length cap), (1, nt 0), (2, nt (xs.length : Int)), (3, .func (.func F) #[] #[cv]), (8, nt (i : Int)), (9, nt (j : Int)), (21, .bool true), (22, .func (.func F) #[] #[cv]), (23, sl_ b o xs.length cap), (24, nt (j : Int)), (25, .pointer (some ⟨b, o + j * 1, none⟩)), (26, nt x), (27, sl_ b o xs.length cap), (28, nt (j : Int)), (29, nt (IntKind.i64.wrap ((j : Int) - 1)))] ?_
   refine GI_eq [(0, sl_ b o xs.length cap), (1, nt 0), (2, nt (xs.length : Int)), (3, .func (.func F) #[] #[cv]), (8, nt (i : Int)), (9, nt (j : Int)), (21, .bool true), (22, .func (.func F) #[] #[cv]), (23, sl_ b o xs.length cap), (24, nt (j : Int)), (25, .pointer (some ⟨b, o + j * 1, none⟩)), (26, nt x), (27, sl_ b o xs.length cap), (28, nt (j : Int)), (29, nt ((j - 1 : Nat) : Int))] (by rw [hw17]) ?_
   refine GI_pure (some 30) (.indexAddr 72 (.tmp 27) (.tmp 29)) (by kernel_rfl) (by kernel_rfl) (pure_idxN (b := b) (o := o) (len := xs.length) (cap := cap) (kd := .i64) (j := j - 1) (E := 3) (sz := 1) (by_ := 8) (by kernel_rfl) (by kernel_rfl) (by kernel_rfl) (by omega)) ?_
   obtain ⟨x18, hx19⟩ : ∃ x, zs[j - 1]? = some x := ⟨_, List.getElem?_eq_getElem (by first | omega | (simp only [List.length_map]; omega))⟩
   refine Gc0 3 (.tmp 30) (o + (j - 1) * 1) (nt x18) (some 31) qhat2.blk (At.cell0 qhat2 (es_at hx19) rfl) ?_
   refine GI_call { callee := (Callee.value (Operand.tmp 22)), args := #[(Operand.tmp 26), (Operand.tmp 31)], argTypes := #[3, 3] } F #[nt x, nt x18, cv] (some 32) (by kernel_rfl) (by kernel_rfl) (by kernel_rfl) hb (hF x x18 _ hK0) ?_
   rintro _ w20 ⟨rfl, hk21⟩
   have K22 := K15.tr (Keep.ofNone hk21)
   refine ⟨_, rfl, K22, ?_⟩
   have hzK22 := Keep.size K22
   have hsz23 := Keep.size hk21
   replace hat2 := hat2.keep hk21 id
   replace hK0 := hK0.tn hk21
   replace hk3 := hk3.tn hk21
   replace hk8 := hk8.tn hk21
   refine Gs [] [(0, sl_ b o xs.length cap), (1, nt 0), (2, nt (xs.length : Int)), (3, .func (.func F) #[] #[cv]), (8, nt (i : Int)), (9, nt (j : Int)), (22, .func (.func F) #[] #[cv]), (23, sl_ b o xs.length cap), (24, nt (j : Int)), (25, .pointer (some ⟨b, o + j * 1, none⟩)), (26, nt x), (27, sl_ b o xs.length cap), (28, nt (j : Int)), (29, nt ((j - 1 : Nat) : Int)), (30, .pointer (some ⟨b, o + (j - 1) * 1, none⟩)), (31, nt x18), (32, nt (cmpI (key x18) (key x))), (33, .bool (decide (cmpI (key x18) (key x) < 0))), (34, .bool (decide (cmpI (key x18) (key x) < 0)))] ?_
   refine GI_end ?_
   refine X_then ?_
   refine V_if (cmpI (key x18) (key x) < 0) (by kernel_rfl) (fun hc24 => ?_) (fun hc24 => ?_)
   ·
    refine V_skip ?_
    refine X_then ?_
    refine V_seq ?_
    refine V_block ?_
    refine Vd (acts [9, 13, 15, 17]) (only b) [[5, 6, 7, 8, 9, 10, 11, 12, 13, 0, 1, 14, 15, 2, 3, 4, 16, 17], [10, 11, 12, 13, 5, 6, 7, 8, 9, 0, 1, 14, 15, 2, 3, 4, 16, 17]] ?_
    intro w26 hk25 he27 L hL28
    have hsz29 := Keep.size hk25
    replace hat2 := hat2.keep hk25 id
    replace hK0 := hK0.tn hk25
    replace hk3 := hk3.tn hk25
    replace hk8 := hk8.tn hk25
    have qhat2 := hat2
    have K30 : Keep (only b) w26 w26 := Keep.refl _ _
    simp only [List.mem_cons, List.not_mem_nil, or_false] at hL28
    rcases hL28 with rfl | rfl
    ·
     have hw31 : IntKind.i64.wrap ((j : Int) - 1) = ((j - 1 : Nat) : Int) := (wrap64_id (by omega) (by omega)).trans (by omega)
     refine Gs [8, 9, 10, 11, 12, 13, 0, 1, 14, 15, 2, 3, 4, 16, 17] [(0, sl_ b o xs.length cap), (1, nt 0), (2, nt (xs.length : Int)), (3, .func (.func F) #[] #[cv]), (8, nt (i : Int)), (9, nt (j : Int)), (22, .func (.func F) #[] #[cv]), (23, sl_ b o xs.length cap), (24, nt (j : Int)), (25, .pointer (some ⟨b, o + j * 1, none⟩)), (26, nt x), (27, sl_ b o xs.length cap), (28, nt (j : Int)), (29, nt ((j - 1 : Nat) : Int)), (30, .pointer (some ⟨b, o + (j - 1) * 1, none⟩)), (31, nt x18), (32, nt (cmpI (key x18) (key x))), (33, .bool (decide (cmpI (key x18) (key x) < 0))), (42, sl_ b o xs.length cap), (44, nt (IntKind.i64.wrap ((j : Int) - 1)))] ?_
     refine GI_eq [(0, sl_ b o xs.length cap), (1, nt 0), (2, nt (xs.length : Int)), (3, .func (.func F) #[] #[cv]), (8, nt (i : Int)), (9, nt (j : Int)), (22, .func (.func F) #[] #[cv]), (23, sl_ b o xs.length cap), (24, nt (j : Int)), (25, .pointer (some ⟨b, o + j * 1, none⟩)), (26, nt x), (27, sl_ b o xs.length cap), (28, nt (j : Int)), (29, nt ((j - 1 : Nat) : Int)), (30, .pointer (some ⟨b, o + (j - 1) * 1, none⟩)), (31, nt x18), (32, nt (cmpI (key x18) (key x))), (33, .bool (decide (cmpI (key x18) (key x) < 0))), (42, sl_ b o xs.length cap), (44, nt ((j - 1 : Nat) : Int))] (by rw [hw31]) ?_
     refine GI_pure (some 45) (.indexAddr 72 (.tmp 42) (.tmp 44)) (by kernel_rfl) (by kernel_rfl) (pure_idxN (b := b) (o := o) (len := xs.length) (cap := cap) (kd := .i64) (j := j - 1) (E := 3) (sz := 1) (by_ := 8) (by kernel_rfl) (by kernel_rfl) (by kernel_rfl) (by omega)) ?_
     refine GI_cellA 3 (.tmp 45) (o + (j - 1) * 1) (nt x18) (some 46) (by kernel_rfl) (by kernel_rfl) K30 (by kernel_rfl) hat2.blk (m := 1) (by kernel_rfl) (At.cell0 hat2 (es_at hx19) rfl) ?_
     refine Gn [12, 13, 0, 1, 14, 15, 2, 3, 4, 16, 17] [0, 1, 2, 3, 8, 9, 22, 23, 24, 25, 26, 27, 28, 29, 30, 31, 32, 33, 46, 47, 48] ?_
     refine GI_pure (some 49) (.indexAddr 72 (.tmp 47) (.tmp 48)) (by kernel_rfl) (by kernel_rfl) (pure_idxN (b := b) (o := o) (len := xs.length) (cap := cap) (kd := .i64) (j := j) (E := 3) (sz := 1) (by_ := 8) (by kernel_rfl) (by kernel_rfl) (by kernel_rfl) (by omega)) ?_
     refine GI_cellA 3 (.tmp 49) (o + j * 1) (nt x) (some 50) (by kernel_rfl) (by kernel_rfl) K30 (by kernel_rfl) hat2.blk (m := 1) (by kernel_rfl) (At.cell0 hat2 (es_at hzj) rfl) ?_
     refine Gn [14, 15, 2, 3, 4, 16, 17] [0, 1, 2, 3, 8, 9, 22, 23, 24, 25, 26, 27, 28, 29, 30, 31, 32, 33, 37, 38, 46, 50] ?_
     refine GI_pure (some 51) (.indexAddr 72 (.tmp 37) (.tmp 38)) (by kernel_rfl) (by kernel_rfl) (pure_idxN (b := b) (o := o) (len := xs.length) (cap := cap) (kd := .i64) (j := j) (E := 3) (sz := 1) (by_ := 8) (by kernel_rfl) (by kernel_rfl) (by kernel_rfl) (by omega)) ?_
     refine GI_set (m := 1) (kd := false) 3 (.tmp 51) (.tmp 46) (o + j * 1) (nt x18) [nt x18] none (by kernel_rfl) (by kernel_rfl) (by kernel_rfl) (by kernel_rfl) (At.blk hat2) (by kernel_rfl) (by kernel_rfl) rfl (by have h1 := At.room hat2; have h2 := At.le hat2; rw [List.length_map] at h2; omega) (by simp [Value.oneCell']) K30 (fun hh => rfl) ?_
     intro w32 hn33 hk34 hz35 K37
     have hat36 := At.set (y := (x18 : Int)) (k := 0) hat2 hzj (by omega) (by simp [intc, over]) hn33
     have hsz38 := Keep.size hk34
     replace hK0 := Keep.fr hK0 hk34
     replace hk3 := Keep.fr hk3 hk34
     replace hk8 := Keep.fr hk8 hk34
     have hlhx39 : (zs.set j x18).length = zs.length := List.length_set
     have hx39 : (zs.set j x18)[j]? = some x18 := by rw [List.getElem?_set_self (List.getElem?_eq_some_iff.1 hzj).1]
     have hw40 : IntKind.i64.wrap ((j : Int) - 1) = ((j - 1 : Nat) : Int) := (wrap64_id (by omega) (by omega)).trans (by omega)
     refine Gs [16, 17] [(0, sl_ b o xs.length cap), (1, nt 0), (2, nt (xs.length : Int)), (3, .func (.func F) #[] #[cv]), (8, nt (i : Int)), (9, nt (j : Int)), (22, .func (.func F) #[] #[cv]), (23, sl_ b o xs.length cap), (24, nt (j : Int)), (25, .pointer (some ⟨b, o + j * 1, none⟩)), (26, nt x), (27, sl_ b o xs.length cap), (28, nt (j : Int)), (29, nt ((j - 1 : Nat) : Int)), (30, .pointer (some ⟨b, o + (j - 1) * 1, none⟩)), (31, nt x18), (32, nt (cmpI (key x18) (key x))), (33, .bool (decide (cmpI (key x18) (key x) < 0))), (39, sl_ b o xs.length cap), (41, nt (IntKind.i64.wrap ((j : Int) - 1))), (50, nt x)] ?_
     refine GI_eq [(0, sl_ b o xs.length cap), (1, nt 0), (2, nt (xs.length : Int)), (3, .func (.func F) #[] #[cv]), (8, nt (i : Int)), (9, nt (j : Int)), (22, .func (.func F) #[] #[cv]), (23, sl_ b o xs.length cap), (24, nt (j : Int)), (25, .pointer (some ⟨b, o + j * 1, none⟩)), (26, nt x), (27, sl_ b o xs.length cap), (28, nt (j : Int)), (29, nt ((j - 1 : Nat) : Int)), (30, .pointer (some ⟨b, o + (j - 1) * 1, none⟩)), (31, nt x18), (32, nt (cmpI (key x18) (key x))), (33, .bool (decide (cmpI (key x18) (key x) < 0))), (39, sl_ b o xs.length cap), (41, nt ((j - 1 : Nat) : Int)), (50, nt x)] (by rw [hw40]) ?_
     refine GI_pure (some 52) (.indexAddr 72 (.tmp 39) (.tmp 41)) (by kernel_rfl) (by kernel_rfl) (pure_idxN (b := b) (o := o) (len := xs.length) (cap := cap) (kd := .i64) (j := j - 1) (E := 3) (sz := 1) (by_ := 8) (by kernel_rfl) (by kernel_rfl) (by kernel_rfl) (by omega)) ?_
     refine GI_final 17 (by kernel_rfl) (by kernel_rfl) ?_
     obtain ⟨x41, hx42⟩ : ∃ x, (zs.set j x18)[j - 1]? = some x := ⟨_, List.getElem?_eq_getElem (by first | omega | (simp only [List.length_map]; omega))⟩
     refine OI_set (m := 1) (kd := false) 3 (.tmp 52) (.tmp 50) (o + (j - 1) * 1) (nt x) [nt x] none (by kernel_rfl) (by kernel_rfl) (by kernel_rfl) (At.blk hat36) (by kernel_rfl) (by kernel_rfl) rfl (by have h1 := At.room hat36; have h2 := At.le hat36; rw [List.length_map] at h2; omega) (by simp [Value.oneCell']) ?_
     intro w43 hn44 hk45 hz46
     have hat47 := At.set (y := (x : Int)) (k := 0) hat36 hx42 (by omega) (by simp [intc, over]) hn44
     have hsz48 := Keep.size hk45
     replace hK0 := Keep.fr hK0 hk45
     replace hk3 := Keep.fr hk3 hk45
     replace hk8 := Keep.fr hk8 hk45
     have hlhx49 : ((zs.set j x18).set (j - 1) x).length = (zs.set j x18).length := List.length_set
     have hx49 : ((zs.set j x18).set (j - 1) x)[j - 1]? = some x := by rw [List.getElem?_set_self (List.getElem?_eq_some_iff.1 hx42).1]
     refine OI_end rfl ?_
     refine X_block ?_
     refine X_then ?_
     refine V_region ?_
     have hw50 : IntKind.i64.wrap ((j : Int) - 1) = ((j - 1 : Nat) : Int) := (wrap64_id (by omega) (by omega)).trans (by omega)
     refine Os 2 [(0, sl_ b o xs.length cap), (1, nt 0), (2, nt (xs.length : Int)), (3, .func (.func F) #[] #[cv]), (8, nt (i : Int)), (22, .func (.func F) #[] #[cv]), (23, sl_ b o xs.length cap), (24, nt (j : Int)), (25, .pointer (some ⟨b, o + j * 1, none⟩)), (26, nt x), (27, sl_ b o xs.length cap), (28, nt (j : Int)), (29, nt ((j - 1 : Nat) : Int)), (30, .pointer (some ⟨b, o + (j - 1) * 1, none⟩)), (31, nt x18), (32, nt (cmpI (key x18) (key x))), (33, .bool (decide (cmpI (key x18) (key x) < 0))), (36, nt (IntKind.i64.wrap ((j : Int) - 1)))] ?_
     refine Oq (u := nt (IntKind.i64.wrap ((j : Int) - 1))) (v := nt ((j - 1 : Nat) : Int)) 36 (by rw [hw50]) ?_
     refine Os 3 [(0, sl_ b o xs.length cap), (1, nt 0), (2, nt (xs.length : Int)), (3, .func (.func F) #[] #[cv]), (8, nt (i : Int)), (9, nt ((j - 1 : Nat) : Int)), (22, .func (.func F) #[] #[cv]), (23, sl_ b o xs.length cap), (24, nt (j : Int)), (25, .pointer (some ⟨b, o + j * 1, none⟩)), (26, nt x), (27, sl_ b o xs.length cap), (28, nt (j : Int)), (29, nt ((j - 1 : Nat) : Int)), (30, .pointer (some ⟨b, o + (j - 1) * 1, none⟩)), (31, nt x18), (32, nt (cmpI (key x18) (key x))), (33, .bool (decide (cmpI (key x18) (key x) < 0)))] ?_
     refine OI_end rfl ?_
     obtain ⟨B, rfl, hzn⟩ := sink_prev hzs hj (by omega) hx19
     have hgo : key x > key x18 := cmpI_neg.1 hc24
     exact V_again (j - 1) (by omega) [(0, sl_ b o xs.length cap), (1, nt 0), (2, nt (xs.length : Int)), (3, .func (.func F) #[] #[cv]), (8, nt (i : Int)), (9, nt ((j - 1 : Nat) : Int))] rfl ⟨j - 1, A1 ++ [x18], B, _, _, by omega, by rw [hj]; simp, by rw [hac, List.append_assoc]; rfl, by rw [hsk, sink_go hgo, List.append_assoc]; rfl, hzn, hat47, hk8, rfl⟩
    ·
     refine Gn [12, 13, 5, 6, 7, 8, 9, 0, 1, 14, 15, 2, 3, 4, 16, 17] [0, 1, 2, 3, 8, 9, 22, 23, 24, 25, 26, 27, 28, 29, 30, 31, 32, 33, 47, 48] ?_
     refine GI_pure (some 49) (.indexAddr 72 (.tmp 47) (.tmp 48)) (by kernel_rfl) (by kernel_rfl) (pure_idxN (b := b) (o := o) (len := xs.length) (cap := cap) (kd := .i64) (j := j) (E := 3) (sz := 1) (by_ := 8) (by kernel_rfl) (by kernel_rfl) (by kernel_rfl) (by omega)) ?_
     refine GI_cellA 3 (.tmp 49) (o + j * 1) (nt x) (some 50) (by kernel_rfl) (by kernel_rfl) K30 (by kernel_rfl) hat2.blk (m := 1) (by kernel_rfl) (At.cell0 hat2 (es_at hzj) rfl) ?_
     have hw51 : IntKind.i64.wrap ((j : Int) - 1) = ((j - 1 : Nat) : Int) := (wrap64_id (by omega) (by omega)).trans (by omega)
     refine Gs [8, 9, 0, 1, 14, 15, 2, 3, 4, 16, 17] [(0, sl_ b o xs.length cap), (1, nt 0), (2, nt (xs.length : Int)), (3, .func (.func F) #[] #[cv]), (8, nt (i : Int)), (9, nt (j : Int)), (22, .func (.func F) #[] #[cv]), (23, sl_ b o xs.length cap), (24, nt (j : Int)), (25, .pointer (some ⟨b, o + j * 1, none⟩)), (26, nt x), (27, sl_ b o xs.length cap), (28, nt (j : Int)), (29, nt ((j - 1 : Nat) : Int)), (30, .pointer (some ⟨b, o + (j - 1) * 1, none⟩)), (31, nt x18), (32, nt (cmpI (key x18) (key x))), (33, .bool (decide (cmpI (key x18) (key x) < 0))), (42, sl_ b o xs.length cap), (44, nt (IntKind.i64.wrap ((j : Int) - 1))), (50, nt x)] ?_
     refine GI_eq [(0, sl_ b o xs.length cap), (1, nt 0), (2, nt (xs.length : Int)), (3, .func (.func F) #[] #[cv]), (8, nt (i : Int)), (9, nt (j : Int)), (22, .func (.func F) #[] #[cv]), (23, sl_ b o xs.length cap), (24, nt (j : Int)), (25, .pointer (some ⟨b, o + j * 1, none⟩)), (26, nt x), (27, sl_ b o xs.length cap), (28, nt (j : Int)), (29, nt ((j - 1 : Nat) : Int)), (30, .pointer (some ⟨b, o + (j - 1) * 1, none⟩)), (31, nt x18), (32, nt (cmpI (key x18) (key x))), (33, .bool (decide (cmpI (key x18) (key x) < 0))), (42, sl_ b o xs.length cap), (44, nt ((j - 1 : Nat) : Int)), (50, nt x)] (by rw [hw51]) ?_
     refine GI_pure (some 45) (.indexAddr 72 (.tmp 42) (.tmp 44)) (by kernel_rfl) (by kernel_rfl) (pure_idxN (b := b) (o := o) (len := xs.length) (cap := cap) (kd := .i64) (j := j - 1) (E := 3) (sz := 1) (by_ := 8) (by kernel_rfl) (by kernel_rfl) (by kernel_rfl) (by omega)) ?_
     refine GI_cellA 3 (.tmp 45) (o + (j - 1) * 1) (nt x18) (some 46) (by kernel_rfl) (by kernel_rfl) K30 (by kernel_rfl) hat2.blk (m := 1) (by kernel_rfl) (At.cell0 hat2 (es_at hx19) rfl) ?_
     refine Gn [14, 15, 2, 3, 4, 16, 17] [0, 1, 2, 3, 8, 9, 22, 23, 24, 25, 26, 27, 28, 29, 30, 31, 32, 33, 37, 38, 46, 50] ?_
     refine GI_pure (some 51) (.indexAddr 72 (.tmp 37) (.tmp 38)) (by kernel_rfl) (by kernel_rfl) (pure_idxN (b := b) (o := o) (len := xs.length) (cap := cap) (kd := .i64) (j := j) (E := 3) (sz := 1) (by_ := 8) (by kernel_rfl) (by kernel_rfl) (by kernel_rfl) (by omega)) ?_
     refine GI_set (m := 1) (kd := false) 3 (.tmp 51) (.tmp 46) (o + j * 1) (nt x18) [nt x18] none (by kernel_rfl) (by kernel_rfl) (by kernel_rfl) (by kernel_rfl) (At.blk hat2) (by kernel_rfl) (by kernel_rfl) rfl (by have h1 := At.room hat2; have h2 := At.le hat2; rw [List.length_map] at h2; omega) (by simp [Value.oneCell']) K30 (fun hh => rfl) ?_
     intro w52 hn53 hk54 hz55 K57
     have hat56 := At.set (y := (x18 : Int)) (k := 0) hat2 hzj (by omega) (by simp [intc, over]) hn53
     have hsz58 := Keep.size hk54
     replace hK0 := Keep.fr hK0 hk54
     replace hk3 := Keep.fr hk3 hk54
     replace hk8 := Keep.fr hk8 hk54
     have hlhx59 : (zs.set j x18).length = zs.length := List.length_set
     have hx59 : (zs.set j x18)[j]? = some x18 := by rw [List.getElem?_set_self (List.getElem?_eq_some_iff.1 hzj).1]
     have hw60 : IntKind.i64.wrap ((j : Int) - 1) = ((j - 1 : Nat) : Int) := (wrap64_id (by omega) (by omega)).trans (by omega)
     refine Gs [16, 17] [(0, sl_ b o xs.length cap), (1, nt 0), (2, nt (xs.length : Int)), (3, .func (.func F) #[] #[cv]), (8, nt (i : Int)), (9, nt (j : Int)), (22, .func (.func F) #[] #[cv]), (23, sl_ b o xs.length cap), (24, nt (j : Int)), (25, .pointer (some ⟨b, o + j * 1, none⟩)), (26, nt x), (27, sl_ b o xs.length cap), (28, nt (j : Int)), (29, nt ((j - 1 : Nat) : Int)), (30, .pointer (some ⟨b, o + (j - 1) * 1, none⟩)), (31, nt x18), (32, nt (cmpI (key x18) (key x))), (33, .bool (decide (cmpI (key x18) (key x) < 0))), (39, sl_ b o xs.length cap), (41, nt (IntKind.i64.wrap ((j : Int) - 1))), (50, nt x)] ?_
     refine GI_eq [(0, sl_ b o xs.length cap), (1, nt 0), (2, nt (xs.length : Int)), (3, .func (.func F) #[] #[cv]), (8, nt (i : Int)), (9, nt (j : Int)), (22, .func (.func F) #[] #[cv]), (23, sl_ b o xs.length cap), (24, nt (j : Int)), (25, .pointer (some ⟨b, o + j * 1, none⟩)), (26, nt x), (27, sl_ b o xs.length cap), (28, nt (j : Int)), (29, nt ((j - 1 : Nat) : Int)), (30, .pointer (some ⟨b, o + (j - 1) * 1, none⟩)), (31, nt x18), (32, nt (cmpI (key x18) (key x))), (33, .bool (decide (cmpI (key x18) (key x) < 0))), (39, sl_ b o xs.length cap), (41, nt ((j - 1 : Nat) : Int)), (50, nt x)] (by rw [hw60]) ?_
     refine GI_pure (some 52) (.indexAddr 72 (.tmp 39) (.tmp 41)) (by kernel_rfl) (by kernel_rfl) (pure_idxN (b := b) (o := o) (len := xs.length) (cap := cap) (kd := .i64) (j := j - 1) (E := 3) (sz := 1) (by_ := 8) (by kernel_rfl) (by kernel_rfl) (by kernel_rfl) (by omega)) ?_
     refine GI_final 17 (by kernel_rfl) (by kernel_rfl) ?_
     obtain ⟨x61, hx62⟩ : ∃ x, (zs.set j x18)[j - 1]? = some x := ⟨_, List.getElem?_eq_getElem (by first | omega | (simp only [List.length_map]; omega))⟩
     refine OI_set (m := 1) (kd := false) 3 (.tmp 52) (.tmp 50) (o + (j - 1) * 1) (nt x) [nt x] none (by kernel_rfl) (by kernel_rfl) (by kernel_rfl) (At.blk hat56) (by kernel_rfl) (by kernel_rfl) rfl (by have h1 := At.room hat56; have h2 := At.le hat56; rw [List.length_map] at h2; omega) (by simp [Value.oneCell']) ?_
     intro w63 hn64 hk65 hz66
     have hat67 := At.set (y := (x : Int)) (k := 0) hat56 hx62 (by omega) (by simp [intc, over]) hn64
     have hsz68 := Keep.size hk65
     replace hK0 := Keep.fr hK0 hk65
     replace hk3 := Keep.fr hk3 hk65
     replace hk8 := Keep.fr hk8 hk65
     have hlhx69 : ((zs.set j x18).set (j - 1) x).length = (zs.set j x18).length := List.length_set
     have hx69 : ((zs.set j x18).set (j - 1) x)[j - 1]? = some x := by rw [List.getElem?_set_self (List.getElem?_eq_some_iff.1 hx62).1]
     refine OI_end rfl ?_
     refine X_block ?_
     refine X_then ?_
     refine V_region ?_
     have hw70 : IntKind.i64.wrap ((j : Int) - 1) = ((j - 1 : Nat) : Int) := (wrap64_id (by omega) (by omega)).trans (by omega)
     refine Os 2 [(0, sl_ b o xs.length cap), (1, nt 0), (2, nt (xs.length : Int)), (3, .func (.func F) #[] #[cv]), (8, nt (i : Int)), (22, .func (.func F) #[] #[cv]), (23, sl_ b o xs.length cap), (24, nt (j : Int)), (25, .pointer (some ⟨b, o + j * 1, none⟩)), (26, nt x), (27, sl_ b o xs.length cap), (28, nt (j : Int)), (29, nt ((j - 1 : Nat) : Int)), (30, .pointer (some ⟨b, o + (j - 1) * 1, none⟩)), (31, nt x18), (32, nt (cmpI (key x18) (key x))), (33, .bool (decide (cmpI (key x18) (key x) < 0))), (36, nt (IntKind.i64.wrap ((j : Int) - 1)))] ?_
     refine Oq (u := nt (IntKind.i64.wrap ((j : Int) - 1))) (v := nt ((j - 1 : Nat) : Int)) 36 (by rw [hw70]) ?_
     refine Os 3 [(0, sl_ b o xs.length cap), (1, nt 0), (2, nt (xs.length : Int)), (3, .func (.func F) #[] #[cv]), (8, nt (i : Int)), (9, nt ((j - 1 : Nat) : Int)), (22, .func (.func F) #[] #[cv]), (23, sl_ b o xs.length cap), (24, nt (j : Int)), (25, .pointer (some ⟨b, o + j * 1, none⟩)), (26, nt x), (27, sl_ b o xs.length cap), (28, nt (j : Int)), (29, nt ((j - 1 : Nat) : Int)), (30, .pointer (some ⟨b, o + (j - 1) * 1, none⟩)), (31, nt x18), (32, nt (cmpI (key x18) (key x))), (33, .bool (decide (cmpI (key x18) (key x) < 0)))] ?_
     refine OI_end rfl ?_
     obtain ⟨B, rfl, hzn⟩ := sink_prev hzs hj (by omega) hx19
     have hgo : key x > key x18 := cmpI_neg.1 hc24
     exact V_again (j - 1) (by omega) [(0, sl_ b o xs.length cap), (1, nt 0), (2, nt (xs.length : Int)), (3, .func (.func F) #[] #[cv]), (8, nt (i : Int)), (9, nt ((j - 1 : Nat) : Int))] rfl ⟨j - 1, A1 ++ [x18], B, _, _, by omega, by rw [hj]; simp, by rw [hac, List.append_assoc]; rfl, by rw [hsk, sink_go hgo, List.append_assoc]; rfl, hzn, hat67, hk8, rfl⟩
   obtain ⟨B, hB, _⟩ := sink_prev hzs hj (by omega) hx19
   have hsx : sink key x acc = A1 ++ x :: A2 := by rw [hsk, hB, sink_stop (fun h9 => hc24 (cmpI_neg.2 h9))]
   refine V_exit ?_
   refine X_exit_then ?_
   refine X_exit_then ?_
   refine X_exit_here ?_
   refine X_block ?_
   refine X_then ?_
   refine V_region ?_
   have hw71 : IntKind.i64.wrap ((i : Int) + 1) = ((i + 1 : Nat) : Int) := (wrap64_id (by omega) (by omega)).trans (by omega)
   refine Os 2 [(0, sl_ b o xs.length cap), (1, nt 0), (2, nt (xs.length : Int)), (3, .func (.func F) #[] #[cv]), (16, nt (IntKind.i64.wrap ((i : Int) + 1))), (22, .func (.func F) #[] #[cv]), (23, sl_ b o xs.length cap), (24, nt (j : Int)), (25, .pointer (some ⟨b, o + j * 1, none⟩)), (26, nt x), (27, sl_ b o xs.length cap), (28, nt (j : Int)), (29, nt ((j - 1 : Nat) : Int)), (30, .pointer (some ⟨b, o + (j - 1) * 1, none⟩)), (31, nt x18), (32, nt (cmpI (key x18) (key x))), (33, .bool (decide (cmpI (key x18) (key x) < 0)))] ?_
   refine Oq (u := nt (IntKind.i64.wrap ((i : Int) + 1))) (v := nt ((i + 1 : Nat) : Int)) 16 (by rw [hw71]) ?_
   refine Os 3 [(0, sl_ b o xs.length cap), (1, nt 0), (2, nt (xs.length : Int)), (3, .func (.func F) #[] #[cv]), (8, nt ((i + 1 : Nat) : Int)), (22, .func (.func F) #[] #[cv]), (23, sl_ b o xs.length cap), (24, nt (j : Int)), (25, .pointer (some ⟨b, o + j * 1, none⟩)), (26, nt x), (27, sl_ b o xs.length cap), (28, nt (j : Int)), (29, nt ((j - 1 : Nat) : Int)), (30, .pointer (some ⟨b, o + (j - 1) * 1, none⟩)), (31, nt x18), (32, nt (cmpI (key x18) (key x))), (33, .bool (decide (cmpI (key x18) (key x) < 0)))] ?_
   refine OI_end rfl ?_
   exact V_again (xs.length - (i + 1)) (by omega) [(0, sl_ b o xs.length cap), (1, nt 0), (2, nt (xs.length : Int)), (3, .func (.func F) #[] #[cv]), (8, nt ((i + 1 : Nat) : Int))] rfl ⟨i + 1, A1 ++ x :: A2, zs, _, by omega, by omega, by rw [hst1, ← hso, hsx], by have h9 := congrArg List.length hac; simp only [List.length_append, List.length_cons] at h9 ⊢; omega, by rw [hzs]; simp, hat2, hk3, rfl⟩
  have hA2 : A2 = [] := List.length_eq_zero_iff.1 (by omega)
  have hsx : sink key x acc = A1 ++ x :: A2 := by rw [hsk, hA2]; rfl
  refine GI_eq [(0, sl_ b o xs.length cap), (1, nt 0), (2, nt (xs.length : Int)), (3, .func (.func F) #[] #[cv]), (8, nt (i : Int)), (9, nt (j : Int)), (21, .bool false)] (by first | rw [decide_eq_false hg16] | simp [hg16] | rfl) ?_
  refine Gs [] [(0, sl_ b o xs.length cap), (1, nt 0), (2, nt (xs.length : Int)), (3, .func (.func F) #[] #[cv]), (8, nt (i : Int)), (9, nt (j : Int)), (22, undef), (23, undef), (24, undef), (25, undef), (26, undef), (27, undef), (28, undef), (29, undef), (30, undef), (31, undef), (32, undef), (33, undef), (34, .bool false)] ?_
  refine GI_end ?_
  refine X_then ?_
  refine V_false rfl ?_
  refine V_exit ?_
  refine X_exit_then ?_
  refine X_exit_then ?_
  refine X_exit_here ?_
  refine X_block ?_
  refine X_then ?_
  refine V_region ?_
  have hw72 : IntKind.i64.wrap ((i : Int) + 1) = ((i + 1 : Nat) : Int) := (wrap64_id (by omega) (by omega)).trans (by omega)
  refine Os 2 [(0, sl_ b o xs.length cap), (1, nt 0), (2, nt (xs.length : Int)), (3, .func (.func F) #[] #[cv]), (16, nt (IntKind.i64.wrap ((i : Int) + 1))), (22, undef), (23, undef), (24, undef), (25, undef), (26, undef), (27, undef), (28, undef), (29, undef), (30, undef), (31, undef), (32, undef), (33, undef)] ?_
  refine Oq (u := nt (IntKind.i64.wrap ((i : Int) + 1))) (v := nt ((i + 1 : Nat) : Int)) 16 (by rw [hw72]) ?_
  refine Os 3 [(0, sl_ b o xs.length cap), (1, nt 0), (2, nt (xs.length : Int)), (3, .func (.func F) #[] #[cv]), (8, nt ((i + 1 : Nat) : Int)), (22, undef), (23, undef), (24, undef), (25, undef), (26, undef), (27, undef), (28, undef), (29, undef), (30, undef), (31, undef), (32, undef), (33, undef)] ?_
  refine OI_end rfl ?_
  exact V_again (xs.length - (i + 1)) (by omega) [(0, sl_ b o xs.length cap), (1, nt 0), (2, nt (xs.length : Int)), (3, .func (.func F) #[] #[cv]), (8, nt ((i + 1 : Nat) : Int))] rfl ⟨i + 1, A1 ++ x :: A2, zs, _, by omega, by omega, by rw [hst1, ← hso, hsx], by have h9 := congrArg List.length hac; simp only [List.length_append, List.length_cons] at h9 ⊢; omega, by rw [hzs]; simp, hat2, hk3, rfl⟩
 refine V_exit ?_
 refine X_exit_then ?_
 refine X_exit_then ?_
 refine X_exit_here ?_
 have hie : i = xs.length := by omega
 have h9 : ys = sortD key xs := by rw [hys, hie, List.drop_length, List.append_nil, hso, hie, List.take_length]; rfl
 exact X_end _ rfl ⟨rfl, by rw [← h9]; exact At.slt hat, hK0⟩
set_option maxRecDepth 10000 in
theorem isort_nil (A : Option Addr) (cap : Nat) (fv : Value) (w : World) : Calls Tryz.prog 203 #[.slice A 0 cap, nt 0, nt 0, fv] w fun e w' => e = .returned (.tuple #[]) ∧ w' = w := by
 refine enterV Tryz.func203 rfl [.slice A 0 cap, nt 0, nt 0, fv] 53 rfl rfl rfl ?_
 refine Vs [(0, .slice A 0 cap), (1, nt 0), (2, nt 0), (3, fv), (8, nt 1)] ?_
 refine V_block ?_
 refine V_pick [(0, .slice A 0 cap), (1, nt 0), (2, nt 0), (3, fv), (8, nt 1)] rfl ?_
 refine V_loop (fun k wI e => (k = 0) ∧ w = wI ∧ e = [(0, .slice A 0 cap), (1, nt 0), (2, nt 0), (3, fv), (8, nt 1)]) 0 ⟨rfl, rfl, rfl⟩ ?_
 rintro k2 _ _ ⟨hk9, rfl, rfl⟩
 refine V_seq ?_
 refine Vs [(0, .slice A 0 cap), (1, nt 0), (2, nt 0), (3, fv), (8, nt 1), (14, .bool false)] ?_
 refine V_false rfl ?_
 refine V_exit ?_
 refine X_exit_then ?_
 refine X_exit_then ?_
 refine X_exit_here ?_
 exact X_end _ rfl ⟨rfl, rfl⟩
set_option maxRecDepth 10000 in
theorem stable_at (b o cap F : Nat) (cv : Value) (L : List Value) (T : TypeId) (xs : List Int) (key : Int → Int) (w : World) (h : At w b o L T 1 cap (xs.map intc)) (hn : xs.length ≤ 19) (h1 : 0 < xs.length) (hb : bodied Tryz.prog F = true) (hF : ∀ x y w1, Keep (only b) w w1 → Calls Tryz.prog F #[nt x, nt y, cv] w1 fun e w' => e = .returned (nt (cmpI (key y) (key x))) ∧ Keep none_ w1 w') : Calls Tryz.prog 185 #[sl_ b o xs.length cap, nt (xs.length : Int), .func (.func F) #[] #[cv]] w fun e w' => e = .returned (.tuple #[]) ∧ SlT w' 1 intc (some ⟨b, o, none⟩) cap (sortD key xs) ∧ Keep (only b) w w' := by
 have hblt := h.blk.lt
 have hK0 : Keep (only b) w w := Keep.refl _ _
 have hzhK0 := Keep.size hK0
 refine enterV Tryz.func185 rfl [sl_ b o xs.length cap, nt (xs.length : Int), .func (.func F) #[] #[cv]] 63 rfl rfl rfl ?_
 refine Vr ?_
 refine On 1 [0, 1, 2, 6] ?_
 refine Oer ?_
 refine Ose [(0, sl_ b o xs.length cap), (1, nt (xs.length : Int)), (2, .func (.func F) #[] #[cv]), (6, nt 20), (7, nt 0), (8, nt 20)] ?_
 refine V_seq ?_
 refine V_block ?_
 refine V_pick [(0, sl_ b o xs.length cap), (1, nt (xs.length : Int)), (2, .func (.func F) #[] #[cv]), (6, nt 20), (7, nt 0), (8, nt 20)] rfl ?_
 refine V_loop (fun k wI e => (k = 0) ∧ w = wI ∧ e = [(0, sl_ b o xs.length cap), (1, nt (xs.length : Int)), (2, .func (.func F) #[] #[cv]), (6, nt 20), (7, nt 0), (8, nt 20)]) 0 ⟨rfl, rfl, rfl⟩ ?_
 rintro k2 _ _ ⟨hk9, rfl, rfl⟩
 refine V_seq ?_
 refine Vs [(0, sl_ b o xs.length cap), (1, nt (xs.length : Int)), (2, .func (.func F) #[] #[cv]), (6, nt 20), (7, nt 0), (8, nt 20), (13, .bool (decide ((20 : Int) ≤ (xs.length : Int))))] ?_
 refine V_if ((20 : Int) ≤ (xs.length : Int)) (by kernel_rfl) (fun hc3 => ?_) (fun hc3 => ?_)
 ·
  exact (by omega : False).elim
 refine V_exit ?_
 refine X_exit_then ?_
 refine X_exit_then ?_
 refine X_exit_here ?_
 refine X_then ?_
 refine Vr ?_
 refine Os 4 [(0, sl_ b o xs.length cap), (1, nt (xs.length : Int)), (2, .func (.func F) #[] #[cv]), (6, nt 20), (23, sl_ b o xs.length cap), (24, nt 0), (25, nt (xs.length : Int)), (26, .func (.func F) #[] #[cv])] ?_
 refine Ok (kl 203 #[(.tmp 23), (.tmp 24), (.tmp 25), (.tmp 26)] #[72, 3, 3, 128]) 203 #[sl_ b o xs.length cap, nt 0, nt (xs.length : Int), .func (.func F) #[] #[cv]] (some 27) (isort_at b o cap F cv L T xs key _ h hn h1 hb hF) ?_
 rintro _ w6 ⟨rfl, hso, hk7⟩
 refine ⟨_, rfl, ?_⟩
 have hsz8 := Keep.size hk7
 replace hK0 := Keep.fr hK0 hk7
 refine Oe ?_
 refine V_block ?_
 refine V_pick [(0, sl_ b o xs.length cap), (1, nt (xs.length : Int)), (2, .func (.func F) #[] #[cv]), (6, nt 20)] rfl ?_
 refine V_loop (fun k wI e => (k = 0) ∧ w6 = wI ∧ e = [(0, sl_ b o xs.length cap), (1, nt (xs.length : Int)), (2, .func (.func F) #[] #[cv]), (6, nt 20)]) 0 ⟨rfl, rfl, rfl⟩ ?_
 rintro k10 _ _ ⟨hk9, rfl, rfl⟩
 refine V_seq ?_
 refine Vs [(0, sl_ b o xs.length cap), (1, nt (xs.length : Int)), (2, .func (.func F) #[] #[cv]), (6, nt 20), (30, .bool (decide ((20 : Int) < (xs.length : Int))))] ?_
 refine V_if ((20 : Int) < (xs.length : Int)) (by kernel_rfl) (fun hc11 => ?_) (fun hc11 => ?_)
 ·
  exact (by omega : False).elim
 refine V_exit ?_
 refine X_exit_then ?_
 refine X_exit_then ?_
 refine X_exit_here ?_
 exact X_end _ rfl ⟨rfl, hso, hK0⟩
set_option maxRecDepth 10000 in
theorem stable_nil (A : Option Addr) (cap : Nat) (fv : Value) (w : World) : Calls Tryz.prog 185 #[.slice A 0 cap, nt 0, fv] w fun e w' => e = .returned (.tuple #[]) ∧ w' = w := by
 refine enterV Tryz.func185 rfl [.slice A 0 cap, nt 0, fv] 63 rfl rfl rfl ?_
 refine Vr ?_
 refine On 1 [0, 1, 2, 6] ?_
 refine Oer ?_
 refine Ose [(0, .slice A 0 cap), (1, nt 0), (2, fv), (6, nt 20), (7, nt 0), (8, nt 20)] ?_
 refine V_seq ?_
 refine V_block ?_
 refine V_pick [(0, .slice A 0 cap), (1, nt 0), (2, fv), (6, nt 20), (7, nt 0), (8, nt 20)] rfl ?_
 refine V_loop (fun k wI e => (k = 0) ∧ w = wI ∧ e = [(0, .slice A 0 cap), (1, nt 0), (2, fv), (6, nt 20), (7, nt 0), (8, nt 20)]) 0 ⟨rfl, rfl, rfl⟩ ?_
 rintro k2 _ _ ⟨hk9, rfl, rfl⟩
 refine V_seq ?_
 refine Vs [(0, .slice A 0 cap), (1, nt 0), (2, fv), (6, nt 20), (7, nt 0), (8, nt 20), (13, .bool false)] ?_
 refine V_false rfl ?_
 refine V_exit ?_
 refine X_exit_then ?_
 refine X_exit_then ?_
 refine X_exit_here ?_
 refine X_then ?_
 refine Vr ?_
 refine Os 4 [(0, .slice A 0 cap), (1, nt 0), (2, fv), (6, nt 20), (23, .slice A 0 cap), (24, nt 0), (25, nt 0), (26, fv)] ?_
 refine Ok (kl 203 #[(.tmp 23), (.tmp 24), (.tmp 25), (.tmp 26)] #[72, 3, 3, 128]) 203 #[.slice A 0 cap, nt 0, nt 0, fv] (some 27) (isort_nil A cap fv _) ?_
 rintro _ w ⟨rfl, rfl⟩
 refine ⟨_, rfl, ?_⟩
 refine Oe ?_
 refine V_block ?_
 refine V_pick [(0, .slice A 0 cap), (1, nt 0), (2, fv), (6, nt 20)] rfl ?_
 refine V_loop (fun k wI e => (k = 0) ∧ w = wI ∧ e = [(0, .slice A 0 cap), (1, nt 0), (2, fv), (6, nt 20)]) 0 ⟨rfl, rfl, rfl⟩ ?_
 rintro k7 _ _ ⟨hk9, rfl, rfl⟩
 refine V_seq ?_
 refine Vs [(0, .slice A 0 cap), (1, nt 0), (2, fv), (6, nt 20), (30, .bool false)] ?_
 refine V_false rfl ?_
 refine V_exit ?_
 refine X_exit_then ?_
 refine X_exit_then ?_
 refine X_exit_here ?_
 exact X_end _ rfl ⟨rfl, rfl⟩
set_option maxRecDepth 10000 in
theorem ssort_at (b o cap F : Nat) (cv : Value) (L : List Value) (T : TypeId) (xs : List Int) (key : Int → Int) (w : World) (h : At w b o L T 1 cap (xs.map intc)) (hn : xs.length ≤ 19) (h1 : 0 < xs.length) (hb : bodied Tryz.prog F = true) (hF : ∀ x y w1, Keep (only b) w w1 → Calls Tryz.prog F #[nt x, nt y, cv] w1 fun e w' => e = .returned (nt (cmpI (key y) (key x))) ∧ Keep none_ w1 w') : Calls Tryz.prog 151 #[sl_ b o xs.length cap, .func (.func F) #[] #[cv]] w fun e w' => e = .returned (.tuple #[]) ∧ SlT w' 1 intc (some ⟨b, o, none⟩) cap (sortD key xs) ∧ Keep (only b) w w' := by
 have hblt := h.blk.lt
 have hK0 : Keep (only b) w w := Keep.refl _ _
 have hzhK0 := Keep.size hK0
 refine enterV Tryz.func151 rfl [sl_ b o xs.length cap, .func (.func F) #[] #[cv]] 9 rfl rfl rfl ?_
 refine V_region ?_
 refine Os 4 [(4, sl_ b o xs.length cap), (6, nt (xs.length : Int)), (7, .func (.func F) #[] #[cv])] ?_
 refine Ok (kl 185 #[(.tmp 4), (.tmp 6), (.tmp 7)] #[72, 3, 128]) 185 #[sl_ b o xs.length cap, nt (xs.length : Int), .func (.func F) #[] #[cv]] (some 8) (stable_at b o cap F cv L T xs key _ h hn h1 hb hF) ?_
 rintro _ w3 ⟨rfl, hso, hk4⟩
 refine ⟨_, rfl, ?_⟩
 have hsz5 := Keep.size hk4
 replace hK0 := Keep.fr hK0 hk4
 refine OI_end rfl ?_
 exact X_end _ rfl ⟨rfl, hso, hK0⟩
set_option maxRecDepth 10000 in
theorem ssort_nil (A : Option Addr) (cap : Nat) (fv : Value) (w : World) : Calls Tryz.prog 151 #[.slice A 0 cap, fv] w fun e w' => e = .returned (.tuple #[]) ∧ w' = w := by
 refine enterV Tryz.func151 rfl [.slice A 0 cap, fv] 9 rfl rfl rfl ?_
 refine V_region ?_
 refine Os 4 [(4, .slice A 0 cap), (6, nt 0), (7, fv)] ?_
 refine Ok (kl 185 #[(.tmp 4), (.tmp 6), (.tmp 7)] #[72, 3, 128]) 185 #[.slice A 0 cap, nt 0, fv] (some 8) (stable_nil A cap fv _) ?_
 rintro _ w ⟨rfl, rfl⟩
 refine ⟨_, rfl, ?_⟩
 refine OI_end rfl ?_
 exact X_end _ rfl ⟨rfl, rfl⟩
theorem ssort_spec (A : Option Addr) (cap F : Nat) (cv : Value) (xs : List Int) (key : Int → Int) (w : World) (hA : SlT w 1 intc A cap xs) (hn : xs.length ≤ 19) (hb : bodied Tryz.prog F = true) (hF : ∀ x y w1, Keep (inA A) w w1 → Calls Tryz.prog F #[nt x, nt y, cv] w1 fun e w' => e = .returned (nt (cmpI (key y) (key x))) ∧ Keep none_ w1 w') : Calls Tryz.prog 151 #[.slice A xs.length cap, .func (.func F) #[] #[cv]] w fun e w' => e = .returned (.tuple #[]) ∧ SlT w' 1 intc A cap (sortD key xs) ∧ Keep (inA A) w w' := by
  rcases Nat.eq_zero_or_pos xs.length with h0 | h0
  · obtain rfl := List.length_eq_zero_iff.1 h0
    exact (ssort_nil A cap _ w).mono (by rintro e w' ⟨rfl, rfl⟩; exact ⟨rfl, hA, Keep.refl _ _⟩)
  · obtain ⟨b, o, L, T, rfl, h⟩ := hA.open_ h0
    refine (ssort_at b o cap F cv L T xs key w h hn h0 hb (fun x y w1 hk => hF x y w1 (hk.mono (fun q _ hq => ⟨_, rfl, hq⟩)))).mono ?_
    rintro e w' ⟨rfl, h1, h2⟩
    exact ⟨rfl, h1, h2.mono (fun q _ hq => ⟨_, rfl, hq⟩)⟩
theorem sink_len (key : Int → Int) (x : Int) : ∀ l : List Int, (sink key x l).length = l.length + 1
  | [] => rfl
  | y :: l => by
    simp only [sink]
    split
    · simp only [List.length_cons, sink_len key x l]
    · simp only [List.length_cons]
theorem sortD_len (key : Int → Int) (l : List Int) : (sortD key l).length = l.length := by
  have h : ∀ (l acc : List Int), (l.foldl (fun acc x => sink key x acc) acc).length = acc.length + l.length := by
    intro l
    induction l with
    | nil => intro acc; rfl
    | cons x l ih => intro acc; simp only [List.foldl_cons, ih, sink_len, List.length_cons]; omega
  unfold sortD
  rw [List.length_reverse, h]; simp
theorem sink_mem {key : Int → Int} {x z : Int} : ∀ {l : List Int}, z ∈ sink key x l → z = x ∨ z ∈ l
  | [], h => by simp only [sink, List.mem_singleton] at h; exact .inl h
  | y :: l, h => by
    simp only [sink] at h
    split at h
    · rcases List.mem_cons.1 h with h | h
      · exact .inr (h ▸ List.mem_cons_self ..)
      · exact (sink_mem h).imp id (List.mem_cons_of_mem _)
    · rcases List.mem_cons.1 h with h | h
      · exact .inl h
      · exact .inr h
theorem sortD_mem {key : Int → Int} {l : List Int} {z : Int} (h : z ∈ sortD key l) : z ∈ l := by
  have hf : ∀ (l acc : List Int), z ∈ l.foldl (fun acc x => sink key x acc) acc → z ∈ acc ∨ z ∈ l := by
    intro l
    induction l with
    | nil => intro acc h; exact .inl h
    | cons x l ih =>
      intro acc h
      rcases ih _ h with h | h
      · exact (sink_mem h).elim (fun e => .inr (e ▸ List.mem_cons_self ..)) .inl
      · exact .inr (List.mem_cons_of_mem _ h)
  unfold sortD at h
  exact (hf l [] (List.mem_reverse.1 h)).elim (fun h => by cases h) id
end Go.Al

namespace Go.Al
open Go Go.RowKit Go.Proofs
set_option maxRecDepth 10000 in
theorem rget_spec (H : Nat → Prop) (r g : Nat) (ts : List Trk) (rs : List Rfm) (ref : Int) (w : World) (hR : Rfr H w r g ts rs) : Calls Tryz.prog 23 #[pt r, nt ref] w fun e w' => e = .returned (.tuple #[.agg (getA rs ref).cells.toArray, .bool (getR rs ref).isSome]) ∧ Keep none_ w w' := by
 have hHlt := Rfr.lt hR
 have hrH := Rfr.at_ hR
 have hgH := Rfr.atg hR
 have hrlt := hHlt _ hrH
 have hglt := hHlt _ hgH
 have hin := Rfr.inn hR
 obtain ⟨A, cap, hr, hA, hAo, hrg⟩ := Rfr.parts hR
 have hAlt := SlT.lt hA
 have hAr : ∀ q, inA A q → q ≠ r ∧ q ≠ g ∧ q < w.heap.size := fun q hq => ⟨(hAo q hq).2.1, (hAo q hq).2.2, hAlt q hq⟩
 have hgo : ∀ q, only g q → q ≠ r := fun q hq e => hrg (e.symm.trans hq)
 have hgl : ∀ q, only g q → q < w.heap.size := fun q hq => by rw [show q = g from hq]; exact hglt
 have hHo : ∀ q, H q → 0 ≤ q := fun q _ => Nat.zero_le q
 have htl := hin.tl
 have hrl := hin.rl
 have hK0 : Keep none_ w w := Keep.refl _ _
 have hzhK0 := Keep.size hK0
 refine enterM Tryz.func23 rfl [pt r, nt ref] 17 rfl rfl rfl ?_
 refine V_pick [(0, pt r), (1, nt ref)] rfl ?_
 refine Vr ?_
 refine OI_alloc 57 (.agg (Rfm.cells Rfm.zero).toArray) (Rfm.cells Rfm.zero) (some 4) (by kernel_rfl) (by kernel_rfl) (by kernel_rfl) ?_
 intro b1 w1 e1 hb1 k1 z1
 have hsz2 := Keep.size k1
 replace hr := hr.k0 k1
 replace hA := hA.keep0 k1
 replace hR := hR.keep k1 nk
 replace hK0 := hK0.tn k1
 have hb1lt := hb1.lt
 refine On 2 [0, 1, 4] ?_
 refine Oe ?_
 refine V_seq ?_
 refine Vs [(0, pt r), (1, nt ref), (4, pt b1), (7, .bool false)] ?_
 refine V_false rfl ?_
 refine V_skip ?_
 refine X_then ?_
 refine Vr ?_
 refine On 3 [1, 4, 11] ?_
 refine Oc 95 (.tmp 11) 1 (pt g) (some 12) hr rfl ?_
 refine On 5 [4, 12, 13] ?_
 refine Ok (kl 53 #[(.tmp 12), (.const (nt 0)), (.tmp 13)] #[95, 3, 3]) 53 #[pt g, nt 0, nt ref] (some 14) (qget_spec H r g ts rs ref _ hR) ?_
 rintro _ w3 ⟨rfl, hk4⟩
 refine ⟨_, rfl, ?_⟩
 have hsz5 := Keep.size hk4
 replace hr := hr.k0 hk4
 replace hb1 := hb1.k0 hk4
 replace hA := hA.keep0 hk4
 replace hR := hR.keep hk4 nk
 replace hK0 := hK0.tn hk4
 refine On 8 [4, 15, 16] ?_
 refine Otg 57 (.tmp 4) (.tmp 15) 0 (Rfm.cells (getA rs ref)) hb1 (Rfm.len _) (Rfm.one _) ?_
 intro w6 hb1_9 hk7 hz8
 replace hb1_9 : Blk w6 b1 (Rfm.cells (getA rs ref)) 57 := (Blk.eqL (Rfm.over _ _) hb1_9)
 have hsz10 := Keep.size hk7
 replace hr := hr.k1 hk7
 replace hA := hA.keep hk7 (fun q hq hs => by have hs : q = b1 := hs; have g0 := hAr q hq; have g1 := hAlt q hq; omega)
 replace hR := hR.keep hk7 (fun q hq hs => by have hs : q = b1 := hs; have g0 := hHo q hq; have g1 := hHlt q hq; omega)
 replace hK0 := Keep.fr hK0 hk7
 refine Ose [(4, pt b1), (5, .bool ((getR rs ref).isSome))] ?_
 refine V_ret ?_
 exact leave0 (.tuple #[.agg (Rfm.cells (getA rs ref)).toArray, .bool ((getR rs ref).isSome)]) (.inl rfl) (res_agg_tmp (m := 45) rfl rfl rfl (by kernel_rfl) hb1_9 rfl) ⟨rfl, hK0⟩
set_option maxRecDepth 10000 in
theorem rtrack_in (H : Nat → Prop) (r g : Nat) (ts : List Trk) (rs : List Rfm) (j : Nat) (w : World) (hR : Rfr H w r g ts rs) (hj : j < ts.length) : Calls Tryz.prog 29 #[pt r, nt (j : Int)] w fun e w' => e = .returned (.tuple #[.agg (trkA ts (j : Int)).cells.toArray, .bool (trkO ts (j : Int)).isSome]) ∧ Keep none_ w w' := by
 have hHlt := Rfr.lt hR
 have hrH := Rfr.at_ hR
 have hgH := Rfr.atg hR
 have hrlt := hHlt _ hrH
 have hglt := hHlt _ hgH
 have hin := Rfr.inn hR
 obtain ⟨A, cap, hr, hA, hAo, hrg⟩ := Rfr.parts hR
 have hAlt := SlT.lt hA
 have hAr : ∀ q, inA A q → q ≠ r ∧ q ≠ g ∧ q < w.heap.size := fun q hq => ⟨(hAo q hq).2.1, (hAo q hq).2.2, hAlt q hq⟩
 have hgo : ∀ q, only g q → q ≠ r := fun q hq e => hrg (e.symm.trans hq)
 have hgl : ∀ q, only g q → q < w.heap.size := fun q hq => by rw [show q = g from hq]; exact hglt
 have hHo : ∀ q, H q → 0 ≤ q := fun q _ => Nat.zero_le q
 have htl := hin.tl
 have hrl := hin.rl
 have hK0 : Keep none_ w w := Keep.refl _ _
 have hzhK0 := Keep.size hK0
 refine enterM Tryz.func29 rfl [pt r, nt (j : Int)] 29 rfl rfl rfl ?_
 refine V_pick [(0, pt r), (1, nt (j : Int))] rfl ?_
 refine Vr ?_
 refine OI_alloc 27 (.agg (Trk.cells Trk.zero).toArray) (Trk.cells Trk.zero) (some 4) (by kernel_rfl) (by kernel_rfl) (by kernel_rfl) ?_
 intro b1 w1 e1 hb1 k1 z1
 have hsz2 := Keep.size k1
 replace hr := hr.k0 k1
 replace hA := hA.keep0 k1
 replace hR := hR.keep k1 nk
 replace hK0 := hK0.tn k1
 have hb1lt := hb1.lt
 refine On 2 [0, 1, 4] ?_
 refine Oe ?_
 refine V_seq ?_
 refine Vr ?_
 refine Os 7 [(0, pt r), (1, nt (j : Int)), (4, pt b1), (12, .bool (decide ((j : Int) < 0)))] ?_
 by_cases hg3 : (j : Int) < 0
 ·
  exact (by omega : False).elim
 refine OI_eq [(0, pt r), (1, nt (j : Int)), (4, pt b1), (12, .bool false)] (by first | simp [hg3] | rfl) ?_
 refine On 11 [0, 1, 4, 12, 13, 16] ?_
 refine Oc 29 (.tmp 16) 0 (.slice A ts.length cap) (some 17) hr rfl ?_
 refine Ose [(0, pt r), (1, nt (j : Int)), (4, pt b1), (20, .bool (decide ((j : Int) ≥ (ts.length : Int))))] ?_
 refine V_if ((j : Int) ≥ (ts.length : Int)) (by kernel_rfl) (fun hc4 => ?_) (fun hc4 => ?_)
 ·
  exact (by omega : False).elim
 refine V_skip ?_
 refine X_then ?_
 refine Vr ?_
 refine On 3 [1, 4, 24] ?_
 refine Oc 29 (.tmp 24) 0 (.slice A ts.length cap) (some 25) hr rfl ?_
 refine On 5 [4, 25, 26] ?_
 obtain ⟨b5, o5, L5, T5, rfl, hat5⟩ := SlT.open_ hA (by first | omega | (simp only [List.length_map]; omega) | (simp; done) | (simp; omega))
 have hb5lt := hat5.blk.lt
 have hob6 := hAr b5 ⟨_, rfl, rfl⟩
 have hob7 := hAlt b5 ⟨_, rfl, rfl⟩
 refine Oi (b := b5) (o := o5) (len := ts.length) (cap := cap) (j := j) (some 27) 29 (.tmp 25) (.tmp 26) 27 18 144 .i64 ?_
 obtain ⟨x8, hx9⟩ : ∃ x, ts[j]? = some x := ⟨_, List.getElem?_eq_getElem (by first | omega | (simp only [List.length_map]; omega))⟩
 refine Oa 27 (.tmp 27) (o5 + j * 18) (Trk.cells x8) (some 28) 18 hat5.blk (At.elem' hat5 (es_at hx9)) (At.len hat5 (es_at hx9)) ?_
 refine Otg 27 (.tmp 4) (.tmp 28) 0 (Trk.cells x8) hb1 (Trk.len _) (Trk.one _) ?_
 intro w10 hb1_13 hk11 hz12
 replace hb1_13 : Blk w10 b1 (Trk.cells x8) 27 := (Blk.eqL (Trk.over _ _) hb1_13)
 have hsz14 := Keep.size hk11
 replace hr := hr.k1 hk11
 replace hat5 := hat5.keep hk11 (by show ¬ (_ = _); omega)
 replace hR := hR.keep hk11 (fun q hq hs => by have hs : q = b1 := hs; have g0 := hHo q hq; have g1 := hHlt q hq; omega)
 replace hK0 := Keep.fr hK0 hk11
 refine Ose [(4, pt b1), (5, .bool true)] ?_
 refine V_ret ?_
 exact leave0 (.tuple #[.agg (Trk.cells x8).toArray, .bool true]) (.inl rfl) (res_agg_tmp (m := 18) rfl rfl rfl (by kernel_rfl) hb1_13 rfl) ⟨by have e9 : trkO ts (j : Int) = some x8 := (by unfold trkO; rw [if_pos (by omega), Int.toNat_natCast]; exact hx9); unfold trkA; rw [e9]; rfl, hK0⟩
set_option maxRecDepth 10000 in
theorem rtrack_out (H : Nat → Prop) (r g : Nat) (ts : List Trk) (rs : List Rfm) (i : Int) (w : World) (hR : Rfr H w r g ts rs) (hi : ¬ (0 ≤ i ∧ i < ts.length)) : Calls Tryz.prog 29 #[pt r, nt i] w fun e w' => e = .returned (.tuple #[.agg (trkA ts i).cells.toArray, .bool (trkO ts i).isSome]) ∧ Keep none_ w w' := by
 have hHlt := Rfr.lt hR
 have hrH := Rfr.at_ hR
 have hgH := Rfr.atg hR
 have hrlt := hHlt _ hrH
 have hglt := hHlt _ hgH
 have hin := Rfr.inn hR
 obtain ⟨A, cap, hr, hA, hAo, hrg⟩ := Rfr.parts hR
 have hAlt := SlT.lt hA
 have hAr : ∀ q, inA A q → q ≠ r ∧ q ≠ g ∧ q < w.heap.size := fun q hq => ⟨(hAo q hq).2.1, (hAo q hq).2.2, hAlt q hq⟩
 have hgo : ∀ q, only g q → q ≠ r := fun q hq e => hrg (e.symm.trans hq)
 have hgl : ∀ q, only g q → q < w.heap.size := fun q hq => by rw [show q = g from hq]; exact hglt
 have hHo : ∀ q, H q → 0 ≤ q := fun q _ => Nat.zero_le q
 have htl := hin.tl
 have hrl := hin.rl
 have hK0 : Keep none_ w w := Keep.refl _ _
 have hzhK0 := Keep.size hK0
 refine enterM Tryz.func29 rfl [pt r, nt i] 29 rfl rfl rfl ?_
 refine V_pick [(0, pt r), (1, nt i)] rfl ?_
 refine Vr ?_
 refine OI_alloc 27 (.agg (Trk.cells Trk.zero).toArray) (Trk.cells Trk.zero) (some 4) (by kernel_rfl) (by kernel_rfl) (by kernel_rfl) ?_
 intro b1 w1 e1 hb1 k1 z1
 have hsz2 := Keep.size k1
 replace hr := hr.k0 k1
 replace hA := hA.keep0 k1
 replace hR := hR.keep k1 nk
 replace hK0 := hK0.tn k1
 have hb1lt := hb1.lt
 refine On 2 [0, 1, 4] ?_
 refine Oe ?_
 refine V_seq ?_
 refine Vr ?_
 refine Os 7 [(0, pt r), (1, nt i), (4, pt b1), (12, .bool (decide (i < 0)))] ?_
 by_cases hg3 : i < 0
 ·
  refine OI_eq [(0, pt r), (1, nt i), (4, pt b1), (12, .bool true)] (by first | simp [hg3] | rfl) ?_
  refine Ose [(0, pt r), (1, nt i), (4, pt b1), (20, .bool true)] ?_
  refine V_true rfl ?_
  refine Vr ?_
  refine On 1 [4, 21] ?_
  refine Otg 27 (.tmp 4) (.tmp 21) 0 (Trk.cells Trk.zero) hb1 (Trk.len _) (Trk.one _) ?_
  intro w4 hb1_7 hk5 hz6
  replace hb1_7 : Blk w4 b1 (Trk.cells Trk.zero) 27 := (Blk.eqL (Trk.over _ _) hb1_7)
  have hsz8 := Keep.size hk5
  replace hr := hr.k1 hk5
  replace hA := hA.keep hk5 (fun q hq hs => by have hs : q = b1 := hs; have g0 := hAr q hq; have g1 := hAlt q hq; omega)
  replace hR := hR.keep hk5 (fun q hq hs => by have hs : q = b1 := hs; have g0 := hHo q hq; have g1 := hHlt q hq; omega)
  replace hK0 := Keep.fr hK0 hk5
  refine Ose [(4, pt b1), (5, .bool false)] ?_
  refine V_ret ?_
  refine X_ret_then ?_
  exact leave0 (.tuple #[.agg (Trk.cells Trk.zero).toArray, .bool false]) (.inl rfl) (res_agg_tmp (m := 18) rfl rfl rfl (by kernel_rfl) hb1_7 rfl) ⟨by have e9 : trkO ts i = none := if_neg hi; unfold trkA; rw [e9]; rfl, hK0⟩
 refine OI_eq [(0, pt r), (1, nt i), (4, pt b1), (12, .bool false)] (by first | simp [hg3] | rfl) ?_
 refine On 11 [0, 1, 4, 12, 13, 16] ?_
 refine Oc 29 (.tmp 16) 0 (.slice A ts.length cap) (some 17) hr rfl ?_
 refine Ose [(0, pt r), (1, nt i), (4, pt b1), (20, .bool (decide (i ≥ (ts.length : Int))))] ?_
 refine V_if (i ≥ (ts.length : Int)) (by kernel_rfl) (fun hc9 => ?_) (fun hc9 => ?_)
 ·
  refine Vr ?_
  refine On 1 [4, 21] ?_
  refine Otg 27 (.tmp 4) (.tmp 21) 0 (Trk.cells Trk.zero) hb1 (Trk.len _) (Trk.one _) ?_
  intro w10 hb1_13 hk11 hz12
  replace hb1_13 : Blk w10 b1 (Trk.cells Trk.zero) 27 := (Blk.eqL (Trk.over _ _) hb1_13)
  have hsz14 := Keep.size hk11
  replace hr := hr.k1 hk11
  replace hA := hA.keep hk11 (fun q hq hs => by have hs : q = b1 := hs; have g0 := hAr q hq; have g1 := hAlt q hq; omega)
  replace hR := hR.keep hk11 (fun q hq hs => by have hs : q = b1 := hs; have g0 := hHo q hq; have g1 := hHlt q hq; omega)
  replace hK0 := Keep.fr hK0 hk11
  refine Ose [(4, pt b1), (5, .bool false)] ?_
  refine V_ret ?_
  refine X_ret_then ?_
  exact leave0 (.tuple #[.agg (Trk.cells Trk.zero).toArray, .bool false]) (.inl rfl) (res_agg_tmp (m := 18) rfl rfl rfl (by kernel_rfl) hb1_13 rfl) ⟨by have e9 : trkO ts i = none := if_neg hi; unfold trkA; rw [e9]; rfl, hK0⟩
 exact (by omega : False).elim
theorem rtrack_spec (H : Nat → Prop) (r g : Nat) (ts : List Trk) (rs : List Rfm) (i : Int) (w : World) (hR : Rfr H w r g ts rs) : Calls Tryz.prog 29 #[pt r, nt i] w fun e w' => e = .returned (.tuple #[.agg (trkA ts i).cells.toArray, .bool (trkO ts i).isSome]) ∧ Keep none_ w w' := by
  by_cases hi : 0 ≤ i ∧ i < ts.length
  · obtain ⟨j, rfl⟩ : ∃ j : Nat, i = j := ⟨i.toNat, by omega⟩
    exact rtrack_in H r g ts rs j w hR (by omega)
  · exact rtrack_out H r g ts rs i w hR hi
end Go.Al

namespace Go.Al
open Go Go.RowKit Go.Proofs
set_option maxRecDepth 10000 in
theorem all_at (r g n cap : Nat) (A : Option Addr) (w : World) (hr : Blk w r [.slice A n cap, pt g] 97) : Calls Tryz.prog 48 #[pt r] w fun e w' => ∃ bg bs bn, e = .returned (.func (.func 183) #[] #[pt bg, pt bs, pt bn]) ∧ Blk w' bg [pt g] 95 ∧ Blk w' bs [nt 0] 3 ∧ Blk w' bn [nt 0] 3 ∧ Keep none_ w w' ∧ w.heap.size ≤ bg ∧ w.heap.size ≤ bs ∧ w.heap.size ≤ bn := by
 have hrlt := hr.lt
 have hK0 : Keep none_ w w := Keep.refl _ _
 have hzhK0 := Keep.size hK0
 refine enterV Tryz.func48 rfl [pt r] 11 rfl rfl rfl ?_
 refine Vr ?_
 refine On 1 [0] ?_
 refine Oe ?_
 refine V_seq ?_
 refine Vs [(0, pt r), (4, .bool false)] ?_
 refine V_false rfl ?_
 refine V_skip ?_
 refine X_then ?_
 refine Vr ?_
 refine On 3 [8] ?_
 refine Oc 95 (.tmp 8) 1 (pt g) (some 9) hr rfl ?_
 refine Ok (kl 102 #[(.tmp 9), (.const (nt 0))] #[95, 3]) 102 #[pt g, nt 0] (some 10) (GQ.row_spec _ rfl 0 _) ?_
 rintro _ w1 ⟨bg3, bs4, bn5, rfl, hbg3, hbs4, hbn5, hk2, hgebg3, hgebs4, hgebn5⟩
 refine ⟨_, rfl, ?_⟩
 have hsz6 := Keep.size hk2
 replace hr := hr.k0 hk2
 replace hK0 := hK0.tn hk2
 have hbg3lt := hbg3.lt
 have hbs4lt := hbs4.lt
 have hbn5lt := hbn5.lt
 refine Ose [(2, .func (.func 183) #[] #[pt bg3, pt bs4, pt bn5])] ?_
 refine V_ret ?_
 exact X_return _ rfl ⟨bg3, bs4, bn5, rfl, hbg3, hbs4, hbn5, hK0, by omega, by omega, by omega⟩
theorem zipQ_at0 {l : List Rfm} {k : Nat} {x : Rfm} (h : l[k]? = some x) : (zipQ 0 l)[k]? = some ((k : Int), x) := by
  have := zipQ_at l 0 k x h
  rw [Nat.zero_add] at this; exact this
theorem alongQ (bg bs bn g cap : Nat) (A : Option Addr) (rs : List Rfm) (hn : rs.length ≤ 1000) : Iter2 Tryz.prog 183 #[pt bg, pt bs, pt bn] rs.length (GQ.enc2 (zipQ 0 rs)) (fun W => Blk W bg [pt g] 95 ∧ GQ.GrAt W g A cap (cellsQ 0 rs) ∧ GQ.AlOk bs bn 0 0 A cap (cellsQ 0 rs) W) (GQ.AlOk bs bn 0 0 A cap (cellsQ 0 rs)) := by
  have h := GQ.along1_iter0 bg bs bn g cap A (cellsQ 0 rs) 0 (by rw [cellsQ_len]; omega)
  rw [rowQ, zipQ_len] at h
  exact h
section
variable {ts : List Trk} {rs : List Rfm} {of now : Int} {x : Rfm} {k : Nat}
theorem wait_skip (h : x.state ≠ 1 ∨ x.track ≠ of) : waitB ts of now x = false ∧ decB of x = false := by
  unfold waitB decB
  rcases h with h | h
  · rw [decide_eq_true h]; exact ⟨rfl, rfl⟩
  · rw [decide_eq_true h, Bool.or_true]; exact ⟨rfl, rfl⟩
theorem wait_pre (h1 : x.state = 1) (h2 : x.track = of) : (!(decide (x.state ≠ 1) || decide (x.track ≠ of))) = true := by
  rw [decide_eq_false (fun h => h h1), decide_eq_false (fun h => h h2)]; rfl
theorem wait_dec (h1 : x.state = 1) (h2 : x.track = of) (h3 : ¬ x.since = -1) : waitB ts of now x = false ∧ decB of x = true := by
  unfold waitB decB
  rw [wait_pre h1 h2, decide_eq_false h3, decide_eq_true (show x.since ≠ -1 from h3)]; exact ⟨rfl, rfl⟩
theorem wait_no (h1 : x.state = 1) (h2 : x.track = of) (h3 : x.since = -1) (h4 : x.backer = -1 ∨ ¬ w64 (now - x.sub) ≥ (trkA ts of).prepare) : waitB ts of now x = false ∧ decB of x = false := by
  unfold waitB decB
  rw [wait_pre h1 h2, decide_eq_true h3, decide_eq_false (show ¬ (x.since ≠ -1) from fun h => h h3)]
  refine ⟨?_, rfl⟩
  rcases h4 with h | h
  · rw [decide_eq_false (show ¬ (x.backer ≠ -1) from fun h9 => h9 h)]; rfl
  · rw [decide_eq_false h]; cases decide (x.backer ≠ -1) <;> rfl
theorem wait_yes (h1 : x.state = 1) (h2 : x.track = of) (h3 : x.since = -1) (h4 : ¬ x.backer = -1) (h5 : w64 (now - x.sub) ≥ (trkA ts of).prepare) : waitB ts of now x = true ∧ decB of x = false := by
  unfold waitB decB
  rw [wait_pre h1 h2, decide_eq_true h3, decide_eq_false (show ¬ (x.since ≠ -1) from fun h => h h3), decide_eq_true (show x.backer ≠ -1 from h4), decide_eq_true h5]
  exact ⟨rfl, rfl⟩
theorem waitL_app : ∀ (l : List Rfm) (i : Nat) (x : Rfm), waitL ts of now i (l ++ [x]) = waitL ts of now i l ++ (if waitB ts of now x = true then [((i + l.length : Nat) : Int)] else [])
  | [], i, x => by
    simp only [List.nil_append, waitL, List.length_nil, Nat.add_zero]
  | y :: l, i, x => by
    simp only [List.cons_append, waitL, waitL_app l (i + 1) x, List.length_cons]
    rw [show i + 1 + l.length = i + (l.length + 1) by omega]
    split <;> rfl
theorem waitL_step (h : rs[k]? = some x) : waitL ts of now 0 (rs.take (k + 1)) = waitL ts of now 0 (rs.take k) ++ (if waitB ts of now x = true then [(k : Int)] else []) := by
  obtain ⟨h1, rfl⟩ := List.getElem?_eq_some_iff.1 h
  rw [List.take_succ_eq_append_getElem h1, waitL_app, List.length_take, Nat.min_eq_left (by omega), Nat.zero_add]
theorem decN_app : ∀ (l : List Rfm) (x : Rfm), decN of (l ++ [x]) = decN of l + (if decB of x = true then 1 else 0)
  | [], x => by simp only [List.nil_append, decN]; omega
  | y :: l, x => by simp only [List.cons_append, decN, decN_app l x]; omega
theorem decN_step (h : rs[k]? = some x) : decN of (rs.take (k + 1)) = decN of (rs.take k) + (if decB of x = true then 1 else 0) := by
  obtain ⟨h1, rfl⟩ := List.getElem?_eq_some_iff.1 h
  rw [List.take_succ_eq_append_getElem h1, decN_app]
theorem waitL_len : ∀ (l : List Rfm) (i : Nat), (waitL ts of now i l).length ≤ l.length
  | [], _ => Nat.le_refl _
  | y :: l, i => by
    have := waitL_len l (i + 1)
    simp only [waitL]
    split <;> simp only [List.length_cons] <;> omega
theorem waitL_mem {z : Int} : ∀ {l : List Rfm} {i : Nat}, z ∈ waitL ts of now i l → (i : Int) ≤ z ∧ z < ((i + l.length : Nat) : Int)
  | [], _, h => by cases h
  | y :: l, i, h => by
    simp only [waitL] at h
    simp only [List.length_cons]
    split at h
    · rcases List.mem_cons.1 h with rfl | h
      · omega
      · have := waitL_mem h; omega
    · have := waitL_mem h; omega
theorem decN_bnd : ∀ l : List Rfm, 0 ≤ decN of l ∧ decN of l ≤ l.length
  | [] => ⟨Int.le_refl _, Int.le_refl _⟩
  | y :: l => by
    have := decN_bnd l
    simp only [decN, List.length_cons]
    split <;> omega
end
set_option maxRecDepth 10000 in
theorem waits1_spec (bv : Nat) (F : Nat → Prop) (v : Nat) (s : VS) (a b : Int) (w : World) (hbv : Blk w bv [pt v] 33) (hV : VotT F w v s) : Calls Tryz.prog 152 #[nt a, nt b, pt bv] w fun e w' => e = .returned (nt (cmpI (tallyT s b).a (tallyT s a).a)) ∧ Keep none_ w w' := by
 have hFlt := VotT.lt hV
 have hbvlt := hbv.lt
 have hK0 : Keep none_ w w := Keep.refl _ _
 have hzhK0 := Keep.size hK0
 refine enterV Tryz.func152 rfl [nt a, nt b, pt bv] 15 rfl rfl rfl ?_
 refine Vs [(0, nt a), (1, nt b), (2, pt bv)] ?_
 refine V_seq ?_
 refine Vd (acts [2, 6, 8]) none_ [[0, 1, 2, 4, 5, 6, 3, 7, 8, 9]] ?_
 intro w2 hk1 he3 L hL4
 have hsz5 := Keep.size hk1
 replace hbv := hbv.k0 hk1
 replace hV := hV.keep hk1 nk
 replace hK0 := hK0.tn hk1
 have qhbv := hbv
 have K6 : Keep none_ w2 w2 := Keep.refl _ _
 obtain rfl := List.mem_singleton.1 hL4
 refine Gc0 33 (.tmp 2) 0 (pt v) (some 6) qhbv rfl ?_
 refine Gs [2, 4, 5, 6, 3, 7, 8, 9] [(0, nt a), (2, pt bv), (6, pt v), (7, nt b)] ?_
 refine Gk (kl 32 #[(.tmp 6), (.tmp 7)] #[33, 3]) 32 #[pt v, nt b] (some 8) (tally_spec F v s b _ (hV).1) ?_
 rintro _ w7 ⟨rfl, hk8⟩
 have K9 := K6.tr (Keep.ofNone hk8)
 refine ⟨_, rfl, K9, ?_⟩
 have hzK9 := Keep.size K9
 have hsz10 := Keep.size hk8
 replace hbv := hbv.k0 hk8
 replace hV := hV.keep hk8 nk
 replace hK0 := hK0.tn hk8
 refine Gc0 33 (.tmp 2) 0 (pt v) (some 10) qhbv rfl ?_
 refine Gn [6, 3, 7, 8, 9] [8, 10, 11] ?_
 refine Gk0 (kl 32 #[(.tmp 10), (.tmp 11)] #[33, 3]) 32 #[pt v, nt a] (some 12) (tally_spec F v s a _ (hV).1) ?_
 rintro _ w11 ⟨rfl, hk12⟩
 refine ⟨_, rfl, ?_⟩
 have hsz13 := Keep.size hk12
 replace hbv := hbv.k0 hk12
 replace hV := hV.keep hk12 nk
 replace hK0 := hK0.tn hk12
 refine Gn [8, 9] [9, 13] ?_
 refine Gk0 (kl 147 #[(.tmp 9), (.tmp 13)] #[3, 3]) 147 #[nt ((tallyT s b).a), nt ((tallyT s a).a)] (some 14) (compare_spec ((tallyT s b).a) ((tallyT s a).a) _) ?_
 rintro _ w11 ⟨rfl, rfl⟩
 refine ⟨_, rfl, ?_⟩
 refine Gs [] [(5, nt (cmpI ((tallyT s b).a) ((tallyT s a).a)))] ?_
 refine GI_end ?_
 refine X_then ?_
 refine V_ret ?_
 exact X_return (nt (cmpI ((tallyT s b).a) ((tallyT s a).a))) rfl ⟨rfl, hK0⟩
end Go.Al

namespace Go.Al
open Go Go.RowKit Go.Proofs
set_option maxRecDepth 10000 in
set_option maxHeartbeats 2000000 in
theorem waits_spec (H : Nat → Prop) (r g : Nat) (ts : List Trk) (rs : List Rfm) (F : Nat → Prop) (v : Nat) (s : VS) (j : Nat) (now : Int) (w : World) (hR : Rfr H w r g ts rs) (hV : VotT F w v s) (hHF : ∀ q, H q → ¬ F q) (hj : j < ts.length) : Calls Tryz.prog 103 #[pt r, pt v, nt (j : Int), nt now] w fun e w' => ∃ A' cap', e = .returned (.tuple #[.slice A' (waitL ts (j : Int) now 0 rs).length cap', nt (decN (j : Int) rs)]) ∧ SlT w' 1 intc A' cap' (sortD (fun r => (tallyT s r).a) (waitL ts (j : Int) now 0 rs)) ∧ (∀ q, inA A' q → w.heap.size ≤ q) ∧ Keep none_ w w' := by
 have hHlt := Rfr.lt hR
 have hrH := Rfr.at_ hR
 have hgH := Rfr.atg hR
 have hrlt := hHlt _ hrH
 have hglt := hHlt _ hgH
 have hin := Rfr.inn hR
 obtain ⟨A, cap, hr, hA, hAo, hrg⟩ := Rfr.parts hR
 have hAlt := SlT.lt hA
 have hAr : ∀ q, inA A q → q ≠ r ∧ q ≠ g ∧ q < w.heap.size := fun q hq => ⟨(hAo q hq).2.1, (hAo q hq).2.2, hAlt q hq⟩
 have hgo : ∀ q, only g q → q ≠ r ∧ q = g := fun q hq => ⟨fun e => hrg (e.symm.trans hq), hq⟩
 have hgl : ∀ q, only g q → q < w.heap.size := fun q hq => by rw [show q = g from hq]; exact hglt
 have hHo : ∀ q, H q → 0 ≤ q := fun q _ => Nat.zero_le q
 have htl := hin.tl
 have hrl := hin.rl
 have hFlt := VotT.lt hV
 have hvlt := hFlt _ (VotT.at_ hV)
 have hVr : ∀ q, F q → q ≠ r := fun q hq e => hHF r hrH (e ▸ hq)
 obtain ⟨j9, hjj, _, htk, htm⟩ := trkA_at (ts := ts) (i := (j : Int)) (by omega)
 rw [show j9 = j by omega] at htk
 have hK0 : Keep none_ w w := Keep.refl _ _
 have hzhK0 := Keep.size hK0
 refine enterM Tryz.func103 rfl [pt r, pt v, nt (j : Int), nt now] 62 rfl rfl rfl ?_
 refine V_pick [(0, pt r), (1, pt v), (2, nt (j : Int)), (3, nt now)] rfl ?_
 refine Vr ?_
 refine OI_box 34 (.tmp 0) (pt r) [pt r] (some 4) (by kernel_rfl) (by kernel_rfl) (by kernel_rfl) ?_
 intro b1 w1 e1 hb1 k1 z1
 have hsz2 := Keep.size k1
 replace hr := hr.k0 k1
 replace hA := hA.keep0 k1
 replace hR := hR.keep k1 nk
 replace hV := hV.keep k1 nk
 replace hK0 := hK0.tn k1
 have hb1lt := hb1.lt
 refine OI_box 33 (.tmp 1) (pt v) [pt v] (some 5) (by kernel_rfl) (by kernel_rfl) (by kernel_rfl) ?_
 intro b3 w3 e3 hb3 k3 z3
 have hsz4 := Keep.size k3
 replace hr := hr.k0 k3
 replace hb1 := hb1.k0 k3
 replace hA := hA.keep0 k3
 replace hR := hR.keep k3 nk
 replace hV := hV.keep k3 nk
 replace hK0 := hK0.tn k3
 have hb3lt := hb3.lt
 refine OI_box 3 (.tmp 2) (nt (j : Int)) [nt (j : Int)] (some 6) (by kernel_rfl) (by kernel_rfl) (by kernel_rfl) ?_
 intro b5 w5 e5 hb5 k5 z5
 have hsz6 := Keep.size k5
 replace hr := hr.k0 k5
 replace hb1 := hb1.k0 k5
 replace hb3 := hb3.k0 k5
 replace hA := hA.keep0 k5
 replace hR := hR.keep k5 nk
 replace hV := hV.keep k5 nk
 replace hK0 := hK0.tn k5
 have hb5lt := hb5.lt
 refine OI_box 3 (.tmp 3) (nt now) [nt now] (some 7) (by kernel_rfl) (by kernel_rfl) (by kernel_rfl) ?_
 intro b7 w7 e7 hb7 k7 z7
 have hsz8 := Keep.size k7
 replace hr := hr.k0 k7
 replace hb1 := hb1.k0 k7
 replace hb3 := hb3.k0 k7
 replace hb5 := hb5.k0 k7
 replace hA := hA.keep0 k7
 replace hR := hR.keep k7 nk
 replace hV := hV.keep k7 nk
 replace hK0 := hK0.tn k7
 have hb7lt := hb7.lt
 refine Os 6 [(4, pt b1), (5, pt b3), (6, pt b5), (7, pt b7), (8, .slice none 0 0), (9, nt 0)] ?_
 refine Oer ?_
 refine OI_alloc 72 (.slice none 0 0) [.slice none 0 0] (some 10) (by kernel_rfl) (by kernel_rfl) (by kernel_rfl) ?_
 intro b9 w9 e9 hb9 k9 z9
 have hsz10 := Keep.size k9
 replace hr := hr.k0 k9
 replace hb1 := hb1.k0 k9
 replace hb3 := hb3.k0 k9
 replace hb5 := hb5.k0 k9
 replace hb7 := hb7.k0 k9
 replace hA := hA.keep0 k9
 replace hR := hR.keep k9 nk
 replace hV := hV.keep k9 nk
 replace hK0 := hK0.tn k9
 have hb9lt := hb9.lt
 refine Oer ?_
 refine OI_alloc 3 (nt 0) [nt 0] (some 11) (by kernel_rfl) (by kernel_rfl) (by kernel_rfl) ?_
 intro b11 w11 e11 hb11 k11 z11
 have hsz12 := Keep.size k11
 replace hr := hr.k0 k11
 replace hb1 := hb1.k0 k11
 replace hb3 := hb3.k0 k11
 replace hb5 := hb5.k0 k11
 replace hb7 := hb7.k0 k11
 replace hb9 := hb9.k0 k11
 replace hA := hA.keep0 k11
 replace hR := hR.keep k11 nk
 replace hV := hV.keep k11 nk
 replace hK0 := hK0.tn k11
 have hb11lt := hb11.lt
 refine Ot 3 (.tmp 11) (.const (Value.int IntKind.i64 0)) 0 (nt 0) hb11 ?_
 intro w13 hb11_16 hk14 hz15
 replace hb11_16 : Blk w13 b11 [nt 0] 3 := hb11_16
 have hsz17 := Keep.size hk14
 replace hr := hr.k1 hk14
 replace hb1 := hb1.k1 hk14
 replace hb3 := hb3.k1 hk14
 replace hb5 := hb5.k1 hk14
 replace hb7 := hb7.k1 hk14
 replace hb9 := hb9.k1 hk14
 replace hA := hA.keep hk14 (fun q hq hs => by have hs : q = b11 := hs; have g0 := hAr q hq; have g1 := hAlt q hq; omega)
 replace hR := hR.keep hk14 (fun q hq hs => by have hs : q = b11 := hs; have g0 := hHo q hq; have g1 := hHlt q hq; omega)
 replace hV := hV.keep hk14 (fun q hq hs => by have hs : q = b11 := hs; have g0 := hVr q hq; have g1 := hFlt q hq; omega)
 replace hK0 := Keep.fr hK0 hk14
 refine Oe ?_
 refine V_seq ?_
 refine Vr ?_
 refine Oc 34 (.tmp 4) 0 (pt r) (some 14) hb1 rfl ?_
 refine Ok (kl 48 #[(.tmp 14)] #[34]) 48 #[pt r] (some 15) (all_at r g _ _ _ _ hr) ?_
 rintro _ w20 ⟨bg22, bs23, bn24, rfl, hbg22, hbs23, hbn24, hk21, hgebg22, hgebs23, hgebn24⟩
 refine ⟨_, rfl, ?_⟩
 have hsz25 := Keep.size hk21
 replace hr := hr.k0 hk21
 replace hb1 := hb1.k0 hk21
 replace hb3 := hb3.k0 hk21
 replace hb5 := hb5.k0 hk21
 replace hb7 := hb7.k0 hk21
 replace hb9 := hb9.k0 hk21
 replace hb11_16 := hb11_16.k0 hk21
 replace hA := hA.keep0 hk21
 replace hR := hR.keep hk21 nk
 replace hV := hV.keep hk21 nk
 replace hK0 := hK0.tn hk21
 have hbg22lt := hbg22.lt
 have hbs23lt := hbs23.lt
 have hbn24lt := hbn24.lt
 refine Oe ?_
 refine V_block ?_
 obtain ⟨D, hD9, hDH⟩ := Rfr.grqF hR
 obtain ⟨_, _, _, _, A2, cap2, hat2, hAD2⟩ := hD9
 have hA2 := hat2.sl
 have owA2 : ∀ q, inA A2 q → q < w.heap.size := fun q hq => hHlt q (hDH q (hAD2 q hq))
 refine V_pick [(4, pt b1), (5, pt b3), (6, pt b5), (7, pt b7), (10, pt b9), (11, pt b11), (15, .func (.func 183) #[] #[pt bg22, pt bs23, pt bn24])] rfl ?_
 have hN0 : w.heap.size ≤ w20.heap.size := Keep.size hK0
 refine V_range2 (gf := 183) (caps := #[pt bg22, pt bs23, pt bn24]) (m := rs.length) (by kernel_rfl) (by kernel_rfl) (by kernel_rfl) (alongQ bg22 bs23 bn24 g cap2 A2 rs (by omega)) (⟨hbg22, hat2, ⟨hbs23, hbn24, hA2⟩⟩) (fun W W' h k => ⟨h.1.quiet k, h.2.1.quiet k, h.2.2.quiet k⟩) (GQ.enc2_size _) (fun M1 k W => ∃ Ak : Option Addr, ∃ capk : Nat, (Blk W r [.slice A ts.length cap, pt g] 97) ∧ (Blk W b1 [pt r] 34) ∧ (Blk W b3 [pt v] 33) ∧ (Blk W b5 [nt (j : Int)] 3) ∧ (Blk W b7 [nt now] 3) ∧ (Blk W bs23 [nt 0] 3) ∧ (Blk W bn24 [nt 0] 3) ∧ (SlT W 18 Trk.cells A cap ts) ∧ (SlT W 47 GQ.Ci.cells A2 cap2 (cellsQ 0 rs)) ∧ (VotT F W v s) ∧ (Keep none_ w W) ∧ (Blk W b9 [.slice Ak ((waitL ts (j : Int) now 0 (rs.take k)).length) capk] 72) ∧ (Blk W b11 [nt (decN (j : Int) (rs.take k))] 3) ∧ (SlT W 1 intc Ak capk (waitL ts (j : Int) now 0 (rs.take k))) ∧ (∀ q, inA Ak q → M1 ≤ q)) (fun M1 c k W => False) (fun M1 k W W' h hk => by obtain ⟨Ak, capk, jr, jb1, jb3, jb5, jb7, jbs23, jbn24, jA, jA2, jhV, jhK0, jb9, jb11, jAk, ownk⟩ := h; exact ⟨Ak, capk, jr.quiet hk, jb1.quiet hk, jb3.quiet hk, jb5.quiet hk, jb7.quiet hk, jbs23.quiet hk, jbn24.quiet hk, jA.quiet hk, jA2.quiet hk, VotT.quiet jhV hk, jhK0.quiet hk (by omega), jb9.quiet hk, jb11.quiet hk, jAk.quiet hk, ownk⟩) (fun _ _ _ _ _ h _ => h.elim) (fun M1 hM1 => ⟨none, 0, hr, hb1, hb3, hb5, hb7, hbs23, hbn24, hA, hA2, hV, hK0, hb9, hb11_16, SlT.nil _ _ _, fun q h => (inA_none h).elim⟩) (fun M1 k W h => by obtain ⟨Ak, capk, jr, jb1, jb3, jb5, jb7, jbs23, jbn24, jA, jA2, jhV, jhK0, jb9, jb11, jAk, ownk⟩ := h; exact ⟨jbs23, jbn24, jA2⟩) ?_ ?_ (fun _ _ _ _ _ _ _ _ h _ => h.elim)
 ·
  intro lp D M1 k W hD hl hM hMW hkm ⟨Ak, capk, jr, jb1, jb3, jb5, jb7, jbs23, jbn24, jA, jA2, jhV, jhK0, jb9, jb11, jAk, ownk⟩ ⟨rr, hrr⟩ hDD
  have hzjhK0 := Keep.size jhK0
  have hrlt := jr.lt
  have hb1lt := jb1.lt
  have hb3lt := jb3.lt
  have hb5lt := jb5.lt
  have hb7lt := jb7.lt
  have hb9lt := jb9.lt
  have hb11lt := jb11.lt
  have hbs23lt := jbs23.lt
  have hbn24lt := jbn24.lt
  have ltjA := SlT.lt jA
  have ltjA2 := SlT.lt jA2
  have ltjAk := SlT.lt jAk
  obtain ⟨x, hx⟩ : ∃ x, rs[k]? = some x := ⟨_, List.getElem?_eq_getElem (by omega)⟩
  rw [GQ.enc2_at (zipQ_at0 hx)]
  have hst1 := waitL_step (ts := ts) (of := (j : Int)) (now := now) hx
  have hst2 := decN_step (of := (j : Int)) hx
  have hwl : (waitL ts (j : Int) now 0 (rs.take k)).length ≤ 12 := Nat.le_trans (waitL_len _ 0) (by rw [List.length_take]; omega)
  have hdn := decN_bnd (of := (j : Int)) (rs.take k)
  have hdl : (rs.take k).length ≤ 12 := by rw [List.length_take]; omega
  refine V_pick [(4, pt b1), (6, pt b5), (7, pt b7), (10, pt b9), (11, pt b11), (16, nt (k : Int)), (17, .agg (Rfm.cells x).toArray)] rfl ?_
  have hfen : Keep (fen w20.heap.size M1) W W := Keep.refl _ _
  have hzhfen := Keep.size hfen
  refine Vs [(4, pt b1), (6, pt b5), (7, pt b7), (10, pt b9), (11, pt b11), (12, nt (k : Int)), (17, .agg (Rfm.cells x).toArray)] ?_
  refine V_region ?_
  refine OI_alloc 57 (.agg (Rfm.cells Rfm.zero).toArray) (Rfm.cells Rfm.zero) (some 13) (by kernel_rfl) (by kernel_rfl) (by kernel_rfl) ?_
  intro b26 w26 e26 hb26 k26 z26
  have hsz27 := Keep.size k26
  replace jr := jr.k0 k26
  replace jb1 := jb1.k0 k26
  replace jb3 := jb3.k0 k26
  replace jb5 := jb5.k0 k26
  replace jb7 := jb7.k0 k26
  replace jb9 := jb9.k0 k26
  replace jb11 := jb11.k0 k26
  replace jbs23 := jbs23.k0 k26
  replace jbn24 := jbn24.k0 k26
  replace jA := jA.keep0 k26
  replace jA2 := jA2.keep0 k26
  replace jAk := jAk.keep0 k26
  replace jhV := jhV.keep k26 nk
  replace jhK0 := jhK0.tn k26
  replace hfen := hfen.tn k26
  have hb26lt := hb26.lt
  refine Otg 57 (.tmp 13) (.tmp 17) 0 (Rfm.cells x) hb26 (Rfm.len _) (Rfm.one _) ?_
  intro w28 hb26_31 hk29 hz30
  replace hb26_31 : Blk w28 b26 (Rfm.cells x) 57 := (Blk.eqL (Rfm.over _ _) hb26_31)
  have hsz32 := Keep.size hk29
  replace jr := jr.k1 hk29
  replace jb1 := jb1.k1 hk29
  replace jb3 := jb3.k1 hk29
  replace jb5 := jb5.k1 hk29
  replace jb7 := jb7.k1 hk29
  replace jb9 := jb9.k1 hk29
  replace jb11 := jb11.k1 hk29
  replace jbs23 := jbs23.k1 hk29
  replace jbn24 := jbn24.k1 hk29
  replace jA := jA.keep hk29 (fun q hq hs => by have hs : q = b26 := hs; have g0 := hAr q hq; have g1 := ltjA q hq; omega)
  replace jA2 := jA2.keep hk29 (fun q hq hs => by have hs : q = b26 := hs; have g0 := owA2 q hq; have g1 := ltjA2 q hq; omega)
  replace jAk := jAk.keep hk29 (fun q hq hs => by have hs : q = b26 := hs; have g0 := ownk q hq; have g1 := ltjAk q hq; omega)
  replace jhV := jhV.keep hk29 (fun q hq hs => by have hs : q = b26 := hs; have g0 := hVr q hq; have g1 := hFlt q hq; omega)
  replace jhK0 := Keep.fr jhK0 hk29
  replace hfen := Keep.fresh hfen hk29 (by intro i hi hs; have hs2 : i = b26 := hs; show _ ∨ _; omega)
  refine OI_end rfl ?_
  refine X_begin2 hfen ?_
  intro W2 hk2 ⟨r2, hr2⟩ hD2
  have hsz33 := Keep.size hk2
  replace jr := Blk.quiet jr hk2
  replace jb1 := Blk.quiet jb1 hk2
  replace jb3 := Blk.quiet jb3 hk2
  replace jb5 := Blk.quiet jb5 hk2
  replace jb7 := Blk.quiet jb7 hk2
  replace jb9 := Blk.quiet jb9 hk2
  replace jb11 := Blk.quiet jb11 hk2
  replace jbs23 := Blk.quiet jbs23 hk2
  replace jbn24 := Blk.quiet jbn24 hk2
  replace hb26_31 := Blk.quiet hb26_31 hk2
  replace jA := jA.quiet hk2
  replace jA2 := jA2.quiet hk2
  replace jAk := jAk.quiet hk2
  replace jhV := jhV.quiet hk2
  replace jhK0 := Keep.quiet jhK0 hk2 (by omega)
  have hzhk2 := Keep.size hk2
  have hfenb : Keep (fen w20.heap.size M1) W2 W2 := Keep.refl _ _
  have hzhfenb := Keep.size hfenb
  refine V_block ?_
  refine V_block ?_
  refine Vr ?_
  refine On 1 [4, 6, 7, 10, 11, 12, 13, 19] ?_
  refine Oc 3 (.tmp 19) 0 (nt x.state) (some 20) hb26_31 rfl ?_
  refine Os 4 [(4, pt b1), (6, pt b5), (7, pt b7), (10, pt b9), (11, pt b11), (12, nt (k : Int)), (13, pt b26), (22, .bool (!(decide (x.state = 1))))] ?_
  by_cases hg34 : x.state = 1
  ·
   refine OI_eq [(4, pt b1), (6, pt b5), (7, pt b7), (10, pt b9), (11, pt b11), (12, nt (k : Int)), (13, pt b26), (22, .bool false)] (by first | simp [hg34] | rfl) ?_
   refine On 5 [4, 6, 7, 10, 11, 12, 13, 22, 23] ?_
   refine Oc 3 (.tmp 23) 1 (nt x.track) (some 24) hb26_31 rfl ?_
   refine Oc 3 (.tmp 6) 0 (nt (j : Int)) (some 25) jb5 rfl ?_
   refine Ose [(4, pt b1), (6, pt b5), (7, pt b7), (10, pt b9), (11, pt b11), (12, nt (k : Int)), (13, pt b26), (18, .bool (!(decide (x.track = (j : Int)))))] ?_
   refine V_not (x.track = (j : Int)) (by kernel_rfl) (fun hc35 => ?_) (fun hc35 => ?_)
   ·
    refine V_skip ?_
    refine X_block ?_
    refine X_block ?_
    obtain ⟨hwa, hwb⟩ : waitB ts (j : Int) now x = false ∧ decB (j : Int) x = false := wait_skip (.inr hc35)
    rw [hwa] at hst1
    rw [hwb] at hst2
    replace hst1 := hst1.trans (show _ ++ [] = _ from List.append_nil _)
    replace hst2 := hst2.trans (show _ + 0 = _ from Int.add_zero _)
    exact fun a _ => ⟨hfenb, Ak, capk, jr, jb1, jb3, jb5, jb7, jbs23, jbn24, jA, jA2, jhV, jhK0, by rw [hst1]; exact jb9, by rw [hst2]; exact jb11, by rw [hst1]; exact jAk, ownk⟩
   refine Vr ?_
   refine On 1 [4, 6, 7, 10, 11, 12, 13, 29] ?_
   refine Oc 3 (.tmp 29) 39 (nt x.since) (some 30) hb26_31 rfl ?_
   refine Ose [(4, pt b1), (6, pt b5), (7, pt b7), (10, pt b9), (11, pt b11), (12, nt (k : Int)), (13, pt b26), (28, .bool (!(decide (x.since = -1))))] ?_
   refine V_not (x.since = -1) (by kernel_rfl) (fun hc36 => ?_) (fun hc36 => ?_)
   ·
    refine V_region ?_
    refine Oc 3 (.tmp 11) 0 (nt (decN (j : Int) (rs.take k))) (some 32) jb11 rfl ?_
    have hw37 : IntKind.i64.wrap ((decN (j : Int) (rs.take k)) + 1) = (decN (j : Int) (rs.take k)) + 1 := (wrap64_id (by omega) (by omega)).trans (by omega)
    refine Os 2 [(11, pt b11), (33, nt (IntKind.i64.wrap ((decN (j : Int) (rs.take k)) + 1)))] ?_
    refine Oq (u := nt (IntKind.i64.wrap ((decN (j : Int) (rs.take k)) + 1))) (v := nt ((decN (j : Int) (rs.take k)) + 1)) 33 (by rw [hw37]) ?_
    refine Ot 3 (.tmp 11) (.tmp 33) 0 (nt ((decN (j : Int) (rs.take k)) + 1)) jb11 ?_
    intro w38 hb11_41 hk39 hz40
    replace hb11_41 : Blk w38 b11 [nt ((decN (j : Int) (rs.take k)) + 1)] 3 := hb11_41
    have hsz42 := Keep.size hk39
    replace jr := jr.k1 hk39
    replace jb1 := jb1.k1 hk39
    replace jb3 := jb3.k1 hk39
    replace jb5 := jb5.k1 hk39
    replace jb7 := jb7.k1 hk39
    replace jb9 := jb9.k1 hk39
    replace jbs23 := jbs23.k1 hk39
    replace jbn24 := jbn24.k1 hk39
    replace hb26_31 := hb26_31.k1 hk39
    replace jA := jA.keep hk39 (fun q hq hs => by have hs : q = b11 := hs; have g0 := hAr q hq; have g1 := ltjA q hq; omega)
    replace jA2 := jA2.keep hk39 (fun q hq hs => by have hs : q = b11 := hs; have g0 := owA2 q hq; have g1 := ltjA2 q hq; omega)
    replace jAk := jAk.keep hk39 (fun q hq hs => by have hs : q = b11 := hs; have g0 := ownk q hq; have g1 := ltjAk q hq; omega)
    replace jhV := jhV.keep hk39 (fun q hq hs => by have hs : q = b11 := hs; have g0 := hVr q hq; have g1 := hFlt q hq; omega)
    replace jhK0 := Keep.fr jhK0 hk39
    replace hfenb := Keep.fresh hfenb hk39 (by intro i hi hs; have hs2 : i = b11 := hs; show _ ∨ _; omega)
    refine OI_end rfl ?_
    refine X_block ?_
    refine X_block ?_
    obtain ⟨hwa, hwb⟩ : waitB ts (j : Int) now x = false ∧ decB (j : Int) x = true := wait_dec hg34 hc35 hc36
    rw [hwa] at hst1
    rw [hwb] at hst2
    replace hst1 := hst1.trans (show _ ++ [] = _ from List.append_nil _)
    replace hst2 := hst2
    replace hst2 := hst2.trans (show _ + 1 = decN (j : Int) (rs.take k) + 1 from rfl)
    exact fun a _ => ⟨hfenb, Ak, capk, jr, jb1, jb3, jb5, jb7, jbs23, jbn24, jA, jA2, jhV, jhK0, by rw [hst1]; exact jb9, by rw [hst2]; exact hb11_41, by rw [hst1]; exact jAk, ownk⟩
   refine V_seq ?_
   refine V_draws (acts []) none_ [[0, 1, 2, 3, 4, 5, 6, 7, 8, 9, 10, 11, 12, 13, 14, 15, 16, 17, 18]] (by kernel_rfl) (by repeat first | exact (by first | exact sure_postM | exact sure_rQ2 | exact sure_no) | refine sure_then ?_ | refine sure_block ?_ | refine sure_join ?_) (by kernel_rfl) ?_
   intro w44 hk43 he45 L hL46
   have hsz47 := Keep.size hk43
   replace jr := jr.k0 hk43
   replace jb1 := jb1.k0 hk43
   replace jb3 := jb3.k0 hk43
   replace jb5 := jb5.k0 hk43
   replace jb7 := jb7.k0 hk43
   replace jb9 := jb9.k0 hk43
   replace jb11 := jb11.k0 hk43
   replace jbs23 := jbs23.k0 hk43
   replace jbn24 := jbn24.k0 hk43
   replace hb26_31 := hb26_31.k0 hk43
   replace jA := jA.keep0 hk43
   replace jA2 := jA2.keep0 hk43
   replace jAk := jAk.keep0 hk43
   replace jhV := jhV.keep hk43 nk
   replace jhK0 := jhK0.tn hk43
   replace hfenb := hfenb.tn hk43
   have qjr := jr
   have qjb1 := jb1
   have qjb3 := jb3
   have qjb5 := jb5
   have qjb7 := jb7
   have qjb9 := jb9
   have qjb11 := jb11
   have qjbs23 := jbs23
   have qjbn24 := jbn24
   have qhb26_31 := hb26_31
   have K48 : Keep none_ w44 w44 := Keep.refl _ _
   obtain rfl := List.mem_singleton.1 hL46
   refine Gn [1, 2, 3, 4, 5, 6, 7, 8, 9, 10, 11, 12, 13, 14, 15, 16, 17, 18] [4, 6, 7, 10, 12, 13, 35] ?_
   refine Gc0 3 (.tmp 35) 38 (nt x.backer) (some 36) qhb26_31 rfl ?_
   refine Gs [4, 5, 6, 7, 8, 9, 10, 11, 12, 13, 14, 15, 16, 17, 18] [(4, pt b1), (6, pt b5), (7, pt b7), (10, pt b9), (12, nt (k : Int)), (13, pt b26), (38, .bool (!(decide (x.backer = -1))))] ?_
   by_cases hg49 : x.backer = -1
   ·
    refine GI_eq [(4, pt b1), (6, pt b5), (7, pt b7), (10, pt b9), (12, nt (k : Int)), (13, pt b26), (38, .bool false)] (by first | simp [hg49] | rfl) ?_
    refine Gs [] [(10, pt b9), (12, nt (k : Int)), (34, .bool false)] ?_
    refine GI_end ?_
    refine X_then ?_
    refine V_false rfl ?_
    refine V_skip ?_
    refine X_block ?_
    refine X_block ?_
    obtain ⟨hwa, hwb⟩ : waitB ts (j : Int) now x = false ∧ decB (j : Int) x = false := wait_no hg34 hc35 hc36 (.inl hg49)
    rw [hwa] at hst1
    rw [hwb] at hst2
    replace hst1 := hst1.trans (show _ ++ [] = _ from List.append_nil _)
    replace hst2 := hst2.trans (show _ + 0 = _ from Int.add_zero _)
    exact fun a _ => ⟨hfenb, Ak, capk, jr, jb1, jb3, jb5, jb7, jbs23, jbn24, jA, jA2, jhV, jhK0, by rw [hst1]; exact jb9, by rw [hst2]; exact jb11, by rw [hst1]; exact jAk, ownk⟩
   refine GI_eq [(4, pt b1), (6, pt b5), (7, pt b7), (10, pt b9), (12, nt (k : Int)), (13, pt b26), (38, .bool true)] (by first | simp [hg49] | rfl) ?_
   refine Gc0 3 (.tmp 7) 0 (nt now) (some 39) qjb7 rfl ?_
   refine Gn [6, 7, 8, 9, 10, 11, 12, 13, 14, 15, 16, 17, 18] [4, 6, 10, 12, 38, 39, 40] ?_
   refine Gc0 3 (.tmp 40) 35 (nt x.sub) (some 41) qhb26_31 rfl ?_
   refine Gn [8, 9, 10, 11, 12, 13, 14, 15, 16, 17, 18] [4, 6, 10, 12, 38, 42] ?_
   refine Gc0 34 (.tmp 4) 0 (pt r) (some 43) qjb1 rfl ?_
   refine Gn [11, 12, 13, 14, 15, 16, 17, 18] [6, 10, 12, 38, 42, 45] ?_
   refine Gc0 29 (.tmp 45) 0 (.slice A ts.length cap) (some 46) qjr rfl ?_
   refine Gc0 3 (.tmp 6) 0 (nt (j : Int)) (some 47) qjb5 rfl ?_
   obtain ⟨b50, o50, L50, T50, rfl, hat50⟩ := SlT.open_ jA (by first | omega | (simp only [List.length_map]; omega) | (simp; done) | (simp; omega))
   have hb50lt := hat50.blk.lt
   have hob51 := hAr b50 ⟨_, rfl, rfl⟩
   have hob52 := ltjA b50 ⟨_, rfl, rfl⟩
   have hne53 : ∀ q, F q → q ≠ b50 := fun q hq hs => (fun q h1 h2 => hHF q (hAo q h2).1 h1) q hq ⟨_, rfl, hs⟩
   have own54 := fun q hq => And.intro (hVr q hq) (hne53 q hq)
   refine GI_pure (some 48) (.indexAddr 29 (.tmp 46) (.tmp 47)) (by kernel_rfl) (by kernel_rfl) (pure_idxN (b := b50) (o := o50) (len := ts.length) (cap := cap) (kd := .i64) (j := j) (E := 27) (sz := 18) (by_ := 144) (by kernel_rfl) (by kernel_rfl) (by kernel_rfl) (by omega)) ?_
   refine Gn [15, 16, 17, 18] [10, 12, 38, 42, 49] ?_
   refine Gc0 3 (.tmp 49) (o50 + j * 18 + 2) (nt ((trkA ts (j : Int)).prepare)) (some 50) hat50.blk (At.cell hat50 (es_at htk) rfl) ?_
   refine Gs [] [(10, pt b9), (12, nt (k : Int)), (34, .bool (decide (IntKind.i64.wrap (now - x.sub) ≥ (trkA ts (j : Int)).prepare)))] ?_
   refine GI_end ?_
   refine X_then ?_
   refine V_if (IntKind.i64.wrap (now - x.sub) ≥ (trkA ts (j : Int)).prepare) (by kernel_rfl) (fun hc55 => ?_) (fun hc55 => ?_)
   ·
    refine V_region ?_
    refine Oc 72 (.tmp 10) 0 (.slice Ak ((waitL ts (j : Int) now 0 (rs.take k)).length) capk) (some 53) jb9 rfl ?_
    refine Os 2 [(10, pt b9), (53, .slice Ak ((waitL ts (j : Int) now 0 (rs.take k)).length) capk), (54, nt (k : Int))] ?_
    refine OI_slit (E := 3) (zv := nt 0) (sz := 1) (by_ := 8) 72 1 #[(0, (Operand.tmp 54))] [nt (k : Int)] [nt (k : Int)] (some 55) (by kernel_rfl) (by kernel_rfl) (by kernel_rfl) (by omega) rfl (by omega) (by intro v hv; simp only [List.mem_cons, List.not_mem_nil, or_false] at hv; rcases hv with rfl <;> rfl) (by kernel_rfl) rfl ?_
    intro b56 w56 e56 hb56 k56 z56
    have hsz57 := Keep.size k56
    replace jr := jr.k0 k56
    replace jb1 := jb1.k0 k56
    replace jb3 := jb3.k0 k56
    replace jb5 := jb5.k0 k56
    replace jb7 := jb7.k0 k56
    replace jb9 := jb9.k0 k56
    replace jb11 := jb11.k0 k56
    replace jbs23 := jbs23.k0 k56
    replace jbn24 := jbn24.k0 k56
    replace hb26_31 := hb26_31.k0 k56
    replace hat50 := hat50.keep k56 id
    replace jA := jA.keep0 k56
    replace jA2 := jA2.keep0 k56
    replace jAk := jAk.keep0 k56
    replace jhV := jhV.keep k56 nk
    replace jhK0 := jhK0.tn k56
    replace hfenb := hfenb.tn k56
    have hb56lt := hb56.lt
    refine OI_append (t := 72) (at2 := 72) (E := 3) (E2 := 3) (sz := 1) (by_ := 8) (zv := nt 0) (m := (waitL ts (j : Int) now 0 (rs.take k)).length) (k := 1) (.tmp 53) (.tmp 55) (.slice Ak ((waitL ts (j : Int) now 0 (rs.take k)).length) capk) (sl_ b56 0 1 1) (some 56) (by kernel_rfl) (by kernel_rfl) (by kernel_rfl) (by kernel_rfl) (by kernel_rfl) (by kernel_rfl) (by kernel_rfl) (SlT.slr jAk) (slr_one hb56 (intc_len (k : Int))) (intc_one (k : Int)) (by first | omega | (simp only [List.length_nil]; omega)) (by omega) (by first | omega | (simp only [List.length_nil]; omega)) (by omega) ?_
    intro vv9 w58 hap
    obtain ⟨A58, cap58, rfl, hA58, hk58, own58x⟩ := app_one (f := intc) (xs := (waitL ts (j : Int) now 0 (rs.take k))) (x := (k : Int)) (A := Ak) (cap := capk) hap (fun x _ => intc_len x) (intc_len _)
    have own58 : ∀ q, inA A58 q → M1 ≤ q := fun q hq => by rcases own58x q hq with h | h; exact ownk q h; (show M1 ≤ q; omega)
    have hsz59 := Keep.size hk58
    replace jr := jr.keep hk58 (fun hs => by have h1 := ownk _ hs; have h2 := ltjAk _ hs; omega)
    replace jb1 := jb1.keep hk58 (fun hs => by have h1 := ownk _ hs; have h2 := ltjAk _ hs; omega)
    replace jb3 := jb3.keep hk58 (fun hs => by have h1 := ownk _ hs; have h2 := ltjAk _ hs; omega)
    replace jb5 := jb5.keep hk58 (fun hs => by have h1 := ownk _ hs; have h2 := ltjAk _ hs; omega)
    replace jb7 := jb7.keep hk58 (fun hs => by have h1 := ownk _ hs; have h2 := ltjAk _ hs; omega)
    replace jb9 := jb9.keep hk58 (fun hs => by have h1 := ownk _ hs; have h2 := ltjAk _ hs; omega)
    replace jb11 := jb11.keep hk58 (fun hs => by have h1 := ownk _ hs; have h2 := ltjAk _ hs; omega)
    replace jbs23 := jbs23.keep hk58 (fun hs => by have h1 := ownk _ hs; have h2 := ltjAk _ hs; omega)
    replace jbn24 := jbn24.keep hk58 (fun hs => by have h1 := ownk _ hs; have h2 := ltjAk _ hs; omega)
    replace hb26_31 := hb26_31.keep hk58 (fun hs => by have h1 := ownk _ hs; have h2 := ltjAk _ hs; omega)
    replace hat50 := hat50.keep hk58 (fun hs => by have h1 := ownk _ hs; have h2 := ltjAk _ hs; omega)
    replace jA := jA.keep hk58 (fun q hq hs => by have g0 := hAr q hq; have g1 := ltjA q hq; have h1 := ownk q hs; have h2 := ltjAk q hs; omega)
    replace jA2 := jA2.keep hk58 (fun q hq hs => by have g0 := owA2 q hq; have g1 := ltjA2 q hq; have h1 := ownk q hs; have h2 := ltjAk q hs; omega)
    replace jhV := jhV.keep hk58 (fun q hq hs => by have g0 := own54 q hq; have g1 := hFlt q hq; have h1 := ownk q hs; have h2 := ltjAk q hs; omega)
    replace jhK0 := Keep.fresh jhK0 hk58 (by intro i hi hs; first | exact hs | (exfalso; have h1 := ownk i hs; have h2 := ltjAk i hs; omega) | (have h1 := ownk i hs; have h2 := ltjAk i hs; show _ ∨ _; omega))
    replace hfenb := Keep.fresh hfenb hk58 (by intro i hi hs; have h1 := ownk i hs; have h2 := ltjAk i hs; show _ ∨ _; omega)
    have lt58 := SlT.lt hA58
    refine Ot 72 (.tmp 10) (.tmp 56) 0 (.slice A58 (((waitL ts (j : Int) now 0 (rs.take k)) ++ [(k : Int)]).length) cap58) jb9 ?_
    intro w60 hb9_63 hk61 hz62
    replace hb9_63 : Blk w60 b9 [.slice A58 (((waitL ts (j : Int) now 0 (rs.take k)) ++ [(k : Int)]).length) cap58] 72 := hb9_63
    have hsz64 := Keep.size hk61
    replace jr := jr.k1 hk61
    replace jb1 := jb1.k1 hk61
    replace jb3 := jb3.k1 hk61
    replace jb5 := jb5.k1 hk61
    replace jb7 := jb7.k1 hk61
    replace jb11 := jb11.k1 hk61
    replace jbs23 := jbs23.k1 hk61
    replace jbn24 := jbn24.k1 hk61
    replace hb26_31 := hb26_31.k1 hk61
    replace hat50 := hat50.keep hk61 (by show ¬ (_ = _); omega)
    replace jA := jA.keep hk61 (fun q hq hs => by have hs : q = b9 := hs; have g0 := hAr q hq; have g1 := ltjA q hq; omega)
    replace jA2 := jA2.keep hk61 (fun q hq hs => by have hs : q = b9 := hs; have g0 := owA2 q hq; have g1 := ltjA2 q hq; omega)
    replace hA58 := hA58.keep hk61 (fun q hq hs => by have hs : q = b9 := hs; have g0 := own58 q hq; have g1 := lt58 q hq; omega)
    replace jhV := jhV.keep hk61 (fun q hq hs => by have hs : q = b9 := hs; have g0 := own54 q hq; have g1 := hFlt q hq; omega)
    replace jhK0 := Keep.fr jhK0 hk61
    replace hfenb := Keep.fresh hfenb hk61 (by intro i hi hs; have hs2 : i = b9 := hs; show _ ∨ _; omega)
    refine OI_end rfl ?_
    refine X_block ?_
    refine X_block ?_
    obtain ⟨hwa, hwb⟩ : waitB ts (j : Int) now x = true ∧ decB (j : Int) x = false := wait_yes hg34 hc35 hc36 hg49 hc55
    rw [hwa] at hst1
    rw [hwb] at hst2
    replace hst1 := hst1
    replace hst2 := hst2.trans (show _ + 0 = _ from Int.add_zero _)
    replace hst1 := hst1.trans (show _ ++ [(k : Int)] = _ from rfl)
    exact fun a _ => ⟨hfenb, A58, cap58, jr, jb1, jb3, jb5, jb7, jbs23, jbn24, jA, jA2, jhV, jhK0, by rw [hst1]; exact hb9_63, by rw [hst2]; exact jb11, by rw [hst1]; exact hA58, own58⟩
   refine V_skip ?_
   refine X_block ?_
   refine X_block ?_
   obtain ⟨hwa, hwb⟩ : waitB ts (j : Int) now x = false ∧ decB (j : Int) x = false := wait_no hg34 hc35 hc36 (.inr hc55)
   rw [hwa] at hst1
   rw [hwb] at hst2
   replace hst1 := hst1.trans (show _ ++ [] = _ from List.append_nil _)
   replace hst2 := hst2.trans (show _ + 0 = _ from Int.add_zero _)
   exact fun a _ => ⟨hfenb, Ak, capk, jr, jb1, jb3, jb5, jb7, jbs23, jbn24, jA, jA2, jhV, jhK0, by rw [hst1]; exact jb9, by rw [hst2]; exact jb11, by rw [hst1]; exact jAk, ownk⟩
  refine OI_eq [(4, pt b1), (6, pt b5), (7, pt b7), (10, pt b9), (11, pt b11), (12, nt (k : Int)), (13, pt b26), (22, .bool true)] (by first | simp [hg34] | rfl) ?_
  refine Ose [(4, pt b1), (6, pt b5), (7, pt b7), (10, pt b9), (11, pt b11), (12, nt (k : Int)), (13, pt b26), (18, .bool true)] ?_
  refine V_true rfl ?_
  refine V_skip ?_
  refine X_block ?_
  refine X_block ?_
  obtain ⟨hwa, hwb⟩ : waitB ts (j : Int) now x = false ∧ decB (j : Int) x = false := wait_skip (.inl hg34)
  rw [hwa] at hst1
  rw [hwb] at hst2
  replace hst1 := hst1.trans (show _ ++ [] = _ from List.append_nil _)
  replace hst2 := hst2.trans (show _ + 0 = _ from Int.add_zero _)
  exact fun a _ => ⟨hfenb, Ak, capk, jr, jb1, jb3, jb5, jb7, jbs23, jbn24, jA, jA2, jhV, jhK0, by rw [hst1]; exact jb9, by rw [hst2]; exact jb11, by rw [hst1]; exact jAk, ownk⟩
 ·
  intro D M1 W hD hM ⟨Ak, capk, jr, jb1, jb3, jb5, jb7, jbs23, jbn24, jA, jA2, jhV, jhK0, jb9, jb11, jAk, ownk⟩ hDD
  have hzjhK0 := Keep.size jhK0
  have hrlt := jr.lt
  have hb1lt := jb1.lt
  have hb3lt := jb3.lt
  have hb5lt := jb5.lt
  have hb7lt := jb7.lt
  have hb9lt := jb9.lt
  have hb11lt := jb11.lt
  have hbs23lt := jbs23.lt
  have hbn24lt := jbn24.lt
  have ltjA := SlT.lt jA
  have ltjA2 := SlT.lt jA2
  have ltjAk := SlT.lt jAk
  rw [List.take_length] at jAk jb9 jb11
  refine X_block ?_
  refine X_then ?_
  refine Vr ?_
  refine Oc 72 (.tmp 10) 0 (.slice Ak ((waitL ts (j : Int) now 0 rs).length) capk) (some 57) jb9 rfl ?_
  refine Os 2 [(10, pt b9), (11, pt b11), (57, .slice Ak ((waitL ts (j : Int) now 0 rs).length) capk), (58, .func (.func 152) #[] #[pt b3])] ?_
  have hwl9 : (waitL ts (j : Int) now 0 rs).length ≤ 12 := Nat.le_trans (waitL_len rs 0) hrl
  refine Ok (kl 151 #[(.tmp 57), (.tmp 58)] #[72, 128]) 151 #[.slice Ak ((waitL ts (j : Int) now 0 rs).length) capk, .func (.func 152) #[] #[pt b3]] (some 59) (ssort_spec Ak capk 152 (pt b3) (waitL ts (j : Int) now 0 rs) (fun r => (tallyT s r).a) _ jAk (by omega) (by kernel_rfl) (fun x9 y9 w9 hk9 => waits1_spec b3 F v s x9 y9 w9 (jb3.keep hk9 (fun hs => by have h3 := ownk _ hs; omega)) (VotT.keep jhV hk9 (fun q h1 h2 => by have h3 := hFlt q h1; have h4 := ownk q h2; omega)))) ?_
  rintro _ w65 ⟨rfl, hso67, hk66⟩
  refine ⟨_, rfl, ?_⟩
  have hsz68 := Keep.size hk66
  replace jr := jr.keep hk66 (fun hs => by have h1 := ownk _ hs; have h2 := ltjAk _ hs; omega)
  replace jb3 := jb3.keep hk66 (fun hs => by have h1 := ownk _ hs; have h2 := ltjAk _ hs; omega)
  replace jb9 := jb9.keep hk66 (fun hs => by have h1 := ownk _ hs; have h2 := ltjAk _ hs; omega)
  replace jb11 := jb11.keep hk66 (fun hs => by have h1 := ownk _ hs; have h2 := ltjAk _ hs; omega)
  replace jbs23 := jbs23.keep hk66 (fun hs => by have h1 := ownk _ hs; have h2 := ltjAk _ hs; omega)
  replace jbn24 := jbn24.keep hk66 (fun hs => by have h1 := ownk _ hs; have h2 := ltjAk _ hs; omega)
  replace jA := jA.keep hk66 (fun q hq hs => by have g0 := hAr q hq; have g1 := ltjA q hq; have h1 := ownk q hs; have h2 := ltjAk q hs; omega)
  replace jhV := jhV.keep hk66 (fun q hq hs => by have g0 := hVr q hq; have g1 := hFlt q hq; have h1 := ownk q hs; have h2 := ltjAk q hs; omega)
  replace jhK0 := Keep.fresh jhK0 hk66 (by intro i hi hs; first | exact hs | (exfalso; have h1 := ownk i hs; have h2 := ltjAk i hs; omega) | (have h1 := ownk i hs; have h2 := ltjAk i hs; show _ ∨ _; omega))
  replace hDD := (Keep.block hk66 _ (Array.getElem?_eq_some_iff.1 hDD).1 (fun hs => by have h1 := ownk _ hs; have h2 := ltjAk _ hs; omega)).trans hDD
  have lts67 := SlT.lt hso67
  refine Oe ?_
  refine V_seq ?_
  refine V_draws (acts []) none_ [[0, 1, 2, 3]] (by kernel_rfl) (by repeat first | exact (by first | exact sure_postM | exact sure_rQ2 | exact sure_no) | refine sure_then ?_ | refine sure_block ?_ | refine sure_join ?_) (by kernel_rfl) ?_
  intro w70 hk69 he71 L hL72
  have hsz73 := Keep.size hk69
  replace jr := jr.k0 hk69
  replace jb9 := jb9.k0 hk69
  replace jb11 := jb11.k0 hk69
  replace jbs23 := jbs23.k0 hk69
  replace jbn24 := jbn24.k0 hk69
  replace jA := jA.keep0 hk69
  replace hso67 := hso67.keep0 hk69
  replace jhV := jhV.keep hk69 nk
  replace jhK0 := jhK0.tn hk69
  replace hDD := (Keep.block hk69 _ (Array.getElem?_eq_some_iff.1 hDD).1 id).trans hDD
  have qjr := jr
  have qjb9 := jb9
  have qjb11 := jb11
  have qjbs23 := jbs23
  have qjbn24 := jbn24
  have K74 : Keep none_ w70 w70 := Keep.refl _ _
  obtain rfl := List.mem_singleton.1 hL72
  refine Gc0 72 (.tmp 10) 0 (.slice Ak ((waitL ts (j : Int) now 0 rs).length) capk) (some 60) qjb9 rfl ?_
  refine Gc0 3 (.tmp 11) 0 (nt (decN (j : Int) rs)) (some 61) qjb11 rfl ?_
  refine Gs [] [(8, .slice Ak ((waitL ts (j : Int) now 0 rs).length) capk), (9, nt (decN (j : Int) rs))] ?_
  refine GI_end ?_
  refine X_then ?_
  refine V_ret ?_
  exact leave1 (.tuple #[.slice Ak (waitL ts (j : Int) now 0 rs).length capk, nt (decN (j : Int) rs)]) (.inl rfl) hDD (fun w' hk => ⟨res_tmps rfl, ⟨Ak, capk, rfl, SlT.quiet hso67 hk, (fun q h => by have h1 := ownk q h; omega), Keep.quiet jhK0 hk (by omega)⟩⟩)
end Go.Al

namespace Go.Al
open Go Go.RowKit Go.Proofs
section
variable {xs : List Acc} {cs : List Ci} {s : VS} {ts : List Trk} {rs : List Rfm} {who of after ref now : Int}
theorem subE1 (h : (trkO ts of).isSome = false ∨ who < 0 ∨ who ≥ 10 ∨ after < 0 ∨ after > 1000) : subE xs cs s ts rs who of after = 1 := by
  unfold subE
  rw [if_pos (h.imp (fun h => by cases h9 : trkO ts of with
    | none => rfl
    | some _ => rw [h9] at h; cases h) id)]
theorem closeE4 {s : VS} {ref : Int} : closeE s ref 0 = 4 ↔ (pollAt s ref).isSome = false := by
  unfold closeE
  cases pollAt s ref with
  | none => simp
  | some q =>
    simp only [Option.isSome_some, reduceCtorEq, iff_false]
    split
    · decide
    · decide
theorem closeS0 (s : VS) (ref e : Int) : closeS s ref 0 e = s := by
  unfold closeS
  cases hp : pollAt s ref with
  | none => rfl
  | some q =>
    dsimp only
    have : closeE s ref 0 ≠ 0 := by
      unfold closeE; rw [hp]; dsimp only
      split
      · decide
      · decide
    rw [if_neg this]
theorem subEx (h1 : (trkO ts of).isSome = true) (h2 : ¬ (who < 0 ∨ who ≥ 10 ∨ after < 0 ∨ after > 1000)) : subE xs cs s ts rs who of after = if rs.length ≥ 12 then 3 else if (pollAt s rs.length).isSome then 5 else spendsE xs cs who 10 := by
  unfold subE
  rw [if_neg]
  rintro (h | h)
  · simp_all
  · exact h2 h
theorem sub_no {k : Int} (h : subE xs cs s ts rs who of after = k) (hk : k ≠ 0) : subX xs cs s ts rs who of after = xs ∧ subS xs cs s ts rs who of after = s ∧ ∀ sum now, subR xs cs s ts rs who of after sum now = rs := by
  refine ⟨?_, ?_, fun sum now => ?_⟩
  · unfold subX; rw [h, if_neg hk]
  · unfold subS; rw [h, if_neg hk]
  · unfold subR; rw [h, if_neg hk]
theorem sub_go (h : subE xs cs s ts rs who of after = 0) : subX xs cs s ts rs who of after = resX xs cs who 10 ∧ subS xs cs s ts rs who of after = openS s rs.length of ∧ ∀ sum now, subR xs cs s ts rs who of after sum now = rs ++ [newR of sum after now who] := by
  refine ⟨?_, ?_, fun sum now => ?_⟩
  · unfold subX; rw [if_pos h]
  · unfold subS; rw [if_pos h]
  · unfold subR; rw [if_pos h]
theorem trk_some (h : (trkO ts of).isSome = true) : 0 ≤ of ∧ of < ts.length := by
  unfold trkO at h
  split at h
  · assumption
  · cases h
end
set_option maxRecDepth 10000 in
set_option maxHeartbeats 1000000 in
theorem submit_spec (H : Nat → Prop) (r g : Nat) (ts : List Trk) (rs : List Rfm) (F : Nat → Prop) (v : Nat) (s : VS) (G : Nat → Prop) (l : Nat) (xs : List Acc) (cs : List Ci) (who of : Int) (sum : Nat → Int) (after now : Int) (w : World) (hR : Rfr H w r g ts rs) (hV : VotT F w v s) (hl : Led G w l xs cs) (hHF : ∀ q, H q → ¬ F q) (hHG : ∀ q, H q → ¬ G q) (hFG : ∀ q, F q → ¬ G q) : Calls Tryz.prog 17 #[pt r, pt l, pt v, nt who, nt of, .agg (hshc sum).toArray, nt after, nt now] w fun e w' => e = .returned (.tuple #[nt (if subE xs cs s ts rs who of after = 0 then (rs.length : Int) else 0), nt (subE xs cs s ts rs who of after)]) ∧ (∃ H' F' G', Rfr H' w' r g ts (subR xs cs s ts rs who of after sum now) ∧ VotT F' w' v (subS xs cs s ts rs who of after) ∧ Led G' w' l (subX xs cs s ts rs who of after) cs ∧ (∀ q, H' q → H q ∨ w.heap.size ≤ q) ∧ (∀ q, F' q → F q ∨ w.heap.size ≤ q) ∧ (∀ q, G' q → G q ∨ w.heap.size ≤ q) ∧ (∀ q, H' q → ¬ F' q) ∧ (∀ q, H' q → ¬ G' q) ∧ (∀ q, F' q → ¬ G' q)) ∧ Keep (fun q => q = g ∨ F q ∨ G q) w w' := by
 have hHlt := Rfr.lt hR
 have hrH := Rfr.at_ hR
 have hgH := Rfr.atg hR
 have hrlt := hHlt _ hrH
 have hglt := hHlt _ hgH
 have hin := Rfr.inn hR
 obtain ⟨A, cap, hr, hA, hAo, hrg⟩ := Rfr.parts hR
 have hAlt := SlT.lt hA
 have hAr : ∀ q, inA A q → q ≠ r ∧ q ≠ g ∧ q < w.heap.size := fun q hq => ⟨(hAo q hq).2.1, (hAo q hq).2.2, hAlt q hq⟩
 have hgo : ∀ q, only g q → q ≠ r ∧ q = g := fun q hq => ⟨fun e => hrg (e.symm.trans hq), hq⟩
 have hgl : ∀ q, only g q → q < w.heap.size := fun q hq => by rw [show q = g from hq]; exact hglt
 have hHo : ∀ q, H q → 0 ≤ q := fun q _ => Nat.zero_le q
 have htl := hin.tl
 have hrl := hin.rl
 have hFlt := VotT.lt hV
 have hvlt := hFlt _ (VotT.at_ hV)
 have hVr : ∀ q, F q → q ≠ r := fun q hq e => hHF r hrH (e ▸ hq)
 have hGlt := Led.lt hl
 have hllt := hGlt _ (Led.at_ hl)
 have hlr : ∀ q, G q → q ≠ r := fun q hq e => hHG r hrH (e ▸ hq)
 have hinv := Led.inv hl
 have hHr : ∀ q, H q → H q ∨ w.heap.size ≤ q := fun _ h => .inl h
 have hFr : ∀ q, F q → F q ∨ w.heap.size ≤ q := fun _ h => .inl h
 have hGr : ∀ q, G q → G q ∨ w.heap.size ≤ q := fun _ h => .inl h
 have hK0 : Keep (fun q => q = g ∨ F q ∨ G q) w w := Keep.refl _ _
 have hzhK0 := Keep.size hK0
 refine enterV Tryz.func17 rfl [pt r, pt l, pt v, nt who, nt of, .agg (hshc sum).toArray, nt after, nt now] 95 rfl rfl rfl ?_
 refine Vr ?_
 refine OI_box 42 (.tmp 5) (.agg (hshc sum).toArray) (hshc sum) (some 13) (by kernel_rfl) (by kernel_rfl) rfl ?_
 intro b1 w1 e1 hb1 k1 z1
 have hsz2 := Keep.size k1
 replace hr := hr.k0 k1
 replace hA := hA.keep0 k1
 replace hR := hR.keep k1 nk
 replace hV := hV.keep k1 nk
 replace hl := hl.keep k1 nk
 replace hK0 := hK0.tn k1
 have hb1lt := hb1.lt
 refine On 3 [0, 1, 2, 3, 4, 6, 7, 13] ?_
 refine Oer ?_
 refine On 2 [0, 1, 2, 3, 4, 6, 7, 13, 23, 24] ?_
 refine Ok (kl 29 #[(.tmp 23), (.tmp 24)] #[34, 3]) 29 #[pt r, nt of] (some 25) (rtrack_spec H r g ts rs of _ hR) ?_
 rintro _ w3 ⟨rfl, hk4⟩
 refine ⟨_, rfl, ?_⟩
 have hsz5 := Keep.size hk4
 replace hr := hr.k0 hk4
 replace hb1 := hb1.k0 hk4
 replace hA := hA.keep0 hk4
 replace hR := hR.keep hk4 nk
 replace hV := hV.keep hk4 nk
 replace hl := hl.keep hk4 nk
 replace hK0 := hK0.tn hk4
 refine On 6 [0, 1, 2, 3, 4, 6, 7, 13, 26, 27] ?_
 refine OI_alloc 27 (.agg (Trk.cells Trk.zero).toArray) (Trk.cells Trk.zero) (some 18) (by kernel_rfl) (by kernel_rfl) (by kernel_rfl) ?_
 intro b6 w6 e6 hb6 k6 z6
 have hsz7 := Keep.size k6
 replace hr := hr.k0 k6
 replace hb1 := hb1.k0 k6
 replace hA := hA.keep0 k6
 replace hR := hR.keep k6 nk
 replace hV := hV.keep k6 nk
 replace hl := hl.keep k6 nk
 replace hK0 := hK0.tn k6
 have hb6lt := hb6.lt
 refine Otg 27 (.tmp 18) (.tmp 26) 0 (Trk.cells (trkA ts of)) hb6 (Trk.len _) (Trk.one _) ?_
 intro w8 hb6_11 hk9 hz10
 replace hb6_11 : Blk w8 b6 (Trk.cells (trkA ts of)) 27 := (Blk.eqL (Trk.over _ _) hb6_11)
 have hsz12 := Keep.size hk9
 replace hr := hr.k1 hk9
 replace hb1 := hb1.k1 hk9
 replace hA := hA.keep hk9 (fun q hq hs => by have hs : q = b6 := hs; have g0 := hAr q hq; have g1 := hAlt q hq; omega)
 replace hR := hR.keep hk9 (fun q hq hs => by have hs : q = b6 := hs; have g0 := hHo q hq; have g1 := hHlt q hq; omega)
 replace hV := hV.keep hk9 (fun q hq hs => by have hs : q = b6 := hs; have g0 := hVr q hq; have g1 := hFlt q hq; omega)
 replace hl := hl.keep hk9 (fun q hq hs => by have hs : q = b6 := hs; have g0 := hlr q hq; have g1 := hGlt q hq; omega)
 replace hK0 := Keep.fr hK0 hk9
 refine On 9 [0, 1, 2, 3, 4, 6, 7, 13, 19] ?_
 refine Oe ?_
 refine V_seq ?_
 refine V_block ?_
 refine Vr ?_
 refine Os 3 [(0, pt r), (1, pt l), (2, pt v), (3, nt who), (4, nt of), (6, nt after), (7, nt now), (13, pt b1), (31, .bool (!((trkO ts of).isSome)))] ?_
 cases hg13 : (!((trkO ts of).isSome))
 ·
  refine OI_eq [(0, pt r), (1, pt l), (2, pt v), (3, nt who), (4, nt of), (6, nt after), (7, nt now), (13, pt b1), (31, .bool false)] (by first | rfl | rw [hg13]) ?_
  refine Os 15 [(0, pt r), (1, pt l), (2, pt v), (3, nt who), (4, nt of), (6, nt after), (7, nt now), (13, pt b1), (43, .bool (decide (who < 0)))] ?_
  by_cases hg14 : who < 0
  ·
   refine OI_eq [(0, pt r), (1, pt l), (2, pt v), (3, nt who), (4, nt of), (6, nt after), (7, nt now), (13, pt b1), (43, .bool true)] (by first | simp [hg14] | rfl) ?_
   refine Ose [(0, pt r), (1, pt l), (2, pt v), (3, nt who), (4, nt of), (6, nt after), (7, nt now), (13, pt b1), (28, .bool true)] ?_
   refine V_true rfl ?_
   refine Vs [(16, nt 0), (17, nt 1)] ?_
   refine V_ret ?_
   refine X_ret_block ?_
   refine X_ret_then ?_
   have hE15 : subE xs cs s ts rs who of after = 1 := subE1 (.inr <| .inl hg14)
   obtain ⟨h115, h215, h315⟩ := sub_no hE15 (by decide)
   exact X_return (.tuple #[nt 0, nt 1]) rfl ⟨by rw [hE15]; rfl, ⟨H, F, G, (by rw [h315]; exact hR), (by rw [h215]; exact hV), (by rw [h115]; exact hl), hHr, hFr, hGr, hHF, hHG, hFG⟩, hK0⟩
  refine OI_eq [(0, pt r), (1, pt l), (2, pt v), (3, nt who), (4, nt of), (6, nt after), (7, nt now), (13, pt b1), (43, .bool false)] (by first | simp [hg14] | rfl) ?_
  refine Os 19 [(0, pt r), (1, pt l), (2, pt v), (3, nt who), (4, nt of), (6, nt after), (7, nt now), (13, pt b1), (47, .bool (decide (who ≥ 10)))] ?_
  by_cases hg16 : who ≥ 10
  ·
   refine OI_eq [(0, pt r), (1, pt l), (2, pt v), (3, nt who), (4, nt of), (6, nt after), (7, nt now), (13, pt b1), (47, .bool true)] (by first | simp [hg16] | rfl) ?_
   refine Ose [(0, pt r), (1, pt l), (2, pt v), (3, nt who), (4, nt of), (6, nt after), (7, nt now), (13, pt b1), (28, .bool true)] ?_
   refine V_true rfl ?_
   refine Vs [(16, nt 0), (17, nt 1)] ?_
   refine V_ret ?_
   refine X_ret_block ?_
   refine X_ret_then ?_
   have hE17 : subE xs cs s ts rs who of after = 1 := subE1 (.inr <| .inr <| .inl hg16)
   obtain ⟨h117, h217, h317⟩ := sub_no hE17 (by decide)
   exact X_return (.tuple #[nt 0, nt 1]) rfl ⟨by rw [hE17]; rfl, ⟨H, F, G, (by rw [h317]; exact hR), (by rw [h217]; exact hV), (by rw [h117]; exact hl), hHr, hFr, hGr, hHF, hHG, hFG⟩, hK0⟩
  refine OI_eq [(0, pt r), (1, pt l), (2, pt v), (3, nt who), (4, nt of), (6, nt after), (7, nt now), (13, pt b1), (47, .bool false)] (by first | simp [hg16] | rfl) ?_
  refine Os 23 [(0, pt r), (1, pt l), (2, pt v), (3, nt who), (4, nt of), (6, nt after), (7, nt now), (13, pt b1), (51, .bool (decide (after < 0)))] ?_
  by_cases hg18 : after < 0
  ·
   refine OI_eq [(0, pt r), (1, pt l), (2, pt v), (3, nt who), (4, nt of), (6, nt after), (7, nt now), (13, pt b1), (51, .bool true)] (by first | simp [hg18] | rfl) ?_
   refine Ose [(0, pt r), (1, pt l), (2, pt v), (3, nt who), (4, nt of), (6, nt after), (7, nt now), (13, pt b1), (28, .bool true)] ?_
   refine V_true rfl ?_
   refine Vs [(16, nt 0), (17, nt 1)] ?_
   refine V_ret ?_
   refine X_ret_block ?_
   refine X_ret_then ?_
   have hE19 : subE xs cs s ts rs who of after = 1 := subE1 (.inr <| .inr <| .inr <| .inl hg18)
   obtain ⟨h119, h219, h319⟩ := sub_no hE19 (by decide)
   exact X_return (.tuple #[nt 0, nt 1]) rfl ⟨by rw [hE19]; rfl, ⟨H, F, G, (by rw [h319]; exact hR), (by rw [h219]; exact hV), (by rw [h119]; exact hl), hHr, hFr, hGr, hHF, hHG, hFG⟩, hK0⟩
  refine OI_eq [(0, pt r), (1, pt l), (2, pt v), (3, nt who), (4, nt of), (6, nt after), (7, nt now), (13, pt b1), (51, .bool false)] (by first | simp [hg18] | rfl) ?_
  refine Ose [(0, pt r), (1, pt l), (2, pt v), (3, nt who), (4, nt of), (6, nt after), (7, nt now), (13, pt b1), (28, .bool (decide (after > 1000)))] ?_
  refine V_if (after > 1000) (by kernel_rfl) (fun hc20 => ?_) (fun hc20 => ?_)
  ·
   refine Vs [(16, nt 0), (17, nt 1)] ?_
   refine V_ret ?_
   refine X_ret_block ?_
   refine X_ret_then ?_
   have hE21 : subE xs cs s ts rs who of after = 1 := subE1 (.inr <| .inr <| .inr <| .inr <| hc20)
   obtain ⟨h121, h221, h321⟩ := sub_no hE21 (by decide)
   exact X_return (.tuple #[nt 0, nt 1]) rfl ⟨by rw [hE21]; rfl, ⟨H, F, G, (by rw [h321]; exact hR), (by rw [h221]; exact hV), (by rw [h121]; exact hl), hHr, hFr, hGr, hHF, hHG, hFG⟩, hK0⟩
  refine Vr ?_
  refine On 3 [0, 1, 2, 3, 4, 6, 7, 13, 58] ?_
  refine Oc 95 (.tmp 58) 1 (pt g) (some 59) hr rfl ?_
  refine Ok (kl 41 #[(.tmp 59)] #[95]) 41 #[pt g] (some 60) (qlen_spec H r g ts rs _ hR) ?_
  rintro _ w8 ⟨rfl, rfl⟩
  refine ⟨_, rfl, ?_⟩
  refine Ose [(0, pt r), (1, pt l), (2, pt v), (3, nt who), (4, nt of), (6, nt after), (7, nt now), (13, pt b1), (55, .bool (decide ((rs.length : Int) ≥ 12)))] ?_
  refine V_if ((rs.length : Int) ≥ 12) (by kernel_rfl) (fun hc25 => ?_) (fun hc25 => ?_)
  ·
   refine Vs [(16, nt 0), (17, nt 3)] ?_
   refine V_ret ?_
   refine X_ret_block ?_
   refine X_ret_then ?_
   have hE26 : subE xs cs s ts rs who of after = 3 := by
     rw [subEx (who := who) (of := of) (after := after) (ts := ts) (by simpa using hg13) (by omega)]
     rw [if_pos (by omega)]
   obtain ⟨h126, h226, h326⟩ := sub_no hE26 (by decide)
   exact X_return (.tuple #[nt 0, nt 3]) rfl ⟨by rw [hE26]; rfl, ⟨H, F, G, (by rw [h326]; exact hR), (by rw [h226]; exact hV), (by rw [h126]; exact hl), hHr, hFr, hGr, hHF, hHG, hFG⟩, hK0⟩
  refine V_skip ?_
  refine X_block ?_
  refine X_then ?_
  refine Vr ?_
  refine On 3 [0, 1, 2, 3, 4, 6, 7, 13, 64] ?_
  refine Oc 95 (.tmp 64) 1 (pt g) (some 65) hr rfl ?_
  refine Ok (kl 41 #[(.tmp 65)] #[95]) 41 #[pt g] (some 66) (qlen_spec H r g ts rs _ hR) ?_
  rintro _ w8 ⟨rfl, rfl⟩
  refine ⟨_, rfl, ?_⟩
  refine On 6 [0, 1, 2, 3, 4, 6, 7, 13, 20] ?_
  refine Oe ?_
  refine V_seq ?_
  refine Vr ?_
  refine Os 3 [(0, pt r), (1, pt l), (2, pt v), (3, nt who), (4, nt of), (6, nt after), (7, nt now), (13, pt b1), (20, nt (rs.length : Int)), (67, pt v), (68, nt (rs.length : Int)), (69, nt now)] ?_
  refine Ok (kl 42 #[(.tmp 67), (.tmp 68), (.const (nt 0)), (.tmp 69)] #[33, 3, 3, 3]) 42 #[pt v, nt (rs.length : Int), nt 0, nt now] (some 70) (close_specT F v s (rs.length : Int) 0 now _ hV) ?_
  rintro _ w32 ⟨rfl, ⟨F34, ho35, hfr36⟩, hk33⟩
  refine ⟨_, rfl, ?_⟩
  have hsz37 := Keep.size hk33
  replace hr := hr.keep hk33 (fun hs => by have h1 := hVr _ hs; have h2 := hFlt _ hs; omega)
  replace hb1 := hb1.keep hk33 (fun hs => by have h1 := hVr _ hs; have h2 := hFlt _ hs; omega)
  replace hb6_11 := hb6_11.keep hk33 (fun hs => by have h1 := hVr _ hs; have h2 := hFlt _ hs; omega)
  replace hA := hA.keep hk33 (fun q hq hs => (fun q h1 h2 => hHF q (hAo q h2).1 h1) q hs hq)
  replace hR := hR.keep hk33 (fun q hq hs => (fun q h1 h2 => hHF q h2 h1) q hs hq)
  replace hl := hl.keep hk33 (fun q hq hs => hFG q hs hq)
  replace hK0 := Keep.fresh hK0 hk33 (fun i hi hs => by rcases hFr i hs with h | h; exact .inr <| .inl h; (exfalso; omega))
  have own39 : ∀ q, F34 q → q ≠ r ∧ q ≠ r ∧ q ≠ b1 ∧ q ≠ b6 := fun q hq => by rcases hfr36 q hq with h | h; (have h1 := hVr q h; have h2 := hFlt q h; omega); omega
  have lt38 := VotT.lt ho35
  have rel40 : ∀ q, F34 q → F q ∨ w.heap.size ≤ q := fun q hq => by rcases hfr36 q hq with h | h; exact hFr q h; exact .inr (by omega)
  have dis41 : ∀ q, F34 q → ¬ inA A q := fun q h1 h2 => by rcases hfr36 q h1 with h | h; exact (fun q h1 h2 => hHF q (hAo q h2).1 h1) q h h2; (have h4 := hAlt q h2; omega)
  have dis42 : ∀ q, F34 q → ¬ H q := fun q h1 h2 => by rcases hfr36 q h1 with h | h; exact (fun q h1 h2 => hHF q h2 h1) q h h2; (have h4 := hHlt q h2; omega)
  have dis43 : ∀ q, F34 q → ¬ G q := fun q h1 h2 => by rcases hfr36 q h1 with h | h; exact hFG q h h2; (have h4 := hGlt q h2; omega)
  rw [closeS0] at ho35
  refine Ose [(0, pt r), (1, pt l), (2, pt v), (3, nt who), (4, nt of), (6, nt after), (7, nt now), (13, pt b1), (20, nt (rs.length : Int)), (71, .bool (!(decide (closeE s (rs.length : Int) 0 = 4))))] ?_
  refine V_not (closeE s (rs.length : Int) 0 = 4) (by kernel_rfl) (fun hc44 => ?_) (fun hc44 => ?_)
  ·
   refine Vs [(16, nt 0), (17, nt 5)] ?_
   refine V_ret ?_
   refine X_ret_then ?_
   have hE45 : subE xs cs s ts rs who of after = 5 := by
     rw [subEx (who := who) (of := of) (after := after) (ts := ts) (by simpa using hg13) (by omega)]
     rw [if_neg (by omega)]
     exact if_pos (by cases h9 : (pollAt s rs.length).isSome; exact absurd (closeE4.2 h9) hc44; rfl)
   obtain ⟨h145, h245, h345⟩ := sub_no hE45 (by decide)
   exact X_return (.tuple #[nt 0, nt 5]) rfl ⟨by rw [hE45]; rfl, ⟨H, F34, G, (by rw [h345]; exact hR), (by rw [h245]; exact ho35), (by rw [h145]; exact hl), hHr, rel40, hGr, (fun q h1 h2 => dis42 q h2 h1), hHG, dis43⟩, hK0⟩
  refine V_skip ?_
  refine X_then ?_
  refine V_seq ?_
  refine Vr ?_
  refine On 2 [0, 2, 3, 4, 6, 7, 13, 20, 72, 73] ?_
  refine Ok (kl 43 #[(.tmp 72), (.tmp 73), (.const (nt 10))] #[32, 3, 3]) 43 #[pt l, nt who, nt 10] (some 74) (reserve_spec G l xs cs who 10 _ hl) ?_
  rintro _ w48 ⟨rfl, ⟨F50, ho51, hfr52⟩, hk49⟩
  refine ⟨_, rfl, ?_⟩
  have hsz53 := Keep.size hk49
  replace hr := hr.keep hk49 (fun hs => by have h1 := hlr _ hs; have h2 := hGlt _ hs; omega)
  replace hb1 := hb1.keep hk49 (fun hs => by have h1 := hlr _ hs; have h2 := hGlt _ hs; omega)
  replace hb6_11 := hb6_11.keep hk49 (fun hs => by have h1 := hlr _ hs; have h2 := hGlt _ hs; omega)
  replace hA := hA.keep hk49 (fun q hq hs => (fun q h1 h2 => hHG q (hAo q h2).1 h1) q hs hq)
  replace hR := hR.keep hk49 (fun q hq hs => (fun q h1 h2 => hHG q h2 h1) q hs hq)
  replace hK0 := Keep.fresh hK0 hk49 (fun i hi hs => by rcases hGr i hs with h | h; exact .inr <| .inr <| h; (exfalso; omega))
  replace ho35 := ho35.keep hk49 (fun q hq hs => (fun q h1 h2 => dis43 q h2 h1) q hs hq)
  have own55 : ∀ q, F50 q → q ≠ r ∧ q ≠ r ∧ q ≠ b1 ∧ q ≠ b6 := fun q hq => by rcases hfr52 q hq with h | h; (have h1 := hlr q h; have h2 := hGlt q h; omega); omega
  have lt54 := Led.lt ho51
  have rel56 : ∀ q, F50 q → G q ∨ w.heap.size ≤ q := fun q hq => by rcases hfr52 q hq with h | h; exact hGr q h; exact .inr (by omega)
  have dis57 : ∀ q, F50 q → ¬ inA A q := fun q h1 h2 => by rcases hfr52 q h1 with h | h; exact (fun q h1 h2 => hHG q (hAo q h2).1 h1) q h h2; (have h4 := hAlt q h2; omega)
  have dis58 : ∀ q, F50 q → ¬ H q := fun q h1 h2 => by rcases hfr52 q h1 with h | h; exact (fun q h1 h2 => hHG q h2 h1) q h h2; (have h4 := hHlt q h2; omega)
  have dis59 : ∀ q, F50 q → ¬ F34 q := fun q h1 h2 => by rcases hfr52 q h1 with h | h; exact (fun q h1 h2 => dis43 q h2 h1) q h h2; (have h4 := lt38 q h2; omega)
  refine On 4 [0, 2, 3, 4, 6, 7, 13, 20, 21] ?_
  refine Oer ?_
  refine Ose [(0, pt r), (2, pt v), (3, nt who), (4, nt of), (6, nt after), (7, nt now), (13, pt b1), (20, nt (rs.length : Int)), (21, nt (spendsE xs cs who 10)), (76, .bool (!(decide (spendsE xs cs who 10 = 0))))] ?_
  refine V_not (spendsE xs cs who 10 = 0) (by kernel_rfl) (fun hc60 => ?_) (fun hc60 => ?_)
  ·
   refine Vs [(16, nt 0), (17, nt (spendsE xs cs who 10))] ?_
   refine V_ret ?_
   refine X_ret_then ?_
   have hE61 : subE xs cs s ts rs who of after = (spendsE xs cs who 10) := by
     rw [subEx (who := who) (of := of) (after := after) (ts := ts) (by simpa using hg13) (by omega)]
     rw [if_neg (by omega)]
     rw [if_neg (by rw [closeE4.1 hc44]; decide)]
   obtain ⟨h161, h261, h361⟩ := sub_no hE61 (hc60)
   exact X_return (.tuple #[nt 0, nt (spendsE xs cs who 10)]) rfl ⟨by rw [hE61]; rw [if_neg (hc60)], ⟨H, F34, F50, (by rw [h361]; exact hR), (by rw [h261]; exact ho35), (by rw [show subX xs cs s ts rs who of after = resX xs cs who 10 from h161.trans (by unfold resX; rw [if_neg (hc60)])]; exact ho51), hHr, rel40, rel56, (fun q h1 h2 => dis42 q h2 h1), (fun q h1 h2 => dis58 q h2 h1), (fun q h1 h2 => dis59 q h2 h1)⟩, hK0⟩
  refine V_skip ?_
  refine X_then ?_
  refine Vr ?_
  refine Os 3 [(0, pt r), (3, nt who), (4, nt of), (6, nt after), (7, nt now), (13, pt b1), (20, nt (rs.length : Int)), (78, pt v), (79, nt (rs.length : Int)), (80, nt of)] ?_
  refine Ok (kl 44 #[(.tmp 78), (.tmp 79), (.tmp 80)] #[33, 3, 3]) 44 #[pt v, nt (rs.length : Int), nt of] (some 81) (open_specT F34 v s (rs.length : Int) of _ ho35) ?_
  rintro _ w64 ⟨rfl, ⟨F66, ho67, hfr68⟩, hk65⟩
  refine ⟨_, rfl, ?_⟩
  have hsz69 := Keep.size hk65
  replace hr := hr.keep hk65 (fun hs => by have h1 := own39 _ hs; have h2 := lt38 _ hs; omega)
  replace hb1 := hb1.keep hk65 (fun hs => by have h1 := own39 _ hs; have h2 := lt38 _ hs; omega)
  replace hb6_11 := hb6_11.keep hk65 (fun hs => by have h1 := own39 _ hs; have h2 := lt38 _ hs; omega)
  replace hA := hA.keep hk65 (fun q hq hs => dis41 q hs hq)
  replace hR := hR.keep hk65 (fun q hq hs => dis42 q hs hq)
  replace hK0 := Keep.fresh hK0 hk65 (fun i hi hs => by rcases rel40 i hs with h | h; exact .inr <| .inl h; (exfalso; omega))
  replace ho51 := ho51.keep hk65 (fun q hq hs => (fun q h1 h2 => dis59 q h2 h1) q hs hq)
  have own71 : ∀ q, F66 q → q ≠ r ∧ q ≠ r ∧ q ≠ b1 ∧ q ≠ b6 := fun q hq => by rcases hfr68 q hq with h | h; (have h1 := own39 q h; have h2 := lt38 q h; omega); omega
  have lt70 := VotT.lt ho67
  have rel72 : ∀ q, F66 q → F q ∨ w.heap.size ≤ q := fun q hq => by rcases hfr68 q hq with h | h; exact rel40 q h; exact .inr (by omega)
  have dis73 : ∀ q, F66 q → ¬ inA A q := fun q h1 h2 => by rcases hfr68 q h1 with h | h; exact dis41 q h h2; (have h4 := hAlt q h2; omega)
  have dis74 : ∀ q, F66 q → ¬ H q := fun q h1 h2 => by rcases hfr68 q h1 with h | h; exact dis42 q h h2; (have h4 := hHlt q h2; omega)
  have dis75 : ∀ q, F66 q → ¬ F50 q := fun q h1 h2 => by rcases hfr68 q h1 with h | h; exact (fun q h1 h2 => dis59 q h2 h1) q h h2; (have h4 := lt54 q h2; omega)
  refine Oe ?_
  refine V_seq ?_
  refine Vd (acts [11]) (fun q => q = g) [[0, 1, 2, 3, 4, 5, 6, 7, 8, 9, 10, 11]] ?_
  intro w77 hk76 he78 L hL79
  have hsz80 := Keep.size hk76
  replace hr := hr.k0 hk76
  replace hb1 := hb1.k0 hk76
  replace hb6_11 := hb6_11.k0 hk76
  replace hA := hA.keep0 hk76
  replace hR := hR.keep hk76 nk
  replace hK0 := hK0.tn hk76
  replace ho51 := ho51.keep hk76 nk
  replace ho67 := ho67.keep hk76 nk
  have qhr := hr
  have qhb1 := hb1
  have qhb6_11 := hb6_11
  have K81 : Keep (fun q => q = g) w77 w77 := Keep.refl _ _
  obtain rfl := List.mem_singleton.1 hL79
  refine Gn [3, 4, 5, 6, 7, 8, 9, 10, 11] [3, 4, 6, 7, 13, 20, 84] ?_
  refine Gc 95 (.tmp 84) 1 (pt g) (some 85) qhr (by show ¬ (r = g); omega) rfl ?_
  refine Gn [6, 7, 8, 9, 10, 11] [3, 6, 7, 13, 20, 85, 86, 87] ?_
  refine Ga 42 (.tmp 13) 0 (hshc sum) (some 88) 32 qhb1 (by show ¬ (b1 = g); omega) (take_all (hshc_len _)) (hshc_len _) ?_
  refine Gn [11] [20, 85, 86, 92] ?_
  refine GI_final 11 (by kernel_rfl) (by kernel_rfl) ?_
  refine Ok (kl 45 #[(.tmp 85), (.const (nt 0)), (.tmp 86), (.tmp 92)] #[95, 3, 3, 57]) 45 #[pt g, nt 0, nt (rs.length : Int), .agg (Rfm.cells (newR of sum after now who)).toArray] (some 93) (rnew_spec H r g ts rs (newR of sum after now who) _ hR (by omega) (show 0 ≤ of ∧ of < (ts.length : Int) from trk_some (by simpa using hg13))) ?_
  rintro _ w84 ⟨rfl, ⟨H86, hR87, hfr88⟩, hk85⟩
  refine ⟨_, rfl, ?_⟩
  have hsz89 := Keep.size hk85
  replace hr := hr.keep hk85 (fun hs => by have h1 := hgo _ hs; have h2 := hgl _ hs; omega)
  replace hb1 := hb1.keep hk85 (fun hs => by have h1 := hgo _ hs; have h2 := hgl _ hs; omega)
  replace hb6_11 := hb6_11.keep hk85 (fun hs => by have h1 := hgo _ hs; have h2 := hgl _ hs; omega)
  replace hA := hA.keep hk85 (fun q hq hs => (fun q h1 h2 => (hAo q h2).2.2 h1) q hs hq)
  replace hK0 := Keep.fresh hK0 hk85 (by intro i hi hs; first | exact hs | (exfalso; have h1 := hgo i hs; have h2 := hgl i hs; omega) | (have h1 := hgo i hs; have h2 := hgl i hs; show _ ∨ _; omega))
  replace ho51 := ho51.keep hk85 (fun q hq hs => (fun q h1 h2 => (fun q h1 h2 => dis58 q h2 h1) q (by rw [show q = g from h1]; exact hgH) h2) q hs hq)
  replace ho67 := ho67.keep hk85 (fun q hq hs => (fun q h1 h2 => (fun q h1 h2 => dis74 q h2 h1) q (by rw [show q = g from h1]; exact hgH) h2) q hs hq)
  have own91 : ∀ q, H86 q → 0 ≤ q ∧ q ≠ b1 ∧ q ≠ b6 := fun q hq => by rcases hfr88 q hq with h | h; (have h1 := hHo q h; have h2 := hHlt q h; omega); omega
  have lt90 := Rfr.lt hR87
  have rel92 : ∀ q, H86 q → H q ∨ w.heap.size ≤ q := fun q hq => by rcases hfr88 q hq with h | h; exact hHr q h; exact .inr (by omega)
  have dis93 : ∀ q, H86 q → ¬ F50 q := fun q h1 h2 => by rcases hfr88 q h1 with h | h; exact (fun q h1 h2 => dis58 q h2 h1) q h h2; (have h4 := lt54 q h2; omega)
  have dis94 : ∀ q, H86 q → ¬ F66 q := fun q h1 h2 => by rcases hfr88 q h1 with h | h; exact (fun q h1 h2 => dis74 q h2 h1) q h h2; (have h4 := lt70 q h2; omega)
  refine Oer ?_
  refine Ose [(16, nt (rs.length : Int)), (17, nt 0)] ?_
  refine V_ret ?_
  have hE95 : subE xs cs s ts rs who of after = 0 := by
    rw [subEx (who := who) (of := of) (after := after) (ts := ts) (by simpa using hg13) (by omega)]
    rw [if_neg (by omega)]
    rw [if_neg (by rw [closeE4.1 hc44]; decide)]
    exact hc60
  obtain ⟨h195, h295, h395⟩ := sub_go hE95
  exact X_return (.tuple #[nt (rs.length : Int), nt 0]) rfl ⟨by rw [hE95]; rfl, ⟨H86, F66, F50, (by rw [h395]; exact hR87), (by rw [h295]; exact ho67), (by rw [h195]; exact ho51), rel92, rel72, rel56, dis94, dis93, dis75⟩, hK0⟩
 refine OI_eq [(0, pt r), (1, pt l), (2, pt v), (3, nt who), (4, nt of), (6, nt after), (7, nt now), (13, pt b1), (31, .bool true)] (by first | rfl | rw [hg13]) ?_
 refine Ose [(0, pt r), (1, pt l), (2, pt v), (3, nt who), (4, nt of), (6, nt after), (7, nt now), (13, pt b1), (28, .bool true)] ?_
 refine V_true rfl ?_
 refine Vs [(16, nt 0), (17, nt 1)] ?_
 refine V_ret ?_
 refine X_ret_block ?_
 refine X_ret_then ?_
 have hE96 : subE xs cs s ts rs who of after = 1 := subE1 (.inl (by simpa using hg13))
 obtain ⟨h196, h296, h396⟩ := sub_no hE96 (by decide)
 exact X_return (.tuple #[nt 0, nt 1]) rfl ⟨by rw [hE96]; rfl, ⟨H, F, G, (by rw [h396]; exact hR), (by rw [h296]; exact hV), (by rw [h196]; exact hl), hHr, hFr, hGr, hHF, hHG, hFG⟩, hK0⟩
end Go.Al

namespace Go.Al
open Go Go.RowKit Go.Proofs
section
variable {xs : List Acc} {cs : List Ci} {s : VS} {ts : List Trk} {rs : List Rfm} {who of after ref now : Int}
theorem getR_at (h : (getR rs ref).isSome = true) : getR rs ref = some (getA rs ref) := by
  unfold getA
  cases hx : getR rs ref with
  | none => rw [hx] at h; cases h
  | some x => rfl
theorem getA_at (hin : RfIn ts rs) (h : getR rs ref = some (getA rs ref)) : (0 ≤ ref ∧ ref < rs.length) ∧ (0 ≤ (getA rs ref).track ∧ (getA rs ref).track < ts.length) ∧ rs[ref.toNat]? = some (getA rs ref) := by
  obtain ⟨h1, h2, h3, _⟩ := getA_in hin h
  exact ⟨h1, h2, h3⟩
theorem depE_at (h : getR rs ref = some (getA rs ref)) : depE xs cs ts rs who ref = if (getA rs ref).state ≠ 1 then 9 else if (getA rs ref).backer ≠ -1 then 5 else spendsE xs cs who (trkA ts (getA rs ref).track).deposit := by unfold depE; rw [h]
theorem dep_no {k : Int} (h : depE xs cs ts rs who ref = k) (hk : k ≠ 0) : depX xs cs ts rs who ref = xs ∧ depR xs cs ts rs who ref = rs := by
  constructor
  · unfold depX; rw [h, if_neg hk]
  · unfold depR; rw [h, if_neg hk]
theorem dep_go (h : depE xs cs ts rs who ref = 0) : depX xs cs ts rs who ref = resX xs cs who (trkA ts (getA rs ref).track).deposit ∧ depR xs cs ts rs who ref = rs.set ref.toNat { getA rs ref with backer := who } := by
  constructor
  · unfold depX; rw [if_pos h]
  · unfold depR; rw [if_pos h]
end
set_option maxRecDepth 10000 in
set_option maxHeartbeats 1000000 in
theorem deposit_no (H : Nat → Prop) (r g : Nat) (ts : List Trk) (rs : List Rfm) (G : Nat → Prop) (l : Nat) (xs : List Acc) (cs : List Ci) (who ref : Int) (w : World) (hR : Rfr H w r g ts rs) (hl : Led G w l xs cs) (hHG : ∀ q, H q → ¬ G q) (hx : getR rs ref = none) : Calls Tryz.prog 21 #[pt r, pt l, nt who, nt ref] w fun e w' => e = .returned (nt (depE xs cs ts rs who ref)) ∧ (∃ H' G', Rfr H' w' r g ts (depR xs cs ts rs who ref) ∧ Led G' w' l (depX xs cs ts rs who ref) cs ∧ (∀ q, H' q → H q ∨ w.heap.size ≤ q) ∧ (∀ q, G' q → G q ∨ w.heap.size ≤ q) ∧ (∀ q, H' q → ¬ G' q)) ∧ Keep (fun q => q = g ∨ G q) w w' := by
 have hHlt := Rfr.lt hR
 have hrH := Rfr.at_ hR
 have hgH := Rfr.atg hR
 have hrlt := hHlt _ hrH
 have hglt := hHlt _ hgH
 have hin := Rfr.inn hR
 obtain ⟨A, cap, hr, hA, hAo, hrg⟩ := Rfr.parts hR
 have hAlt := SlT.lt hA
 have hAr : ∀ q, inA A q → q ≠ r ∧ q ≠ g ∧ q < w.heap.size := fun q hq => ⟨(hAo q hq).2.1, (hAo q hq).2.2, hAlt q hq⟩
 have hgo : ∀ q, only g q → q ≠ r ∧ q = g := fun q hq => ⟨fun e => hrg (e.symm.trans hq), hq⟩
 have hgl : ∀ q, only g q → q < w.heap.size := fun q hq => by rw [show q = g from hq]; exact hglt
 have hHo : ∀ q, H q → 0 ≤ q := fun q _ => Nat.zero_le q
 have htl := hin.tl
 have hrl := hin.rl
 have hGlt := Led.lt hl
 have hllt := hGlt _ (Led.at_ hl)
 have hlr : ∀ q, G q → q ≠ r := fun q hq e => hHG r hrH (e ▸ hq)
 have hinv := Led.inv hl
 have hHr : ∀ q, H q → H q ∨ w.heap.size ≤ q := fun _ h => .inl h
 have hGr : ∀ q, G q → G q ∨ w.heap.size ≤ q := fun _ h => .inl h
 have hK0 : Keep (fun q => q = g ∨ G q) w w := Keep.refl _ _
 have hzhK0 := Keep.size hK0
 refine enterV Tryz.func21 rfl [pt r, pt l, nt who, nt ref] 59 rfl rfl rfl ?_
 refine Vr ?_
 refine On 1 [0, 1, 2, 3] ?_
 refine Oe ?_
 refine V_seq ?_
 refine Vs [(0, pt r), (1, pt l), (2, nt who), (3, nt ref), (17, .bool false)] ?_
 refine V_false rfl ?_
 refine V_skip ?_
 refine X_then ?_
 refine Vr ?_
 refine On 2 [0, 1, 2, 3, 19, 20] ?_
 refine Ok (kl 23 #[(.tmp 19), (.tmp 20)] #[34, 3]) 23 #[pt r, nt ref] (some 21) (rget_spec H r g ts rs ref _ hR) ?_
 rintro _ w1 ⟨rfl, hk2⟩
 refine ⟨_, rfl, ?_⟩
 have hsz3 := Keep.size hk2
 replace hr := hr.k0 hk2
 replace hA := hA.keep0 hk2
 replace hR := hR.keep hk2 nk
 replace hl := hl.keep hk2 nk
 replace hK0 := hK0.tn hk2
 refine On 6 [0, 1, 2, 3, 22, 23] ?_
 refine OI_alloc 57 (.agg (Rfm.cells Rfm.zero).toArray) (Rfm.cells Rfm.zero) (some 9) (by kernel_rfl) (by kernel_rfl) (by kernel_rfl) ?_
 intro b4 w4 e4 hb4 k4 z4
 have hsz5 := Keep.size k4
 replace hr := hr.k0 k4
 replace hA := hA.keep0 k4
 replace hR := hR.keep k4 nk
 replace hl := hl.keep k4 nk
 replace hK0 := hK0.tn k4
 have hb4lt := hb4.lt
 refine Otg 57 (.tmp 9) (.tmp 22) 0 (Rfm.cells (getA rs ref)) hb4 (Rfm.len _) (Rfm.one _) ?_
 intro w6 hb4_9 hk7 hz8
 replace hb4_9 : Blk w6 b4 (Rfm.cells (getA rs ref)) 57 := (Blk.eqL (Rfm.over _ _) hb4_9)
 have hsz10 := Keep.size hk7
 replace hr := hr.k1 hk7
 replace hA := hA.keep hk7 (fun q hq hs => by have hs : q = b4 := hs; have g0 := hAr q hq; have g1 := hAlt q hq; omega)
 replace hR := hR.keep hk7 (fun q hq hs => by have hs : q = b4 := hs; have g0 := hHo q hq; have g1 := hHlt q hq; omega)
 replace hl := hl.keep hk7 (fun q hq hs => by have hs : q = b4 := hs; have g0 := hlr q hq; have g1 := hGlt q hq; omega)
 replace hK0 := Keep.fr hK0 hk7
 refine On 9 [0, 1, 2, 3, 9, 10] ?_
 refine Oe ?_
 refine V_seq ?_
 refine V_block ?_
 refine Vs [(0, pt r), (1, pt l), (2, nt who), (3, nt ref), (9, pt b4), (24, .bool (!((getR rs ref).isSome)))] ?_
 refine V_eq [(0, pt r), (1, pt l), (2, nt who), (3, nt ref), (9, pt b4), (24, .bool true)] (by rw [hx]; rfl) ?_
 refine V_true rfl ?_
 refine Vs [(8, nt 4)] ?_
 refine V_ret ?_
 refine X_ret_block ?_
 refine X_ret_then ?_
 have hE12 : depE xs cs ts rs who ref = 4 := by unfold depE; rw [hx]
 obtain ⟨h112, h212⟩ := dep_no (xs := xs) hE12 (by decide)
 exact X_return (nt 4) rfl ⟨by rw [hE12], ⟨H, G, (by rw [h212]; exact hR), (by rw [h112]; exact hl), hHr, hGr, hHG⟩, hK0⟩
set_option maxRecDepth 10000 in
set_option maxHeartbeats 1000000 in
theorem deposit_at (H : Nat → Prop) (r g : Nat) (ts : List Trk) (rs : List Rfm) (G : Nat → Prop) (l : Nat) (xs : List Acc) (cs : List Ci) (who ref : Int) (w : World) (hR : Rfr H w r g ts rs) (hl : Led G w l xs cs) (hHG : ∀ q, H q → ¬ G q) (hx : getR rs ref = some (getA rs ref)) : Calls Tryz.prog 21 #[pt r, pt l, nt who, nt ref] w fun e w' => e = .returned (nt (depE xs cs ts rs who ref)) ∧ (∃ H' G', Rfr H' w' r g ts (depR xs cs ts rs who ref) ∧ Led G' w' l (depX xs cs ts rs who ref) cs ∧ (∀ q, H' q → H q ∨ w.heap.size ≤ q) ∧ (∀ q, G' q → G q ∨ w.heap.size ≤ q) ∧ (∀ q, H' q → ¬ G' q)) ∧ Keep (fun q => q = g ∨ G q) w w' := by
 have hHlt := Rfr.lt hR
 have hrH := Rfr.at_ hR
 have hgH := Rfr.atg hR
 have hrlt := hHlt _ hrH
 have hglt := hHlt _ hgH
 have hin := Rfr.inn hR
 obtain ⟨A, cap, hr, hA, hAo, hrg⟩ := Rfr.parts hR
 have hAlt := SlT.lt hA
 have hAr : ∀ q, inA A q → q ≠ r ∧ q ≠ g ∧ q < w.heap.size := fun q hq => ⟨(hAo q hq).2.1, (hAo q hq).2.2, hAlt q hq⟩
 have hgo : ∀ q, only g q → q ≠ r ∧ q = g := fun q hq => ⟨fun e => hrg (e.symm.trans hq), hq⟩
 have hgl : ∀ q, only g q → q < w.heap.size := fun q hq => by rw [show q = g from hq]; exact hglt
 have hHo : ∀ q, H q → 0 ≤ q := fun q _ => Nat.zero_le q
 have htl := hin.tl
 have hrl := hin.rl
 have hGlt := Led.lt hl
 have hllt := hGlt _ (Led.at_ hl)
 have hlr : ∀ q, G q → q ≠ r := fun q hq e => hHG r hrH (e ▸ hq)
 have hinv := Led.inv hl
 have hHr : ∀ q, H q → H q ∨ w.heap.size ≤ q := fun _ h => .inl h
 have hGr : ∀ q, G q → G q ∨ w.heap.size ≤ q := fun _ h => .inl h
 obtain ⟨href, htr, hrat⟩ := getA_at hin hx
 obtain ⟨jt, hjt, hjl, htk, htm⟩ := trkA_at htr
 have hokt := hin.tok _ htm
 have hdep : 0 ≤ (trkA ts (getA rs ref).track).deposit ∧ (trkA ts (getA rs ref).track).deposit ≤ 1073741824 := hokt.2.1
 have hK0 : Keep (fun q => q = g ∨ G q) w w := Keep.refl _ _
 have hzhK0 := Keep.size hK0
 refine enterV Tryz.func21 rfl [pt r, pt l, nt who, nt ref] 59 rfl rfl rfl ?_
 refine Vr ?_
 refine On 1 [0, 1, 2, 3] ?_
 refine Oe ?_
 refine V_seq ?_
 refine Vs [(0, pt r), (1, pt l), (2, nt who), (3, nt ref), (17, .bool false)] ?_
 refine V_false rfl ?_
 refine V_skip ?_
 refine X_then ?_
 refine Vr ?_
 refine On 2 [0, 1, 2, 3, 19, 20] ?_
 refine Ok (kl 23 #[(.tmp 19), (.tmp 20)] #[34, 3]) 23 #[pt r, nt ref] (some 21) (rget_spec H r g ts rs ref _ hR) ?_
 rintro _ w1 ⟨rfl, hk2⟩
 refine ⟨_, rfl, ?_⟩
 have hsz3 := Keep.size hk2
 replace hr := hr.k0 hk2
 replace hA := hA.keep0 hk2
 replace hR := hR.keep hk2 nk
 replace hl := hl.keep hk2 nk
 replace hK0 := hK0.tn hk2
 refine On 6 [0, 1, 2, 3, 22, 23] ?_
 refine OI_alloc 57 (.agg (Rfm.cells Rfm.zero).toArray) (Rfm.cells Rfm.zero) (some 9) (by kernel_rfl) (by kernel_rfl) (by kernel_rfl) ?_
 intro b4 w4 e4 hb4 k4 z4
 have hsz5 := Keep.size k4
 replace hr := hr.k0 k4
 replace hA := hA.keep0 k4
 replace hR := hR.keep k4 nk
 replace hl := hl.keep k4 nk
 replace hK0 := hK0.tn k4
 have hb4lt := hb4.lt
 refine Otg 57 (.tmp 9) (.tmp 22) 0 (Rfm.cells (getA rs ref)) hb4 (Rfm.len _) (Rfm.one _) ?_
 intro w6 hb4_9 hk7 hz8
 replace hb4_9 : Blk w6 b4 (Rfm.cells (getA rs ref)) 57 := (Blk.eqL (Rfm.over _ _) hb4_9)
 have hsz10 := Keep.size hk7
 replace hr := hr.k1 hk7
 replace hA := hA.keep hk7 (fun q hq hs => by have hs : q = b4 := hs; have g0 := hAr q hq; have g1 := hAlt q hq; omega)
 replace hR := hR.keep hk7 (fun q hq hs => by have hs : q = b4 := hs; have g0 := hHo q hq; have g1 := hHlt q hq; omega)
 replace hl := hl.keep hk7 (fun q hq hs => by have hs : q = b4 := hs; have g0 := hlr q hq; have g1 := hGlt q hq; omega)
 replace hK0 := Keep.fr hK0 hk7
 refine On 9 [0, 1, 2, 3, 9, 10] ?_
 refine Oe ?_
 refine V_seq ?_
 refine V_block ?_
 refine Vs [(0, pt r), (1, pt l), (2, nt who), (3, nt ref), (9, pt b4), (24, .bool (!((getR rs ref).isSome)))] ?_
 refine V_eq [(0, pt r), (1, pt l), (2, nt who), (3, nt ref), (9, pt b4), (24, .bool false)] (by rw [hx]; rfl) ?_
 refine V_false rfl ?_
 refine Vr ?_
 refine On 1 [0, 1, 2, 3, 9, 28] ?_
 refine Oc 3 (.tmp 28) 0 (nt ((getA rs ref).state)) (some 29) hb4_9 rfl ?_
 refine Ose [(0, pt r), (1, pt l), (2, nt who), (3, nt ref), (9, pt b4), (27, .bool (!(decide ((getA rs ref).state = 1))))] ?_
 refine V_not ((getA rs ref).state = 1) (by kernel_rfl) (fun hc12 => ?_) (fun hc12 => ?_)
 ·
  refine Vs [(8, nt 9)] ?_
  refine V_ret ?_
  refine X_ret_block ?_
  refine X_ret_then ?_
  have hE13 : depE xs cs ts rs who ref = 9 := by rw [depE_at hx, if_pos hc12]
  obtain ⟨h113, h213⟩ := dep_no (xs := xs) hE13 (by decide)
  exact X_return (nt 9) rfl ⟨by rw [hE13], ⟨H, G, (by rw [h213]; exact hR), (by rw [h113]; exact hl), hHr, hGr, hHG⟩, hK0⟩
 refine Vr ?_
 refine On 1 [0, 1, 2, 3, 9, 32] ?_
 refine Oc 3 (.tmp 32) 38 (nt ((getA rs ref).backer)) (some 33) hb4_9 rfl ?_
 refine Ose [(0, pt r), (1, pt l), (2, nt who), (3, nt ref), (9, pt b4), (31, .bool (!(decide ((getA rs ref).backer = -1))))] ?_
 refine V_not ((getA rs ref).backer = -1) (by kernel_rfl) (fun hc14 => ?_) (fun hc14 => ?_)
 ·
  refine Vs [(8, nt 5)] ?_
  refine V_ret ?_
  refine X_ret_block ?_
  refine X_ret_then ?_
  have hE15 : depE xs cs ts rs who ref = 5 := by rw [depE_at hx, if_neg (fun h => h hc12), if_pos hc14]
  obtain ⟨h115, h215⟩ := dep_no (xs := xs) hE15 (by decide)
  exact X_return (nt 5) rfl ⟨by rw [hE15], ⟨H, G, (by rw [h215]; exact hR), (by rw [h115]; exact hl), hHr, hGr, hHG⟩, hK0⟩
 refine V_skip ?_
 refine X_block ?_
 refine X_then ?_
 refine V_seq ?_
 refine V_seq ?_
 refine Vd (acts [11]) none_ [[0, 1, 2, 3, 4, 5, 6, 7, 8, 9, 10, 11, 12]] ?_
 intro w17 hk16 he18 L hL19
 have hsz20 := Keep.size hk16
 replace hr := hr.k0 hk16
 replace hb4_9 := hb4_9.k0 hk16
 replace hA := hA.keep0 hk16
 replace hR := hR.keep hk16 nk
 replace hl := hl.keep hk16 nk
 replace hK0 := hK0.tn hk16
 have qhr := hr
 have qhb4_9 := hb4_9
 have K21 : Keep none_ w17 w17 := Keep.refl _ _
 obtain rfl := List.mem_singleton.1 hL19
 refine Gn [5, 6, 7, 8, 9, 10, 11, 12] [0, 2, 3, 9, 35, 36, 39] ?_
 refine Gc0 29 (.tmp 39) 0 (.slice A ts.length cap) (some 40) qhr rfl ?_
 refine Gn [7, 8, 9, 10, 11, 12] [0, 2, 3, 9, 35, 36, 40, 41] ?_
 refine Gc0 3 (.tmp 41) 1 (nt ((getA rs ref).track)) (some 42) qhb4_9 rfl ?_
 obtain ⟨b22, o22, L22, T22, rfl, hat22⟩ := SlT.open_ hA (by first | omega | (simp only [List.length_map]; omega) | (simp; done) | (simp; omega))
 have hb22lt := hat22.blk.lt
 have hob23 := hAr b22 ⟨_, rfl, rfl⟩
 have hob24 := hAlt b22 ⟨_, rfl, rfl⟩
 have hne25 : ∀ q, G q → q ≠ b22 := fun q hq hs => (fun q h1 h2 => hHG q (hAo q h2).1 h1) q hq ⟨_, rfl, hs⟩
 have own26 := fun q hq => And.intro (hlr q hq) (hne25 q hq)
 refine Gp_ [(0, pt r), (2, nt who), (3, nt ref), (9, pt b4), (35, pt l), (36, nt who), (40, sl_ b22 o22 ts.length cap), (42, nt ((getA rs ref).track))] ?_
 refine GI_eq [(0, pt r), (2, nt who), (3, nt ref), (9, pt b4), (35, pt l), (36, nt who), (40, sl_ b22 o22 ts.length cap), (42, nt (jt : Int))] (by rw [hjt]) ?_
 refine GI_pure (some 43) (.indexAddr 29 (.tmp 40) (.tmp 42)) (by kernel_rfl) (by kernel_rfl) (pure_idxN (b := b22) (o := o22) (len := ts.length) (cap := cap) (kd := .i64) (j := jt) (E := 27) (sz := 18) (by_ := 144) (by kernel_rfl) (by kernel_rfl) (by kernel_rfl) (by omega)) ?_
 refine Gn [10, 11, 12] [0, 2, 3, 9, 35, 36, 44] ?_
 refine Gc0 3 (.tmp 44) (o22 + jt * 18 + 1) (nt ((trkA ts (getA rs ref).track).deposit)) (some 45) hat22.blk (At.cell hat22 (es_at htk) rfl) ?_
 refine Gk0 (kl 43 #[(.tmp 35), (.tmp 36), (.tmp 45)] #[32, 3, 3]) 43 #[pt l, nt who, nt ((trkA ts (getA rs ref).track).deposit)] (some 46) (reserve_spec G l xs cs who ((trkA ts (getA rs ref).track).deposit) _ hl) ?_
 rintro _ w29 ⟨rfl, ⟨F31, ho32, hfr33⟩, hk30⟩
 refine ⟨_, rfl, ?_⟩
 have hsz34 := Keep.size hk30
 replace hr := hr.keep hk30 (fun hs => by have h1 := own26 _ hs; have h2 := hGlt _ hs; omega)
 replace hb4_9 := hb4_9.keep hk30 (fun hs => by have h1 := own26 _ hs; have h2 := hGlt _ hs; omega)
 replace hat22 := hat22.keep hk30 (fun hs => by have h1 := own26 _ hs; have h2 := hGlt _ hs; omega)
 replace hR := hR.keep hk30 (fun q hq hs => (fun q h1 h2 => hHG q h2 h1) q hs hq)
 replace hK0 := Keep.fresh hK0 hk30 (fun i hi hs => by rcases hGr i hs with h | h; exact .inr <| h; (exfalso; omega))
 have own36 : ∀ q, F31 q → q ≠ r ∧ q ≠ r ∧ q ≠ b4 := fun q hq => by rcases hfr33 q hq with h | h; (have h1 := own26 q h; have h2 := hGlt q h; omega); omega
 have lt35 := Led.lt ho32
 have rel37 : ∀ q, F31 q → G q ∨ w.heap.size ≤ q := fun q hq => by rcases hfr33 q hq with h | h; exact hGr q h; exact .inr (by omega)
 have dis38 : ∀ q, F31 q → ¬ H q := fun q h1 h2 => by rcases hfr33 q h1 with h | h; exact (fun q h1 h2 => hHG q h2 h1) q h h2; (have h4 := hHlt q h2; omega)
 refine Gn [] [0, 2, 3, 9, 11] ?_
 refine GI_end ?_
 refine X_then ?_
 refine Vs [(0, pt r), (2, nt who), (3, nt ref), (9, pt b4), (11, nt (spendsE xs cs who ((trkA ts (getA rs ref).track).deposit))), (48, .bool (!(decide (spendsE xs cs who ((trkA ts (getA rs ref).track).deposit) = 0))))] ?_
 refine V_not (spendsE xs cs who ((trkA ts (getA rs ref).track).deposit) = 0) (by kernel_rfl) (fun hc39 => ?_) (fun hc39 => ?_)
 ·
  refine Vs [(8, nt (spendsE xs cs who ((trkA ts (getA rs ref).track).deposit)))] ?_
  refine V_ret ?_
  refine X_ret_then ?_
  have hE40 : depE xs cs ts rs who ref = (spendsE xs cs who ((trkA ts (getA rs ref).track).deposit)) := by rw [depE_at hx, if_neg (fun h => h hc12), if_neg (fun h => h hc14)]
  obtain ⟨h140, h240⟩ := dep_no (xs := xs) hE40 (hc39)
  exact X_return (nt (spendsE xs cs who ((trkA ts (getA rs ref).track).deposit))) rfl ⟨by rw [hE40], ⟨H, F31, (by rw [h240]; exact hR), (by rw [show depX xs cs ts rs who ref = resX xs cs who (trkA ts (getA rs ref).track).deposit from h140.trans (by unfold resX; rw [if_neg (hc39)])]; exact ho32), hHr, rel37, (fun q h1 h2 => dis38 q h2 h1)⟩, hK0⟩
 refine V_skip ?_
 refine X_then ?_
 refine Vr ?_
 refine Os 2 [(0, pt r), (3, nt ref), (9, pt b4), (50, nt who), (51, po_ b4 38)] ?_
 refine Ot 3 (.tmp 51) (.tmp 50) 38 (nt who) hb4_9 ?_
 intro w41 hb4_44 hk42 hz43
 replace hb4_44 : Blk w41 b4 (Rfm.cells { (getA rs ref) with backer := who }) 57 := (Blk.eqL (by kernel_rfl) hb4_44)
 have hsz45 := Keep.size hk42
 replace hr := hr.k1 hk42
 replace hat22 := hat22.keep hk42 (by show ¬ (_ = _); omega)
 replace hR := hR.keep hk42 (fun q hq hs => by have hs : q = b4 := hs; have g0 := hHo q hq; have g1 := hHlt q hq; omega)
 replace hK0 := Keep.fr hK0 hk42
 replace ho32 := ho32.keep hk42 (fun q hq hs => by have hs : q = b4 := hs; have g0 := own36 q hq; have g1 := lt35 q hq; omega)
 refine Oe ?_
 refine V_seq ?_
 refine Vd (acts [6]) none_ [[0, 1, 2, 3, 4, 5, 6]] ?_
 intro w47 hk46 he48 L hL49
 have hsz50 := Keep.size hk46
 replace hr := hr.k0 hk46
 replace hb4_44 := hb4_44.k0 hk46
 replace hat22 := hat22.keep hk46 id
 replace hR := hR.keep hk46 nk
 replace hK0 := hK0.tn hk46
 replace ho32 := ho32.keep hk46 nk
 have qhr := hr
 have qhb4_44 := hb4_44
 have qhat22 := hat22
 have K51 : Keep none_ w47 w47 := Keep.refl _ _
 obtain rfl := List.mem_singleton.1 hL49
 refine Gn [3, 4, 5, 6] [3, 9, 54] ?_
 refine Gc0 95 (.tmp 54) 1 (pt g) (some 55) qhr rfl ?_
 refine Gn [5, 6] [9, 55, 56] ?_
 refine Ga 57 (.tmp 9) 0 (Rfm.cells { (getA rs ref) with backer := who }) (some 57) 45 qhb4_44 id (take_all (Rfm.len _)) (Rfm.len _) ?_
 refine GI_final 6 (by kernel_rfl) (by kernel_rfl) ?_
 refine Ok (kl 45 #[(.tmp 55), (.const (nt 0)), (.tmp 56), (.tmp 57)] #[95, 3, 3, 57]) 45 #[pt g, nt 0, nt ref, .agg (Rfm.cells { (getA rs ref) with backer := who }).toArray] (some 58) (rset_spec H r g ts rs ref ({ (getA rs ref) with backer := who }) _ hR href htr) ?_
 rintro _ w54 ⟨rfl, ⟨H56, hR57, hfr58⟩, hk55⟩
 refine ⟨_, rfl, ?_⟩
 have hsz59 := Keep.size hk55
 replace hr := hr.keep hk55 (fun hs => by have h1 := hgo _ hs; have h2 := hgl _ hs; omega)
 replace hb4_44 := hb4_44.keep hk55 (fun hs => by have h1 := hgo _ hs; have h2 := hgl _ hs; omega)
 replace hat22 := hat22.keep hk55 (fun hs => by have h1 := hgo _ hs; have h2 := hgl _ hs; omega)
 replace hK0 := Keep.fresh hK0 hk55 (by intro i hi hs; first | exact hs | (exfalso; have h1 := hgo i hs; have h2 := hgl i hs; omega) | (have h1 := hgo i hs; have h2 := hgl i hs; show _ ∨ _; omega))
 replace ho32 := ho32.keep hk55 (fun q hq hs => (fun q h1 h2 => (fun q h1 h2 => dis38 q h2 h1) q (by rw [show q = g from h1]; exact hgH) h2) q hs hq)
 have own61 : ∀ q, H56 q → 0 ≤ q ∧ q ≠ b4 := fun q hq => by rcases hfr58 q hq with h | h; (have h1 := hHo q h; have h2 := hHlt q h; omega); omega
 have lt60 := Rfr.lt hR57
 have rel62 : ∀ q, H56 q → H q ∨ w.heap.size ≤ q := fun q hq => by rcases hfr58 q hq with h | h; exact hHr q h; exact .inr (by omega)
 have dis63 : ∀ q, H56 q → ¬ F31 q := fun q h1 h2 => by rcases hfr58 q h1 with h | h; exact (fun q h1 h2 => dis38 q h2 h1) q h h2; (have h4 := lt35 q h2; omega)
 refine Oer ?_
 refine Ose [(8, nt 0)] ?_
 refine V_ret ?_
 have hE64 : depE xs cs ts rs who ref = 0 := by rw [depE_at hx, if_neg (fun h => h hc12), if_neg (fun h => h hc14)]; exact hc39
 obtain ⟨h164, h264⟩ := dep_go hE64
 exact X_return (nt 0) rfl ⟨by rw [hE64], ⟨H56, F31, (by rw [h264]; exact hR57), (by rw [h164]; exact ho32), rel62, rel37, dis63⟩, hK0⟩
theorem deposit_spec (H : Nat → Prop) (r g : Nat) (ts : List Trk) (rs : List Rfm) (G : Nat → Prop) (l : Nat) (xs : List Acc) (cs : List Ci) (who ref : Int) (w : World) (hR : Rfr H w r g ts rs) (hl : Led G w l xs cs) (hHG : ∀ q, H q → ¬ G q) : Calls Tryz.prog 21 #[pt r, pt l, nt who, nt ref] w fun e w' => e = .returned (nt (depE xs cs ts rs who ref)) ∧ (∃ H' G', Rfr H' w' r g ts (depR xs cs ts rs who ref) ∧ Led G' w' l (depX xs cs ts rs who ref) cs ∧ (∀ q, H' q → H q ∨ w.heap.size ≤ q) ∧ (∀ q, G' q → G q ∨ w.heap.size ≤ q) ∧ (∀ q, H' q → ¬ G' q)) ∧ Keep (fun q => q = g ∨ G q) w w' := by
  cases hx : getR rs ref with
  | none => exact deposit_no H r g ts rs G l xs cs who ref w hR hl hHG hx
  | some x => exact deposit_at H r g ts rs G l xs cs who ref w hR hl hHG (getR_at (by rw [hx]; rfl))
end Go.Al

namespace Go.Al
open Go Go.RowKit Go.Proofs
theorem SlT.take {α : Type} {w : World} {sz cap : Nat} {f : α → List Value} {A : Option Addr} {xs : List α} (h : SlT w sz f A cap xs) (n : Nat) : SlT w sz f A cap (xs.take n) := by
  rcases h with ⟨h1, h2, h3⟩ | ⟨b, o, L, T, h1, h2, h3, h4, h5, h6⟩
  · refine .inl ⟨h1, h2, ?_⟩
    rw [List.map_take, h3, List.take_nil]
  · refine .inr ⟨b, o, L, T, h1, h2, ?_, h4, ?_, fun e he => h6 e ?_⟩
    · rw [List.length_map, List.length_take]; rw [List.length_map] at h3; omega
    · rw [List.map_take, ← flatten_take h6 n, ← h5, List.take_take, List.length_take]
      congr 1
      rcases Nat.le_total n (xs.map f).length with hn | hn
      · rw [Nat.min_eq_left hn, Nat.min_eq_left (Nat.mul_le_mul_right _ hn)]
      · rw [Nat.min_eq_right hn, Nat.min_eq_right (Nat.mul_le_mul_right _ hn)]
    · rw [List.map_take] at he; exact List.mem_of_mem_take he
section
variable {ts : List Trk} {rs : List Rfm} {now : Int} {s : VS}
theorem setN_len (rs : List Rfm) (ref : Int) : (setN now rs ref).length = rs.length := by unfold setN; rw [List.length_set]
theorem setsN_len : ∀ (l : List Int) (rs : List Rfm), (l.foldl (setN now) rs).length = rs.length
  | [], _ => rfl
  | x :: l, rs => by rw [List.foldl_cons, setsN_len l, setN_len]
theorem setsN_step {l : List Int} {i : Nat} {x : Int} (h : l[i]? = some x) : (l.take (i + 1)).foldl (setN now) rs = setN now ((l.take i).foldl (setN now) rs) x := by
  obtain ⟨h1, rfl⟩ := List.getElem?_eq_some_iff.1 h
  rw [List.take_succ_eq_append_getElem h1, List.foldl_append]; rfl
theorem begN (ts : List Trk) (rs : List Rfm) (j : Nat) (now : Int) : ∃ n : Nat, imin (((waitL ts (j : Int) now 0 rs).length : Nat) : Int) (imax ((trkA ts (j : Int)).most - decN (j : Int) rs) 0) = n ∧ n ≤ (waitL ts (j : Int) now 0 rs).length := by
  refine ⟨(imin (((waitL ts (j : Int) now 0 rs).length : Nat) : Int) (imax ((trkA ts (j : Int)).most - decN (j : Int) rs) 0)).toNat, ?_, ?_⟩ <;> unfold imin imax <;> split <;> split <;> omega
theorem getA_len {i : Int} (hr : 0 ≤ i ∧ i < rs.length) : getR rs i = some (getA rs i) := by
  refine getR_at ?_
  unfold getR
  rw [if_pos hr, List.getElem?_eq_getElem (by omega)]; rfl
end
set_option maxRecDepth 10000 in
set_option maxHeartbeats 2000000 in
theorem begins_spec (H : Nat → Prop) (r g : Nat) (ts : List Trk) (rs : List Rfm) (F : Nat → Prop) (v : Nat) (s : VS) (j : Nat) (now : Int) (w : World) (hR : Rfr H w r g ts rs) (hV : VotT F w v s) (hHF : ∀ q, H q → ¬ F q) (hj : j < ts.length) : Calls Tryz.prog 49 #[pt r, pt v, nt (j : Int), nt now] w fun e w' => e = .returned (.tuple #[]) ∧ (∃ H', Rfr H' w' r g ts (begR ts s now rs (j : Int)) ∧ (∀ q, H' q → H q ∨ w.heap.size ≤ q)) ∧ Keep (only g) w w' := by
 have hHlt := Rfr.lt hR
 have hrH := Rfr.at_ hR
 have hgH := Rfr.atg hR
 have hrlt := hHlt _ hrH
 have hglt := hHlt _ hgH
 have hin := Rfr.inn hR
 obtain ⟨A, cap, hr, hA, hAo, hrg⟩ := Rfr.parts hR
 have hAlt := SlT.lt hA
 have hAr : ∀ q, inA A q → q ≠ r ∧ q ≠ g ∧ q < w.heap.size := fun q hq => ⟨(hAo q hq).2.1, (hAo q hq).2.2, hAlt q hq⟩
 have hgo : ∀ q, only g q → q ≠ r ∧ q = g := fun q hq => ⟨fun e => hrg (e.symm.trans hq), hq⟩
 have hgl : ∀ q, only g q → q < w.heap.size := fun q hq => by rw [show q = g from hq]; exact hglt
 have hHo : ∀ q, H q → 0 ≤ q := fun q _ => Nat.zero_le q
 have htl := hin.tl
 have hrl := hin.rl
 have hFlt := VotT.lt hV
 have hvlt := hFlt _ (VotT.at_ hV)
 have hVr : ∀ q, F q → q ≠ r := fun q hq e => hHF r hrH (e ▸ hq)
 have hHr : ∀ q, H q → H q ∨ w.heap.size ≤ q := fun _ h => .inl h
 obtain ⟨j9, hjj, _, htk, htm⟩ := trkA_at (ts := ts) (i := (j : Int)) (by omega)
 rw [show j9 = j by omega] at htk
 have hokt := hin.tok _ htm
 have hmost := hokt.1
 have hK0 : Keep (only g) w w := Keep.refl _ _
 have hzhK0 := Keep.size hK0
 refine enterV Tryz.func49 rfl [pt r, pt v, nt (j : Int), nt now] 59 rfl rfl rfl ?_
 refine Vr ?_
 refine Os 4 [(0, pt r), (2, nt (j : Int)), (3, nt now), (15, pt r), (16, pt v), (17, nt (j : Int)), (18, nt now)] ?_
 refine Ok (kl 103 #[(.tmp 15), (.tmp 16), (.tmp 17), (.tmp 18)] #[34, 33, 3, 3]) 103 #[pt r, pt v, nt (j : Int), nt now] (some 19) (waits_spec H r g ts rs F v s j now _ hR hV hHF hj) ?_
 rintro _ w1 ⟨A3, cap3, rfl, hA3, ow3, hk2⟩
 refine ⟨_, rfl, ?_⟩
 have hsz4 := Keep.size hk2
 replace hr := hr.k0 hk2
 replace hA := hA.keep0 hk2
 replace hR := hR.keep hk2 nk
 replace hK0 := hK0.tn hk2
 have hwl9 := waitL_len (ts := ts) (of := (j : Int)) (now := now) rs 0
 have hdn9 := decN_bnd (of := (j : Int)) rs
 have hsl9 := sortD_len (fun r => (tallyT s r).a) (waitL ts (j : Int) now 0 rs)
 obtain ⟨nb9, hnb9, hnl9⟩ := begN ts rs j now
 have hcp9 := SlT.cap_le hA3
 replace hA3 := hA3.take nb9
 have ltA3 := SlT.lt hA3
 have htl9 : ((sortD (fun r => (tallyT s r).a) (waitL ts (j : Int) now 0 rs)).take nb9).length = nb9 := by rw [List.length_take, hsl9]; omega
 generalize hls9 : (sortD (fun r => (tallyT s r).a) (waitL ts (j : Int) now 0 rs)).take nb9 = ls at hA3 htl9
 refine On 10 [0, 2, 3, 8, 9] ?_
 refine Oer ?_
 refine On 6 [0, 2, 3, 9, 22, 24, 27] ?_
 refine Oc 29 (.tmp 27) 0 (.slice A ts.length cap) (some 28) hr rfl ?_
 refine On 8 [0, 3, 9, 22, 24, 28, 29] ?_
 obtain ⟨b5, o5, L5, T5, rfl, hat5⟩ := SlT.open_ hA (by first | omega | (simp only [List.length_map]; omega) | (simp; done) | (simp; omega))
 have hb5lt := hat5.blk.lt
 have hob6 := hAr b5 ⟨_, rfl, rfl⟩
 have hob7 := hAlt b5 ⟨_, rfl, rfl⟩
 refine Oi (b := b5) (o := o5) (len := ts.length) (cap := cap) (j := j) (some 30) 29 (.tmp 28) (.tmp 29) 27 18 144 .i64 ?_
 refine On 10 [0, 3, 9, 22, 24, 31] ?_
 refine Oc 3 (.tmp 31) (o5 + j * 18) (nt ((trkA ts (j : Int)).most)) (some 32) hat5.blk (At.cell0 hat5 (es_at htk) rfl) ?_
 have hw8 : IntKind.i64.wrap (((trkA ts (j : Int)).most) - (decN (j : Int) rs)) = ((trkA ts (j : Int)).most) - (decN (j : Int) rs) := (wrap64_id (by omega) (by omega)).trans (by omega)
 refine Os 13 [(0, pt r), (3, nt now), (22, .slice A3 ((waitL ts (j : Int) now 0 rs).length) cap3), (24, nt (((waitL ts (j : Int) now 0 rs).length : Nat) : Int)), (34, nt (IntKind.i64.wrap (((trkA ts (j : Int)).most) - (decN (j : Int) rs))))] ?_
 refine Oq (u := nt (IntKind.i64.wrap (((trkA ts (j : Int)).most) - (decN (j : Int) rs)))) (v := nt (((trkA ts (j : Int)).most) - (decN (j : Int) rs))) 34 (by rw [hw8]) ?_
 refine On 15 [0, 3, 22, 36] ?_
 refine Op_ [(0, pt r), (3, nt now), (22, .slice A3 ((waitL ts (j : Int) now 0 rs).length) cap3), (36, nt (imin (((waitL ts (j : Int) now 0 rs).length : Nat) : Int) (imax (((trkA ts (j : Int)).most) - (decN (j : Int) rs)) 0)))] ?_
 refine Oq (u := nt (imin (((waitL ts (j : Int) now 0 rs).length : Nat) : Int) (imax (((trkA ts (j : Int)).most) - (decN (j : Int) rs)) 0))) (v := nt (nb9 : Int)) 36 (by rw [show imin (((waitL ts (j : Int) now 0 rs).length : Nat) : Int) (imax (((trkA ts (j : Int)).most) - (decN (j : Int) rs)) 0) = (nb9 : Int) from hnb9]) ?_
 refine OI_pure (some 37) ((Op.slice 72 (Operand.tmp 22) none (some (Operand.tmp 36)) none)) (by kernel_rfl) (pure_sliceTo (E := 3) (sz := 1) (by_ := 8) (base := A3) (len := (waitL ts (j : Int) now 0 rs).length) (cap := cap3) (h := nb9) (kd := .i64) (by kernel_rfl) (by kernel_rfl) (by kernel_rfl) (by omega)) ?_
 refine Ose [(0, pt r), (3, nt now), (37, .slice A3 nb9 cap3), (38, nt (nb9 : Int)), (39, nt 0)] ?_
 refine V_block ?_
 refine V_pick [(0, pt r), (3, nt now), (37, .slice A3 nb9 cap3), (38, nt (nb9 : Int)), (39, nt 0)] rfl ?_
 refine V_loop (fun k wI e => ∃ i : Nat, ∃ Hi : Nat → Prop, (k + i = nb9) ∧ (Rfr Hi wI r g ts ((ls.take i).foldl (setN now) rs)) ∧ (∀ q, Hi q → 0 ≤ q) ∧ (∀ q, Hi q → H q ∨ w.heap.size ≤ q) ∧ Keep (only g) w1 wI ∧ e = [(0, pt r), (3, nt now), (37, .slice A3 nb9 cap3), (38, nt (nb9 : Int)), (39, nt (i : Int))]) nb9 ⟨0, H, by omega, hR, (fun q _ => Nat.zero_le q), hHr, Keep.refl _ _, rfl⟩ ?_
 rintro k10 w9 _ ⟨i, Hi, hki, hRi, hHio, hHifr, hk11, rfl⟩
 have hsz12 := Keep.size hk11
 replace hr := hr.keep hk11 (fun hs => by have h1 := hgo _ hs; have h2 := hgl _ hs; omega)
 replace hat5 := hat5.keep hk11 (fun hs => by have h1 := hgo _ hs; have h2 := hgl _ hs; omega)
 replace hA3 := hA3.keep hk11 (fun q hq hs => by have g0 := ow3 q hq; have g1 := ltA3 q hq; have h1 := hgo q hs; have h2 := hgl q hs; omega)
 replace hK0 := Keep.fresh hK0 hk11 (by intro i hi hs; first | exact hs | (exfalso; have h1 := hgo i hs; have h2 := hgl i hs; omega) | (have h1 := hgo i hs; have h2 := hgl i hs; show _ ∨ _; omega))
 have hzhk11 := Keep.size hk11
 have lt13 := Rfr.lt hRi
 have hsn := setsN_len (now := now) (ls.take i) rs
 refine Vs [(0, pt r), (3, nt now), (37, .slice A3 nb9 cap3), (38, nt (nb9 : Int)), (39, nt (i : Int)), (40, .bool (decide ((i : Int) < (nb9 : Int))))] ?_
 refine V_seq ?_
 refine V_if ((i : Int) < (nb9 : Int)) (by kernel_rfl) (fun hc14 => ?_) (fun hc14 => ?_)
 ·
  refine V_skip ?_
  refine X_then ?_
  refine V_seq ?_
  refine V_block ?_
  refine Vr ?_
  obtain ⟨b15, o15, L15, T15, rfl, hat15⟩ := SlT.open_ hA3 (by first | omega | (simp only [List.length_map]; omega) | (simp; done) | (simp; omega))
  have hb15lt := hat15.blk.lt
  have hob16 := ow3 b15 ⟨_, rfl, rfl⟩
  have hob17 := ltA3 b15 ⟨_, rfl, rfl⟩
  refine Oi (b := b15) (o := o15) (len := nb9) (cap := cap3) (j := i) (some 41) 72 (.tmp 37) (.tmp 39) 3 1 8 .i64 ?_
  obtain ⟨x18, hx19⟩ : ∃ x, ls[i]? = some x := ⟨_, List.getElem?_eq_getElem (by first | omega | (simp only [List.length_map]; omega))⟩
  have hmx : 0 ≤ x18 ∧ x18 < (rs.length : Int) := by have h1 := List.mem_of_getElem? hx19; rw [← hls9] at h1; have h2 := waitL_mem (sortD_mem (List.mem_of_mem_take h1)); omega
  have hmg := getA_len (rs := (ls.take i).foldl (setN now) rs) (i := x18) (by omega)
  have hmt := (getA_at (Rfr.inn hRi) hmg).2.1
  refine Oc 3 (.tmp 41) (o15 + i * 1) (nt x18) (some 42) hat15.blk (At.cell0 hat15 (es_at hx19) rfl) ?_
  refine On 3 [0, 3, 11, 37, 38, 39] ?_
  refine Oer ?_
  refine On 2 [0, 3, 11, 37, 38, 39, 44, 45] ?_
  refine Ok (kl 23 #[(.tmp 44), (.tmp 45)] #[34, 3]) 23 #[pt r, nt x18] (some 46) (rget_spec Hi r g ts ((ls.take i).foldl (setN now) rs) x18 _ hRi) ?_
  rintro _ w22 ⟨rfl, hk23⟩
  refine ⟨_, rfl, ?_⟩
  have hsz24 := Keep.size hk23
  replace hr := hr.k0 hk23
  replace hat5 := hat5.keep hk23 id
  replace hat15 := hat15.keep hk23 id
  replace hK0 := hK0.tn hk23
  replace hk11 := hk11.tn hk23
  replace hRi := hRi.keep hk23 nk
  refine On 6 [0, 3, 11, 37, 38, 39, 47, 48] ?_
  refine OI_alloc 57 (.agg (Rfm.cells Rfm.zero).toArray) (Rfm.cells Rfm.zero) (some 12) (by kernel_rfl) (by kernel_rfl) (by kernel_rfl) ?_
  intro b25 w25 e25 hb25 k25 z25
  have hsz26 := Keep.size k25
  replace hr := hr.k0 k25
  replace hat5 := hat5.keep k25 id
  replace hat15 := hat15.keep k25 id
  replace hK0 := hK0.tn k25
  replace hk11 := hk11.tn k25
  replace hRi := hRi.keep k25 nk
  have hb25lt := hb25.lt
  refine Otg 57 (.tmp 12) (.tmp 47) 0 (Rfm.cells (getA ((ls.take i).foldl (setN now) rs) x18)) hb25 (Rfm.len _) (Rfm.one _) ?_
  intro w27 hb25_30 hk28 hz29
  replace hb25_30 : Blk w27 b25 (Rfm.cells (getA ((ls.take i).foldl (setN now) rs) x18)) 57 := (Blk.eqL (Rfm.over _ _) hb25_30)
  have hsz31 := Keep.size hk28
  replace hr := hr.k1 hk28
  replace hat5 := hat5.keep hk28 (by show ¬ (_ = _); omega)
  replace hat15 := hat15.keep hk28 (by show ¬ (_ = _); omega)
  replace hK0 := Keep.fr hK0 hk28
  replace hk11 := Keep.fr hk11 hk28
  replace hRi := hRi.keep hk28 (fun q hq hs => by have hs : q = b25 := hs; have g0 := hHio q hq; have g1 := lt13 q hq; omega)
  refine On 9 [0, 3, 11, 12, 37, 38, 39] ?_
  refine Oer ?_
  refine Os 2 [(0, pt r), (3, nt now), (11, nt x18), (12, pt b25), (37, sl_ b15 o15 nb9 cap3), (38, nt (nb9 : Int)), (39, nt (i : Int)), (49, nt now), (50, po_ b25 39)] ?_
  refine Ot 3 (.tmp 50) (.tmp 49) 39 (nt now) hb25_30 ?_
  intro w32 hb25_35 hk33 hz34
  replace hb25_35 : Blk w32 b25 (Rfm.cells { (getA ((ls.take i).foldl (setN now) rs) x18) with since := now }) 57 := (Blk.eqL (by kernel_rfl) hb25_35)
  have hsz36 := Keep.size hk33
  replace hr := hr.k1 hk33
  replace hat5 := hat5.keep hk33 (by show ¬ (_ = _); omega)
  replace hat15 := hat15.keep hk33 (by show ¬ (_ = _); omega)
  replace hK0 := Keep.fr hK0 hk33
  replace hk11 := Keep.fr hk11 hk33
  replace hRi := hRi.keep hk33 (fun q hq hs => by have hs : q = b25 := hs; have g0 := hHio q hq; have g1 := lt13 q hq; omega)
  refine Oe ?_
  refine V_draws (acts [6]) none_ [[0, 1, 2, 3, 4, 5, 6]] (by kernel_rfl) (by repeat first | exact (by first | exact sure_body (by rintro _ _ ⟨_, _, h, _⟩; exact ⟨_, h⟩) | exact sure_body (by rintro _ _ ⟨h, _⟩; exact ⟨_, h⟩)) | refine sure_then ?_ | refine sure_block ?_ | refine sure_join ?_) (by kernel_rfl) ?_
  intro w38 hk37 he39 L hL40
  have hsz41 := Keep.size hk37
  replace hr := hr.k0 hk37
  replace hb25_35 := hb25_35.k0 hk37
  replace hat5 := hat5.keep hk37 id
  replace hat15 := hat15.keep hk37 id
  replace hK0 := hK0.tn hk37
  replace hk11 := hk11.tn hk37
  replace hRi := hRi.keep hk37 nk
  have qhr := hr
  have qhb25_35 := hb25_35
  have qhat5 := hat5
  have qhat15 := hat15
  have K42 : Keep none_ w38 w38 := Keep.refl _ _
  obtain rfl := List.mem_singleton.1 hL40
  refine Gn [3, 4, 5, 6] [0, 3, 11, 12, 37, 38, 39, 53] ?_
  refine Gc0 95 (.tmp 53) 1 (pt g) (some 54) qhr rfl ?_
  refine Gs [5, 6] [(0, pt r), (3, nt now), (12, pt b25), (37, sl_ b15 o15 nb9 cap3), (38, nt (nb9 : Int)), (39, nt (i : Int)), (54, pt g), (55, nt x18)] ?_
  refine Ga 57 (.tmp 12) 0 (Rfm.cells { (getA ((ls.take i).foldl (setN now) rs) x18) with since := now }) (some 56) 45 qhb25_35 id (take_all (Rfm.len _)) (Rfm.len _) ?_
  refine GI_final 6 (by kernel_rfl) (by kernel_rfl) ?_
  refine Ok (kl 45 #[(.tmp 54), (.const (nt 0)), (.tmp 55), (.tmp 56)] #[95, 3, 3, 57]) 45 #[pt g, nt 0, nt x18, .agg (Rfm.cells { (getA ((ls.take i).foldl (setN now) rs) x18) with since := now }).toArray] (some 57) (rset_spec Hi r g ts ((ls.take i).foldl (setN now) rs) x18 ({ (getA ((ls.take i).foldl (setN now) rs) x18) with since := now }) _ hRi (by omega) hmt) ?_
  rintro _ w47 ⟨rfl, ⟨H49, hR50, hfr51⟩, hk48⟩
  refine ⟨_, rfl, ?_⟩
  have hsz52 := Keep.size hk48
  replace hr := hr.keep hk48 (fun hs => by have h1 := hgo _ hs; have h2 := hgl _ hs; omega)
  replace hb25_35 := hb25_35.keep hk48 (fun hs => by have h1 := hgo _ hs; have h2 := hgl _ hs; omega)
  replace hat5 := hat5.keep hk48 (fun hs => by have h1 := hgo _ hs; have h2 := hgl _ hs; omega)
  replace hat15 := hat15.keep hk48 (fun hs => by have h1 := hgo _ hs; have h2 := hgl _ hs; omega)
  replace hK0 := Keep.fresh hK0 hk48 (by intro i hi hs; first | exact hs | (exfalso; have h1 := hgo i hs; have h2 := hgl i hs; omega) | (have h1 := hgo i hs; have h2 := hgl i hs; show _ ∨ _; omega))
  replace hk11 := Keep.fresh hk11 hk48 (by intro i hi hs; first | exact hs | (exfalso; have h1 := hgo i hs; have h2 := hgl i hs; omega) | (have h1 := hgo i hs; have h2 := hgl i hs; show _ ∨ _; omega))
  have own54 : ∀ q, H49 q → 0 ≤ q ∧ q ≠ b25 := fun q hq => by rcases hfr51 q hq with h | h; (have h1 := hHio q h; have h2 := lt13 q h; omega); omega
  have lt53 := Rfr.lt hR50
  have rel55 : ∀ q, H49 q → H q ∨ w.heap.size ≤ q := fun q hq => by rcases hfr51 q hq with h | h; exact hHifr q h; exact .inr (by omega)
  refine OI_end rfl ?_
  refine X_block ?_
  refine X_then ?_
  refine V_region ?_
  have hw56 : IntKind.i64.wrap ((i : Int) + 1) = ((i + 1 : Nat) : Int) := (wrap64_id (by omega) (by omega)).trans (by omega)
  refine Os 1 [(0, pt r), (3, nt now), (37, sl_ b15 o15 nb9 cap3), (38, nt (nb9 : Int)), (58, nt (IntKind.i64.wrap ((i : Int) + 1)))] ?_
  refine Oq (u := nt (IntKind.i64.wrap ((i : Int) + 1))) (v := nt ((i + 1 : Nat) : Int)) 58 (by rw [hw56]) ?_
  refine Os 2 [(0, pt r), (3, nt now), (37, sl_ b15 o15 nb9 cap3), (38, nt (nb9 : Int)), (39, nt ((i + 1 : Nat) : Int))] ?_
  refine OI_end rfl ?_
  exact V_again (k10 - 1) (by omega) [(0, pt r), (3, nt now), (37, sl_ b15 o15 nb9 cap3), (38, nt (nb9 : Int)), (39, nt ((i + 1 : Nat) : Int))] rfl ⟨i + 1, H49, by omega, by rw [setsN_step hx19]; exact hR50, (fun q hq => by have h1 := own54 q hq; omega), rel55, hk11, rfl⟩
 refine V_exit ?_
 refine X_exit_then ?_
 refine X_exit_then ?_
 refine X_exit_here ?_
 have hie : i = nb9 := by omega
 have hfin : begR ts s now rs (j : Int) = (ls.take i).foldl (setN now) rs := by unfold begR begL; rw [hnb9, Int.toNat_natCast, hls9, hie, List.take_of_length_le (by omega)]
 exact X_end _ rfl ⟨rfl, ⟨Hi, (by rw [hfin]; exact hRi), hHifr⟩, hK0⟩
end Go.Al
