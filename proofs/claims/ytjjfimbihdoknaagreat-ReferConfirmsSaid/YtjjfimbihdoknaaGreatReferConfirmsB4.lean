/-
  Put together out of 11 texts: Walks of package conv. What a voting holds, and where. Walks of package voting: a poll, a record. Walks of package voting: Open, Close, Tally. Walks of package voting: an account's votes in a track. Walks of package voting: an account's votes in a track: the way. Walks 
-/
import Derived.Test.YtjjfimbihdoknaaGreatReferConfirmsB3
namespace Go.Al
open Go Go.RowKit Go.Proofs
set_option maxRecDepth 10000 in
theorem cvIn_spec (n lo hi : Int) (w : World) : Calls Tryz.prog 107 #[nt n, nt lo, nt hi] w fun e w' => e = .returned (.bool (decide (lo ≤ n ∧ n ≤ hi))) ∧ w' = w := by
 refine enterV Tryz.func107 rfl [nt n, nt lo, nt hi] 15 rfl rfl rfl ?_
 refine Vr ?_
 refine On 1 [0, 1, 2] ?_
 refine Oer ?_
 refine Os 4 [(0, nt n), (2, nt hi), (10, .bool (decide (n ≥ lo)))] ?_
 by_cases hg1 : n ≥ lo
 ·
  refine OI_eq [(0, nt n), (2, nt hi), (10, .bool true)] (by first | simp [hg1] | rfl) ?_
  refine Ose [(6, .bool (decide (n ≤ hi)))] ?_
  refine V_ret ?_
  exact X_return (.bool (decide (n ≤ hi))) rfl ⟨by congr 2; simp only [Bool.decide_and]; by_cases h1 : lo ≤ n <;> simp [h1] <;> omega, rfl⟩
 refine OI_eq [(0, nt n), (2, nt hi), (10, .bool false)] (by first | simp [hg1] | rfl) ?_
 refine Ose [(6, .bool false)] ?_
 refine V_ret ?_
 exact X_return (.bool false) rfl ⟨by congr 2; simp only [Bool.decide_and]; by_cases h1 : lo ≤ n <;> simp [h1] <;> omega, rfl⟩
set_option maxRecDepth 10000 in
theorem isCapital_spec (A : Option Addr) (cap : Nat) (xs : List Int) (w : World) (hA : SlT w 1 intc A cap xs) (hn : xs.length ≤ 1000) : Calls Tryz.prog 106 #[.slice A xs.length cap] w fun e w' => e = .returned (.bool (decide (okC xs ∧ sumL xs ≤ 1073741824))) ∧ Keep none_ w w' := by
 have hK0 : Keep none_ w w := Keep.refl _ _
 have hzhK0 := Keep.size hK0
 refine enterV Tryz.func106 rfl [.slice A xs.length cap] 21 rfl rfl rfl ?_
 refine Vr ?_
 refine On 1 [0] ?_
 refine Oer ?_
 refine On 1 [0, 3] ?_
 refine Oe ?_
 refine V_seq ?_
 refine Vs [(3, nt 0), (6, .slice A xs.length cap), (7, nt (xs.length : Int)), (8, nt 0)] ?_
 refine V_block ?_
 refine V_pick [(3, nt 0), (6, .slice A xs.length cap), (7, nt (xs.length : Int)), (8, nt 0)] rfl ?_
 refine V_loop (fun k wI e => ∃ i : Nat, ∃ s : Int, (k + i = xs.length) ∧ (s = sumL (xs.take i)) ∧ (okC (xs.take i)) ∧ Keep none_ w wI ∧ e = [(3, nt s), (6, .slice A xs.length cap), (7, nt (xs.length : Int)), (8, nt (i : Int))]) xs.length ⟨0, 0, by omega, rfl, (fun _ h => by simp at h), Keep.refl _ _, rfl⟩ ?_
 rintro k2 w1 _ ⟨i, s, hki, hs, hok, hk3, rfl⟩
 have hsz4 := Keep.size hk3
 replace hA := hA.keep0 hk3
 replace hK0 := hK0.tn hk3
 have hzhk3 := Keep.size hk3
 refine Vs [(3, nt s), (6, .slice A xs.length cap), (7, nt (xs.length : Int)), (8, nt (i : Int)), (9, .bool (decide ((i : Int) < (xs.length : Int))))] ?_
 refine V_seq ?_
 refine V_if ((i : Int) < (xs.length : Int)) (by kernel_rfl) (fun hc5 => ?_) (fun hc5 => ?_)
 ·
  refine V_skip ?_
  refine X_then ?_
  refine V_seq ?_
  refine V_block ?_
  refine Vr ?_
  obtain ⟨b6, o6, L6, T6, rfl, hat6⟩ := SlT.open_ hA (by first | omega | (simp only [List.length_map]; omega) | (simp; done) | (simp; omega))
  have hb6lt := hat6.blk.lt
  refine Oi (b := b6) (o := o6) (len := xs.length) (cap := cap) (j := i) (some 10) 72 (.tmp 6) (.tmp 8) 3 1 8 .i64 ?_
  obtain ⟨x7, hx8⟩ : ∃ x, xs[i]? = some x := ⟨_, List.getElem?_eq_getElem (by first | omega | (simp only [List.length_map]; omega))⟩
  have hbd := sumL_bnd hok; rw [List.length_take] at hbd
  refine Oc 3 (.tmp 10) (o6 + i * 1) (nt x7) (some 11) hat6.blk (At.cell0 hat6 (es_at hx8) rfl) ?_
  refine On 3 [3, 5, 6, 7, 8] ?_
  refine Oe ?_
  refine V_seq ?_
  refine Vr ?_
  refine On 1 [3, 5, 6, 7, 8, 12] ?_
  refine Ok (kl 107 #[(.tmp 12), (.const (nt 0)), (.const (nt 1073741824))] #[3, 3, 3]) 107 #[nt x7, nt 0, nt 1073741824] (some 13) (cvIn_spec x7 0 1073741824 _) ?_
  rintro _ w1 ⟨rfl, rfl⟩
  refine ⟨_, rfl, ?_⟩
  refine Ose [(3, nt s), (5, nt x7), (6, sl_ b6 o6 xs.length cap), (7, nt (xs.length : Int)), (8, nt (i : Int)), (14, .bool (!(decide ((0 : Int) ≤ x7 ∧ x7 ≤ 1073741824))))] ?_
  refine V_not ((0 : Int) ≤ x7 ∧ x7 ≤ 1073741824) (by kernel_rfl) (fun hc10 => ?_) (fun hc10 => ?_)
  ·
   refine Vs [(2, .bool false)] ?_
   refine V_ret ?_
   refine X_ret_then ?_
   refine X_ret_block ?_
   refine X_ret_then ?_
   refine X_ret_then ?_
   refine X_ret_block ?_
   refine X_ret_then ?_
   exact X_return _ rfl ⟨by rw [decide_eq_false (fun hh => hc10 (hh.1 _ (List.mem_of_getElem? hx8)))], hK0⟩
  refine V_skip ?_
  refine X_then ?_
  refine V_region ?_
  have hw11 : IntKind.i64.wrap (s + x7) = s + x7 := (wrap64_id (by omega) (by omega)).trans (by omega)
  refine Os 3 [(6, sl_ b6 o6 xs.length cap), (7, nt (xs.length : Int)), (8, nt (i : Int)), (17, nt (IntKind.i64.wrap (s + x7)))] ?_
  refine Oq (u := nt (IntKind.i64.wrap (s + x7))) (v := nt (s + x7)) 17 (by rw [hw11]) ?_
  refine Os 4 [(3, nt (s + x7)), (6, sl_ b6 o6 xs.length cap), (7, nt (xs.length : Int)), (8, nt (i : Int))] ?_
  refine OI_end rfl ?_
  refine X_block ?_
  refine X_then ?_
  refine V_region ?_
  have hw12 : IntKind.i64.wrap ((i : Int) + 1) = ((i + 1 : Nat) : Int) := (wrap64_id (by omega) (by omega)).trans (by omega)
  refine Os 1 [(3, nt (s + x7)), (6, sl_ b6 o6 xs.length cap), (7, nt (xs.length : Int)), (18, nt (IntKind.i64.wrap ((i : Int) + 1)))] ?_
  refine Oq (u := nt (IntKind.i64.wrap ((i : Int) + 1))) (v := nt ((i + 1 : Nat) : Int)) 18 (by rw [hw12]) ?_
  refine Os 2 [(3, nt (s + x7)), (6, sl_ b6 o6 xs.length cap), (7, nt (xs.length : Int)), (8, nt ((i + 1 : Nat) : Int))] ?_
  refine OI_end rfl ?_
  exact V_again (k2 - 1) (by omega) [(3, nt (s + x7)), (6, sl_ b6 o6 xs.length cap), (7, nt (xs.length : Int)), (8, nt ((i + 1 : Nat) : Int))] rfl ⟨i + 1, s + x7, by omega, by rw [sumL_step hx8, hs], okC_step hx8 hok hc10, hk3, rfl⟩
 refine V_exit ?_
 refine X_exit_then ?_
 refine X_exit_then ?_
 refine X_exit_here ?_
 refine X_then ?_
 refine Vs [(2, .bool (decide (s ≤ 1073741824)))] ?_
 refine V_ret ?_
 have he : i = xs.length := by omega
 rw [he, List.take_length] at hs hok
 exact X_return (.bool (decide (s ≤ 1073741824))) rfl ⟨by rw [hs]; congr 2; rw [decide_eq_decide]; exact ⟨fun h => ⟨hok, h⟩, fun h => h.2⟩, hK0⟩
theorem isCapital3 (b : Nat) (T : TypeId) (a n s : Int) (w : World) (hb : Blk w b [nt a, nt n, nt s] T) : Calls Tryz.prog 106 #[sl_ b 0 3 3] w fun e w' => e = .returned (.bool (decide (0 ≤ a ∧ a ≤ 1073741824 ∧ 0 ≤ n ∧ n ≤ 1073741824 ∧ 0 ≤ s ∧ s ≤ 1073741824 ∧ a + n + s ≤ 1073741824))) ∧ Keep none_ w w' := by
  rw [← decide_eq_decide.2 (okC3 a n s)]
  exact isCapital_spec _ 3 [a, n, s] w (slt_blk hb (fun _ => rfl) rfl) (by simp)
set_option maxRecDepth 10000 in
theorem cvIs_spec (x : Vt) (w : World) : Calls Tryz.prog 63 #[.agg x.cells.toArray] w fun e w' => e = .returned (.bool (decide (okV x))) ∧ Keep none_ w w' := by
 have hK0 : Keep none_ w w := Keep.refl _ _
 have hzhK0 := Keep.size hK0
 refine enterV Tryz.func63 rfl [.agg (Vt.cells x).toArray] 54 rfl rfl rfl ?_
 refine Vr ?_
 refine OI_box 67 (.tmp 0) (.agg (Vt.cells x).toArray) (Vt.cells x) (some 1) (by kernel_rfl) (by kernel_rfl) rfl ?_
 intro b1 w1 e1 hb1 k1 z1
 have hsz2 := Keep.size k1
 replace hK0 := hK0.tn k1
 have hb1lt := hb1.lt
 refine On 2 [1] ?_
 refine Oe ?_
 refine V_seq ?_
 refine Vr ?_
 refine On 1 [1, 3] ?_
 refine Oc 3 (.tmp 3) 3 (nt x.a) (some 4) hb1 rfl ?_
 refine On 3 [1, 4, 5] ?_
 refine Oc 3 (.tmp 5) 4 (nt x.n) (some 6) hb1 rfl ?_
 refine On 5 [1, 4, 6, 7] ?_
 refine Oc 3 (.tmp 7) 5 (nt x.s) (some 8) hb1 rfl ?_
 refine OI_slit (E := 3) (zv := nt 0) (sz := 1) (by_ := 8) 72 3 #[(0, (Operand.tmp 4)), (1, (Operand.tmp 6)), (2, (Operand.tmp 8))] [nt x.a, nt x.n, nt x.s] [nt x.a, nt x.n, nt x.s] (some 9) (by kernel_rfl) (by kernel_rfl) (by kernel_rfl) (by omega) rfl (by omega) (by intro v hv; simp only [List.mem_cons, List.not_mem_nil, or_false] at hv; rcases hv with rfl | rfl | rfl <;> rfl) (by kernel_rfl) rfl ?_
 intro b3 w3 e3 hb3 k3 z3
 have hsz4 := Keep.size k3
 replace hb1 := hb1.k0 k3
 replace hK0 := hK0.tn k3
 have hb3lt := hb3.lt
 refine Ok (kl 106 #[(.tmp 9)] #[72]) 106 #[sl_ b3 0 3 3] (some 10) (isCapital3 b3 _ x.a x.n x.s _ hb3) ?_
 rintro _ w5 ⟨rfl, hk6⟩
 refine ⟨_, rfl, ?_⟩
 have hsz7 := Keep.size hk6
 replace hb1 := hb1.k0 hk6
 replace hb3 := hb3.k0 hk6
 replace hK0 := hK0.tn hk6
 refine Ose [(1, pt b1), (11, .bool (!(decide (0 ≤ x.a ∧ x.a ≤ 1073741824 ∧ 0 ≤ x.n ∧ x.n ≤ 1073741824 ∧ 0 ≤ x.s ∧ x.s ≤ 1073741824 ∧ x.a + x.n + x.s ≤ 1073741824))))] ?_
 refine V_not (0 ≤ x.a ∧ x.a ≤ 1073741824 ∧ 0 ≤ x.n ∧ x.n ≤ 1073741824 ∧ 0 ≤ x.s ∧ x.s ≤ 1073741824 ∧ x.a + x.n + x.s ≤ 1073741824) (by kernel_rfl) (fun hc8 => ?_) (fun hc8 => ?_)
 ·
  refine Vs [(2, .bool false)] ?_
  refine V_ret ?_
  refine X_ret_then ?_
  exact X_return (.bool false) rfl ⟨by congr 2; first | (apply Eq.symm; (try simp only [decide_eq_true_eq]); (try simp only [decide_eq_false_iff_not]); unfold okV; simp_all <;> omega) | (rw [decide_eq_decide]; unfold okV; simp_all <;> omega), hK0⟩
 refine V_skip ?_
 refine X_then ?_
 refine V_seq ?_
 refine Vr ?_
 refine On 1 [1, 12] ?_
 refine Oc 3 (.tmp 12) 0 (nt x.kind) (some 13) hb1 rfl ?_
 refine Oe ?_
 refine V_block ?_
 refine Vs [(1, pt b1), (13, nt x.kind), (14, .bool (decide (x.kind = 1)))] ?_
 refine V_if (x.kind = 1) (by kernel_rfl) (fun hc9 => ?_) (fun hc9 => ?_)
 ·
  refine Vr ?_
  refine On 1 [1, 16] ?_
  refine Oc 3 (.tmp 16) 2 (nt x.level) (some 17) hb1 rfl ?_
  refine Ok (kl 107 #[(.tmp 17), (.const (nt 0)), (.const (nt 6))] #[3, 3, 3]) 107 #[nt x.level, nt 0, nt 6] (some 18) (cvIn_spec x.level 0 6 _) ?_
  rintro _ w5 ⟨rfl, rfl⟩
  refine ⟨_, rfl, ?_⟩
  refine Os 4 [(1, pt b1), (19, .bool (decide ((0 : Int) ≤ x.level ∧ x.level ≤ 6)))] ?_
  by_cases hg13 : (0 : Int) ≤ x.level ∧ x.level ≤ 6
  ·
   refine OI_eq [(1, pt b1), (19, .bool true)] (by first | simp [hg13] | rfl) ?_
   refine On 5 [1, 19, 20] ?_
   refine Oc 3 (.tmp 20) 4 (nt x.n) (some 21) hb1 rfl ?_
   refine Os 9 [(1, pt b1), (24, .bool (decide (x.n = 0)))] ?_
   by_cases hg14 : x.n = 0
   ·
    refine OI_eq [(1, pt b1), (24, .bool true)] (by first | simp [hg14] | rfl) ?_
    refine On 10 [24, 25] ?_
    refine Oc 3 (.tmp 25) 5 (nt x.s) (some 26) hb1 rfl ?_
    refine Ose [(2, .bool (decide (x.s = 0)))] ?_
    refine V_ret ?_
    refine X_ret_block ?_
    refine X_ret_then ?_
    exact X_return (.bool (decide (x.s = 0))) rfl ⟨by congr 2; first | (apply Eq.symm; (try simp only [decide_eq_true_eq]); (try simp only [decide_eq_false_iff_not]); unfold okV; simp_all <;> omega) | (rw [decide_eq_decide]; unfold okV; simp_all <;> omega), hK0⟩
   refine OI_eq [(1, pt b1), (24, .bool false)] (by first | simp [hg14] | rfl) ?_
   refine Ose [(2, .bool false)] ?_
   refine V_ret ?_
   refine X_ret_block ?_
   refine X_ret_then ?_
   exact X_return (.bool false) rfl ⟨by congr 2; first | (apply Eq.symm; (try simp only [decide_eq_true_eq]); (try simp only [decide_eq_false_iff_not]); unfold okV; simp_all <;> omega) | (rw [decide_eq_decide]; unfold okV; simp_all <;> omega), hK0⟩
  refine OI_eq [(1, pt b1), (19, .bool false)] (by first | simp [hg13] | rfl) ?_
  refine Ose [(2, .bool false)] ?_
  refine V_ret ?_
  refine X_ret_block ?_
  refine X_ret_then ?_
  exact X_return (.bool false) rfl ⟨by congr 2; first | (apply Eq.symm; (try simp only [decide_eq_true_eq]); (try simp only [decide_eq_false_iff_not]); unfold okV; simp_all <;> omega) | (rw [decide_eq_decide]; unfold okV; simp_all <;> omega), hK0⟩
 refine Vs [(1, pt b1), (13, nt x.kind), (29, .bool (decide (x.kind = 2)))] ?_
 refine V_if (x.kind = 2) (by kernel_rfl) (fun hc15 => ?_) (fun hc15 => ?_)
 ·
  refine Vr ?_
  refine On 1 [1, 31] ?_
  refine Oc 4 (.tmp 31) 1 (.bool x.aye) (some 32) hb1 rfl ?_
  refine Os 4 [(1, pt b1), (34, .bool (!x.aye))] ?_
  cases hg16 : (!x.aye)
  ·
   refine OI_eq [(1, pt b1), (34, .bool false)] (by first | rfl | rw [hg16]) ?_
   refine Ose [(2, .bool false)] ?_
   refine V_ret ?_
   refine X_ret_block ?_
   refine X_ret_then ?_
   exact X_return (.bool false) rfl ⟨by congr 2; first | (apply Eq.symm; (try simp only [decide_eq_true_eq]); (try simp only [decide_eq_false_iff_not]); unfold okV; simp_all <;> omega) | (rw [decide_eq_decide]; unfold okV; simp_all <;> omega), hK0⟩
  refine OI_eq [(1, pt b1), (34, .bool true)] (by first | rfl | rw [hg16]) ?_
  refine On 5 [1, 34, 35] ?_
  refine Oc 3 (.tmp 35) 2 (nt x.level) (some 36) hb1 rfl ?_
  refine Os 9 [(1, pt b1), (39, .bool (decide (x.level = 0)))] ?_
  by_cases hg17 : x.level = 0
  ·
   refine OI_eq [(1, pt b1), (39, .bool true)] (by first | simp [hg17] | rfl) ?_
   refine On 10 [39, 40] ?_
   refine Oc 3 (.tmp 40) 5 (nt x.s) (some 41) hb1 rfl ?_
   refine Ose [(2, .bool (decide (x.s = 0)))] ?_
   refine V_ret ?_
   refine X_ret_block ?_
   refine X_ret_then ?_
   exact X_return (.bool (decide (x.s = 0))) rfl ⟨by congr 2; first | (apply Eq.symm; (try simp only [decide_eq_true_eq]); (try simp only [decide_eq_false_iff_not]); unfold okV; simp_all <;> omega) | (rw [decide_eq_decide]; unfold okV; simp_all <;> omega), hK0⟩
  refine OI_eq [(1, pt b1), (39, .bool false)] (by first | simp [hg17] | rfl) ?_
  refine Ose [(2, .bool false)] ?_
  refine V_ret ?_
  refine X_ret_block ?_
  refine X_ret_then ?_
  exact X_return (.bool false) rfl ⟨by congr 2; first | (apply Eq.symm; (try simp only [decide_eq_true_eq]); (try simp only [decide_eq_false_iff_not]); unfold okV; simp_all <;> omega) | (rw [decide_eq_decide]; unfold okV; simp_all <;> omega), hK0⟩
 refine Vs [(1, pt b1), (44, .bool (decide (x.kind = 3)))] ?_
 refine V_if (x.kind = 3) (by kernel_rfl) (fun hc18 => ?_) (fun hc18 => ?_)
 ·
  refine Vr ?_
  refine On 1 [1, 46] ?_
  refine Oc 4 (.tmp 46) 1 (.bool x.aye) (some 47) hb1 rfl ?_
  refine Os 4 [(1, pt b1), (49, .bool (!x.aye))] ?_
  cases hg19 : (!x.aye)
  ·
   refine OI_eq [(1, pt b1), (49, .bool false)] (by first | rfl | rw [hg19]) ?_
   refine Ose [(2, .bool false)] ?_
   refine V_ret ?_
   refine X_ret_block ?_
   refine X_ret_then ?_
   exact X_return (.bool false) rfl ⟨by congr 2; first | (apply Eq.symm; (try simp only [decide_eq_true_eq]); (try simp only [decide_eq_false_iff_not]); unfold okV; simp_all <;> omega) | (rw [decide_eq_decide]; unfold okV; simp_all <;> omega), hK0⟩
  refine OI_eq [(1, pt b1), (49, .bool true)] (by first | rfl | rw [hg19]) ?_
  refine On 5 [49, 50] ?_
  refine Oc 3 (.tmp 50) 2 (nt x.level) (some 51) hb1 rfl ?_
  refine Ose [(2, .bool (decide (x.level = 0)))] ?_
  refine V_ret ?_
  refine X_ret_block ?_
  refine X_ret_then ?_
  exact X_return (.bool (decide (x.level = 0))) rfl ⟨by congr 2; first | (apply Eq.symm; (try simp only [decide_eq_true_eq]); (try simp only [decide_eq_false_iff_not]); unfold okV; simp_all <;> omega) | (rw [decide_eq_decide]; unfold okV; simp_all <;> omega), hK0⟩
 refine V_skip ?_
 refine X_block ?_
 refine X_then ?_
 refine Vs [(2, .bool false)] ?_
 refine V_ret ?_
 exact X_return (.bool false) rfl ⟨by congr 2; first | (apply Eq.symm; (try simp only [decide_eq_true_eq]); (try simp only [decide_eq_false_iff_not]); unfold okV; simp_all <;> omega) | (rw [decide_eq_decide]; unfold okV; simp_all <;> omega), hK0⟩
set_option maxRecDepth 10000 in
theorem cvCapital_spec (x : Vt) (w : World) : Calls Tryz.prog 67 #[.agg x.cells.toArray] w fun e w' => e = .returned (nt (capI x)) ∧ Keep none_ w w' := by
 have hK0 : Keep none_ w w := Keep.refl _ _
 have hzhK0 := Keep.size hK0
 refine enterV Tryz.func67 rfl [.agg (Vt.cells x).toArray] 11 rfl rfl rfl ?_
 refine Vr ?_
 refine OI_box 67 (.tmp 0) (.agg (Vt.cells x).toArray) (Vt.cells x) (some 1) (by kernel_rfl) (by kernel_rfl) rfl ?_
 intro b1 w1 e1 hb1 k1 z1
 have hsz2 := Keep.size k1
 replace hK0 := hK0.tn k1
 have hb1lt := hb1.lt
 refine On 2 [1] ?_
 refine Oer ?_
 refine On 1 [1, 3] ?_
 refine Oc 3 (.tmp 3) 3 (nt x.a) (some 4) hb1 rfl ?_
 refine On 3 [1, 4, 5] ?_
 refine Oc 3 (.tmp 5) 4 (nt x.n) (some 6) hb1 rfl ?_
 refine On 6 [7, 8] ?_
 refine Oc 3 (.tmp 8) 5 (nt x.s) (some 9) hb1 rfl ?_
 refine Ose [(2, nt (IntKind.i64.wrap ((IntKind.i64.wrap (x.a + x.n)) + x.s)))] ?_
 refine V_ret ?_
 exact X_return (nt (IntKind.i64.wrap ((IntKind.i64.wrap (x.a + x.n)) + x.s))) rfl ⟨rfl, hK0⟩
set_option maxRecDepth 10000 in
theorem cvVotes_spec (n level : Int) (w : World) : Calls Tryz.prog 112 #[nt n, nt level] w fun e w' => e = .returned (nt (cvVotes n level)) ∧ w' = w := by
 refine enterV Tryz.func112 rfl [nt n, nt level] 12 rfl rfl rfl ?_
 refine Vr ?_
 refine On 1 [0, 1] ?_
 refine Oe ?_
 refine V_seq ?_
 refine Vs [(0, nt n), (1, nt level), (6, .bool (decide (level = 0)))] ?_
 refine V_if (level = 0) (by kernel_rfl) (fun hc1 => ?_) (fun hc1 => ?_)
 ·
  refine Vs [(4, nt (IntKind.i64.wrap (Int.tdiv n 10)))] ?_
  refine V_ret ?_
  refine X_ret_then ?_
  exact X_return (nt (IntKind.i64.wrap (Int.tdiv n 10))) rfl ⟨by unfold cvVotes; simp [*], rfl⟩
 refine V_skip ?_
 refine X_then ?_
 refine Vs [(4, nt (IntKind.i64.wrap (n * level)))] ?_
 refine V_ret ?_
 exact X_return (nt (IntKind.i64.wrap (n * level))) rfl ⟨by unfold cvVotes; simp [*], rfl⟩
set_option maxRecDepth 10000 in
theorem cvGain_spec (x : Vt) (g : Wgt) (w : World) : Calls Tryz.prog 70 #[.agg x.cells.toArray, .agg g.cells.toArray] w fun e w' => e = .returned (.agg (gainT x g).cells.toArray) ∧ Keep none_ w w' := by
 have hK0 : Keep none_ w w := Keep.refl _ _
 have hzhK0 := Keep.size hK0
 refine enterM Tryz.func70 rfl [.agg (Vt.cells x).toArray, .agg (Wgt.cells g).toArray] 40 rfl rfl rfl ?_
 refine V_pick [(0, .agg (Vt.cells x).toArray), (1, .agg (Wgt.cells g).toArray)] rfl ?_
 refine Vr ?_
 refine OI_box 67 (.tmp 0) (.agg (Vt.cells x).toArray) (Vt.cells x) (some 2) (by kernel_rfl) (by kernel_rfl) rfl ?_
 intro b1 w1 e1 hb1 k1 z1
 have hsz2 := Keep.size k1
 replace hK0 := hK0.tn k1
 have hb1lt := hb1.lt
 refine OI_box 139 (.tmp 1) (.agg (Wgt.cells g).toArray) (Wgt.cells g) (some 3) (by kernel_rfl) (by kernel_rfl) rfl ?_
 intro b3 w3 e3 hb3 k3 z3
 have hsz4 := Keep.size k3
 replace hb1 := hb1.k0 k3
 replace hK0 := hK0.tn k3
 have hb3lt := hb3.lt
 refine OI_alloc 55 (.agg #[nt 0, nt 0, nt 0]) [nt 0, nt 0, nt 0] (some 4) (by kernel_rfl) (by kernel_rfl) (by kernel_rfl) ?_
 intro b5 w5 e5 hb5 k5 z5
 have hsz6 := Keep.size k5
 replace hb1 := hb1.k0 k5
 replace hb3 := hb3.k0 k5
 replace hK0 := hK0.tn k5
 have hb5lt := hb5.lt
 refine Oe ?_
 refine V_seq ?_
 refine Vr ?_
 refine On 1 [2, 3, 4, 6] ?_
 refine Oc 3 (.tmp 6) 0 (nt x.kind) (some 7) hb1 rfl ?_
 refine Ose [(2, pt b1), (3, pt b3), (4, pt b5), (8, .bool (!(decide (x.kind = 1))))] ?_
 refine V_not (x.kind = 1) (by kernel_rfl) (fun hc7 => ?_) (fun hc7 => ?_)
 ·
  refine V_seq ?_
  refine V_draws (acts [2, 5, 12]) none_ [[0, 1, 2, 3, 4, 5, 6, 7, 8, 9, 10, 11, 12]] (by kernel_rfl) (by repeat first | exact (by first | exact sure_postM | exact sure_rQ2 | exact sure_no) | refine sure_then ?_ | refine sure_block ?_ | refine sure_join ?_) (by kernel_rfl) ?_
  intro w9 hk8 he10 L hL11
  have hsz12 := Keep.size hk8
  replace hb1 := hb1.k0 hk8
  replace hb3 := hb3.k0 hk8
  replace hb5 := hb5.k0 hk8
  replace hK0 := hK0.tn hk8
  have qhb1 := hb1
  have qhb3 := hb3
  have qhb5 := hb5
  have K13 : Keep none_ w9 w9 := Keep.refl _ _
  obtain rfl := List.mem_singleton.1 hL11
  refine Gs [1, 2, 3, 4, 5, 6, 7, 8, 9, 10, 11, 12] [(2, pt b1), (4, pt b5), (9, po_ b1 3)] ?_
  refine Gc0 3 (.tmp 9) 3 (nt x.a) (some 10) qhb1 rfl ?_
  refine Gk (kl 112 #[(.tmp 10), (.const (nt 0))] #[3, 3]) 112 #[nt x.a, nt 0] (some 11) (cvVotes_spec x.a 0 _) ?_
  rintro _ w9 ⟨rfl, rfl⟩
  refine ⟨_, rfl, K13, ?_⟩
  refine Gs [4, 5, 6, 7, 8, 9, 10, 11, 12] [(2, pt b1), (4, pt b5), (11, nt (cvVotes x.a 0)), (12, po_ b1 4)] ?_
  refine Gc0 3 (.tmp 12) 4 (nt x.n) (some 13) qhb1 rfl ?_
  refine Gk (kl 112 #[(.tmp 13), (.const (nt 0))] #[3, 3]) 112 #[nt x.n, nt 0] (some 14) (cvVotes_spec x.n 0 _) ?_
  rintro _ w9 ⟨rfl, rfl⟩
  refine ⟨_, rfl, K13, ?_⟩
  refine Gn [7, 8, 9, 10, 11, 12] [2, 4, 11, 14, 15] ?_
  refine Gc0 3 (.tmp 15) 3 (nt x.a) (some 16) qhb1 rfl ?_
  refine Gn [9, 10, 11, 12] [4, 11, 14, 16, 17] ?_
  refine Gc0 3 (.tmp 17) 5 (nt x.s) (some 18) qhb1 rfl ?_
  refine Gs [12] [(4, pt b5), (20, .agg #[nt (cvVotes x.a 0), nt (cvVotes x.n 0), nt (IntKind.i64.wrap (x.a + x.s))])] ?_
  refine GI_final 12 (by kernel_rfl) (by kernel_rfl) ?_
  refine OI_set (m := 3) (kd := true) 55 (.tmp 4) (.tmp 20) 0 (.agg #[nt (cvVotes x.a 0), nt (cvVotes x.n 0), nt (IntKind.i64.wrap (x.a + x.s))]) [nt (cvVotes x.a 0), nt (cvVotes x.n 0), nt (IntKind.i64.wrap (x.a + x.s))] none (by kernel_rfl) (by kernel_rfl) (by kernel_rfl) hb5 (by kernel_rfl) (by kernel_rfl) (by kernel_rfl) (Nat.le_of_ble_eq_true (by kernel_rfl)) (by simp [Value.oneCell']) ?_
  intro w20 hb5_23 hk21 hz22
  replace hb5_23 : Blk w20 b5 [nt (cvVotes x.a 0), nt (cvVotes x.n 0), nt (IntKind.i64.wrap (x.a + x.s))] 55 := hb5_23
  have hsz24 := Keep.size hk21
  replace hb1 := hb1.k1 hk21
  replace hb3 := hb3.k1 hk21
  replace hK0 := Keep.fr hK0 hk21
  refine Oe ?_
  refine V_ret ?_
  refine X_ret_then ?_
  exact leave0 (.agg [nt (cvVotes x.a 0), nt (cvVotes x.n 0), nt (IntKind.i64.wrap (x.a + x.s))].toArray) (.inl rfl) (res_agg1 (m := 3) rfl rfl (by kernel_rfl) hb5_23 rfl) ⟨by unfold gainT; simp_all [Tly.cells], hK0⟩
 refine V_skip ?_
 refine X_then ?_
 refine V_seq ?_
 refine V_draws (acts [4]) none_ [[0, 1, 2, 3, 4, 5, 6, 7, 8]] (by kernel_rfl) (by repeat first | exact (by first | exact sure_postM | exact sure_rQ2 | exact sure_no) | refine sure_then ?_ | refine sure_block ?_ | refine sure_join ?_) (by kernel_rfl) ?_
 intro w26 hk25 he27 L hL28
 have hsz29 := Keep.size hk25
 replace hb1 := hb1.k0 hk25
 replace hb3 := hb3.k0 hk25
 replace hb5 := hb5.k0 hk25
 replace hK0 := hK0.tn hk25
 have qhb1 := hb1
 have qhb3 := hb3
 have qhb5 := hb5
 have K30 : Keep none_ w26 w26 := Keep.refl _ _
 obtain rfl := List.mem_singleton.1 hL28
 refine Gn [1, 2, 3, 4, 5, 6, 7, 8] [2, 3, 4, 21] ?_
 refine Gc0 3 (.tmp 21) 3 (nt x.a) (some 22) qhb1 rfl ?_
 refine Gs [3, 4, 5, 6, 7, 8] [(2, pt b1), (3, pt b3), (4, pt b5), (22, nt x.a), (23, po_ b1 2)] ?_
 refine Gc0 3 (.tmp 23) 2 (nt x.level) (some 24) qhb1 rfl ?_
 refine Gk (kl 112 #[(.tmp 22), (.tmp 24)] #[3, 3]) 112 #[nt x.a, nt x.level] (some 25) (cvVotes_spec x.a x.level _) ?_
 rintro _ w26 ⟨rfl, rfl⟩
 refine ⟨_, rfl, K30, ?_⟩
 refine Gn [6, 7, 8] [2, 3, 4, 25, 26] ?_
 refine Gc0 3 (.tmp 26) 0 (nt g.v) (some 27) qhb3 rfl ?_
 refine Gn [] [2, 3, 4, 5] ?_
 refine GI_end ?_
 refine X_then ?_
 refine V_seq ?_
 refine Vr ?_
 refine Os 1 [(2, pt b1), (3, pt b3), (4, pt b5), (5, nt (IntKind.i64.wrap ((cvVotes x.a x.level) + g.v))), (29, po_ b1 1)] ?_
 refine Oc 4 (.tmp 29) 1 (.bool x.aye) (some 30) hb1 rfl ?_
 refine Oe ?_
 refine V_ifb (x.aye) (by kernel_rfl) (fun hc34 => ?_) (fun hc34 => ?_)
 ·
  refine Vr ?_
  refine On 2 [3, 4, 31, 32] ?_
  refine Oc 3 (.tmp 32) 3 (nt x.a) (some 33) hb1 rfl ?_
  refine On 4 [4, 31, 33, 34] ?_
  refine Oc 3 (.tmp 34) 1 (nt g.c) (some 35) hb3 rfl ?_
  refine Os 7 [(4, pt b5), (37, .agg #[nt (IntKind.i64.wrap ((cvVotes x.a x.level) + g.v)), nt 0, nt (IntKind.i64.wrap (x.a + g.c))])] ?_
  refine OI_set (m := 3) (kd := true) 55 (.tmp 4) (.tmp 37) 0 (.agg #[nt (IntKind.i64.wrap ((cvVotes x.a x.level) + g.v)), nt 0, nt (IntKind.i64.wrap (x.a + g.c))]) [nt (IntKind.i64.wrap ((cvVotes x.a x.level) + g.v)), nt 0, nt (IntKind.i64.wrap (x.a + g.c))] none (by kernel_rfl) (by kernel_rfl) (by kernel_rfl) hb5 (by kernel_rfl) (by kernel_rfl) (by kernel_rfl) (Nat.le_of_ble_eq_true (by kernel_rfl)) (by simp [Value.oneCell']) ?_
  intro w35 hb5_38 hk36 hz37
  replace hb5_38 : Blk w35 b5 [nt (IntKind.i64.wrap ((cvVotes x.a x.level) + g.v)), nt 0, nt (IntKind.i64.wrap (x.a + g.c))] 55 := hb5_38
  have hsz39 := Keep.size hk36
  replace hb1 := hb1.k1 hk36
  replace hb3 := hb3.k1 hk36
  replace hK0 := Keep.fr hK0 hk36
  refine Oe ?_
  refine V_ret ?_
  refine X_ret_then ?_
  exact leave0 (.agg [nt (IntKind.i64.wrap ((cvVotes x.a x.level) + g.v)), nt 0, nt (IntKind.i64.wrap (x.a + g.c))].toArray) (.inl rfl) (res_agg1 (m := 3) rfl rfl (by kernel_rfl) hb5_38 rfl) ⟨by unfold gainT; simp_all [Tly.cells], hK0⟩
 refine V_skip ?_
 refine X_then ?_
 refine Vr ?_
 refine Os 2 [(4, pt b5), (39, .agg #[nt 0, nt (IntKind.i64.wrap ((cvVotes x.a x.level) + g.v)), nt 0])] ?_
 refine OI_set (m := 3) (kd := true) 55 (.tmp 4) (.tmp 39) 0 (.agg #[nt 0, nt (IntKind.i64.wrap ((cvVotes x.a x.level) + g.v)), nt 0]) [nt 0, nt (IntKind.i64.wrap ((cvVotes x.a x.level) + g.v)), nt 0] none (by kernel_rfl) (by kernel_rfl) (by kernel_rfl) hb5 (by kernel_rfl) (by kernel_rfl) (by kernel_rfl) (Nat.le_of_ble_eq_true (by kernel_rfl)) (by simp [Value.oneCell']) ?_
 intro w40 hb5_43 hk41 hz42
 replace hb5_43 : Blk w40 b5 [nt 0, nt (IntKind.i64.wrap ((cvVotes x.a x.level) + g.v)), nt 0] 55 := hb5_43
 have hsz44 := Keep.size hk41
 replace hb1 := hb1.k1 hk41
 replace hb3 := hb3.k1 hk41
 replace hK0 := Keep.fr hK0 hk41
 refine Oe ?_
 refine V_ret ?_
 exact leave0 (.agg [nt 0, nt (IntKind.i64.wrap ((cvVotes x.a x.level) + g.v)), nt 0].toArray) (.inl rfl) (res_agg1 (m := 3) rfl rfl (by kernel_rfl) hb5_43 rfl) ⟨by unfold gainT; simp_all [Tly.cells], hK0⟩
set_option maxRecDepth 10000 in
theorem cvAdd_spec (A : Option Addr) (cap : Nat) (t : Tly) (xs : List Tly) (w : World) (hA : SlT w 3 Tly.cells A cap xs) (hn : xs.length ≤ 1000) : Calls Tryz.prog 71 #[.agg t.cells.toArray, .slice A xs.length cap] w fun e w' => e = .returned (.agg (addL t xs).cells.toArray) ∧ Keep none_ w w' := by
 have hAlt := SlT.lt hA
 have hK0 : Keep none_ w w := Keep.refl _ _
 have hzhK0 := Keep.size hK0
 refine enterM Tryz.func71 rfl [.agg (Tly.cells t).toArray, .slice A xs.length cap] 33 rfl rfl rfl ?_
 refine V_pick [(0, .agg (Tly.cells t).toArray), (1, .slice A xs.length cap)] rfl ?_
 refine Vr ?_
 refine OI_box 55 (.tmp 0) (.agg (Tly.cells t).toArray) (Tly.cells t) (some 2) (by kernel_rfl) (by kernel_rfl) rfl ?_
 intro b1 w1 e1 hb1 k1 z1
 have hsz2 := Keep.size k1
 replace hA := hA.keep0 k1
 replace hK0 := hK0.tn k1
 have hb1lt := hb1.lt
 refine OI_alloc 55 (.agg #[nt 0, nt 0, nt 0]) [nt 0, nt 0, nt 0] (some 4) (by kernel_rfl) (by kernel_rfl) (by kernel_rfl) ?_
 intro b3 w3 e3 hb3 k3 z3
 have hsz4 := Keep.size k3
 replace hb1 := hb1.k0 k3
 replace hA := hA.keep0 k3
 replace hK0 := hK0.tn k3
 have hb3lt := hb3.lt
 refine Oe ?_
 refine V_seq ?_
 refine Vs [(2, pt b1), (4, pt b3), (7, .slice A xs.length cap), (8, nt (xs.length : Int)), (9, nt 0)] ?_
 refine V_block ?_
 refine V_pick [(2, pt b1), (4, pt b3), (7, .slice A xs.length cap), (8, nt (xs.length : Int)), (9, nt 0)] rfl ?_
 refine V_loop (fun k wI e => ∃ i : Nat, (k + i = xs.length) ∧ (Blk wI b1 [nt ((addL t (xs.take i)).a), nt ((addL t (xs.take i)).n), nt ((addL t (xs.take i)).s)] 55) ∧ Keep (only b1) w3 wI ∧ e = [(2, pt b1), (4, pt b3), (7, .slice A xs.length cap), (8, nt (xs.length : Int)), (9, nt (i : Int))]) xs.length ⟨0, by omega, hb1, Keep.refl _ _, rfl⟩ ?_
 rintro k6 w5 _ ⟨i, hki, hb2, hk7, rfl⟩
 have hsz8 := Keep.size hk7
 replace hb3 := hb3.k1 hk7
 replace hA := hA.keep hk7 (fun q hq hs => by have hs : q = b1 := hs; have g1 := hAlt q hq; omega)
 replace hK0 := Keep.fr hK0 hk7
 have hzhk7 := Keep.size hk7
 have hb1lt := hb2.lt
 refine Vs [(2, pt b1), (4, pt b3), (7, .slice A xs.length cap), (8, nt (xs.length : Int)), (9, nt (i : Int)), (10, .bool (decide ((i : Int) < (xs.length : Int))))] ?_
 refine V_seq ?_
 refine V_if ((i : Int) < (xs.length : Int)) (by kernel_rfl) (fun hc9 => ?_) (fun hc9 => ?_)
 ·
  refine V_skip ?_
  refine X_then ?_
  refine V_seq ?_
  refine V_block ?_
  refine Vr ?_
  obtain ⟨b10, o10, L10, T10, rfl, hat10⟩ := SlT.open_ hA (by first | omega | (simp only [List.length_map]; omega) | (simp; done) | (simp; omega))
  have hb10lt := hat10.blk.lt
  have hob11 := hAlt b10 ⟨_, rfl, rfl⟩
  refine Oi (b := b10) (o := o10) (len := xs.length) (cap := cap) (j := i) (some 11) 207 (.tmp 7) (.tmp 9) 55 3 24 .i64 ?_
  obtain ⟨x12, hx13⟩ : ∃ x, xs[i]? = some x := ⟨_, List.getElem?_eq_getElem (by first | omega | (simp only [List.length_map]; omega))⟩
  refine Oa 55 (.tmp 11) (o10 + i * 3) (Tly.cells x12) (some 12) 3 hat10.blk (At.elem' hat10 (es_at hx13)) (At.len hat10 (es_at hx13)) ?_
  refine OI_alloc 55 (.agg #[nt 0, nt 0, nt 0]) [nt 0, nt 0, nt 0] (some 6) (by kernel_rfl) (by kernel_rfl) (by kernel_rfl) ?_
  intro b14 w14 e14 hb14 k14 z14
  have hsz15 := Keep.size k14
  replace hb2 := hb2.k0 k14
  replace hb3 := hb3.k0 k14
  replace hat10 := hat10.keep k14 id
  replace hK0 := hK0.tn k14
  replace hk7 := hk7.tn k14
  have hb14lt := hb14.lt
  refine Otg 55 (.tmp 6) (.tmp 12) 0 (Tly.cells x12) hb14 (Tly.len _) (Tly.one _) ?_
  intro w16 hb14_19 hk17 hz18
  replace hb14_19 : Blk w16 b14 (Tly.cells x12) 55 := (by rwa [over_whole (by rw [Tly.len]; rfl)] at hb14_19)
  have hsz20 := Keep.size hk17
  replace hb2 := hb2.k1 hk17
  replace hb3 := hb3.k1 hk17
  replace hat10 := hat10.keep hk17 (by show ¬ (_ = _); omega)
  replace hK0 := Keep.fr hK0 hk17
  replace hk7 := Keep.fr hk7 hk17
  refine Oer ?_
  refine On 1 [2, 4, 6, 7, 8, 9, 13] ?_
  refine Oc 3 (.tmp 13) 0 (nt ((addL t (xs.take i)).a)) (some 14) hb2 rfl ?_
  refine On 3 [2, 4, 6, 7, 8, 9, 14, 15] ?_
  refine Oc 3 (.tmp 15) 0 (nt x12.a) (some 16) hb14_19 rfl ?_
  refine On 6 [2, 4, 6, 7, 8, 9, 17, 18] ?_
  refine Ot 3 (.tmp 18) (.tmp 17) 0 (nt (IntKind.i64.wrap (((addL t (xs.take i)).a) + x12.a))) hb2 ?_
  intro w21 hb1_24 hk22 hz23
  replace hb1_24 : Blk w21 b1 [nt (IntKind.i64.wrap (((addL t (xs.take i)).a) + x12.a)), nt ((addL t (xs.take i)).n), nt ((addL t (xs.take i)).s)] 55 := hb1_24
  have hsz25 := Keep.size hk22
  replace hb3 := hb3.k1 hk22
  replace hb14_19 := hb14_19.k1 hk22
  replace hat10 := hat10.keep hk22 (by show ¬ (_ = _); omega)
  replace hK0 := Keep.fr hK0 hk22
  replace hk7 := Keep.fr hk7 hk22
  refine Oer ?_
  refine On 1 [2, 4, 6, 7, 8, 9, 19] ?_
  refine Oc 3 (.tmp 19) 1 (nt ((addL t (xs.take i)).n)) (some 20) hb1_24 rfl ?_
  refine On 3 [2, 4, 6, 7, 8, 9, 20, 21] ?_
  refine Oc 3 (.tmp 21) 1 (nt x12.n) (some 22) hb14_19 rfl ?_
  refine On 6 [2, 4, 6, 7, 8, 9, 23, 24] ?_
  refine Ot 3 (.tmp 24) (.tmp 23) 1 (nt (IntKind.i64.wrap (((addL t (xs.take i)).n) + x12.n))) hb1_24 ?_
  intro w26 hb1_29 hk27 hz28
  replace hb1_29 : Blk w26 b1 [nt (IntKind.i64.wrap (((addL t (xs.take i)).a) + x12.a)), nt (IntKind.i64.wrap (((addL t (xs.take i)).n) + x12.n)), nt ((addL t (xs.take i)).s)] 55 := hb1_29
  have hsz30 := Keep.size hk27
  replace hb3 := hb3.k1 hk27
  replace hb14_19 := hb14_19.k1 hk27
  replace hat10 := hat10.keep hk27 (by show ¬ (_ = _); omega)
  replace hK0 := Keep.fr hK0 hk27
  replace hk7 := Keep.fr hk7 hk27
  refine Oe ?_
  refine V_region ?_
  refine On 1 [2, 4, 6, 7, 8, 9, 25] ?_
  refine Oc 3 (.tmp 25) 2 (nt ((addL t (xs.take i)).s)) (some 26) hb1_29 rfl ?_
  refine On 3 [2, 4, 7, 8, 9, 26, 27] ?_
  refine Oc 3 (.tmp 27) 2 (nt x12.s) (some 28) hb14_19 rfl ?_
  refine Os 6 [(2, pt b1), (4, pt b3), (7, sl_ b10 o10 xs.length cap), (8, nt (xs.length : Int)), (9, nt (i : Int)), (29, nt (IntKind.i64.wrap (((addL t (xs.take i)).s) + x12.s))), (30, po_ b1 2)] ?_
  refine Ot 3 (.tmp 30) (.tmp 29) 2 (nt (IntKind.i64.wrap (((addL t (xs.take i)).s) + x12.s))) hb1_29 ?_
  intro w31 hb1_34 hk32 hz33
  replace hb1_34 : Blk w31 b1 [nt (IntKind.i64.wrap (((addL t (xs.take i)).a) + x12.a)), nt (IntKind.i64.wrap (((addL t (xs.take i)).n) + x12.n)), nt (IntKind.i64.wrap (((addL t (xs.take i)).s) + x12.s))] 55 := hb1_34
  have hsz35 := Keep.size hk32
  replace hb3 := hb3.k1 hk32
  replace hb14_19 := hb14_19.k1 hk32
  replace hat10 := hat10.keep hk32 (by show ¬ (_ = _); omega)
  replace hK0 := Keep.fr hK0 hk32
  replace hk7 := Keep.fr hk7 hk32
  refine OI_end rfl ?_
  refine X_block ?_
  refine X_then ?_
  refine V_region ?_
  have hw36 : IntKind.i64.wrap ((i : Int) + 1) = ((i + 1 : Nat) : Int) := (wrap64_id (by omega) (by omega)).trans (by omega)
  refine Os 1 [(2, pt b1), (4, pt b3), (7, sl_ b10 o10 xs.length cap), (8, nt (xs.length : Int)), (31, nt (IntKind.i64.wrap ((i : Int) + 1)))] ?_
  refine Oq (u := nt (IntKind.i64.wrap ((i : Int) + 1))) (v := nt ((i + 1 : Nat) : Int)) 31 (by rw [hw36]) ?_
  refine Os 2 [(2, pt b1), (4, pt b3), (7, sl_ b10 o10 xs.length cap), (8, nt (xs.length : Int)), (9, nt ((i + 1 : Nat) : Int))] ?_
  refine OI_end rfl ?_
  exact V_again (k6 - 1) (by omega) [(2, pt b1), (4, pt b3), (7, sl_ b10 o10 xs.length cap), (8, nt (xs.length : Int)), (9, nt ((i + 1 : Nat) : Int))] rfl ⟨i + 1, by omega, by rw [addL_step hx13]; exact hb1_34, hk7, rfl⟩
 refine V_exit ?_
 refine X_exit_then ?_
 refine X_exit_then ?_
 refine X_exit_here ?_
 refine X_then ?_
 refine Vr ?_
 refine Oa 55 (.tmp 2) 0 [nt ((addL t (xs.take i)).a), nt ((addL t (xs.take i)).n), nt ((addL t (xs.take i)).s)] (some 32) 3 hb2 rfl rfl ?_
 refine OI_set (m := 3) (kd := true) 55 (.tmp 4) (.tmp 32) 0 (.agg #[nt ((addL t (xs.take i)).a), nt ((addL t (xs.take i)).n), nt ((addL t (xs.take i)).s)]) [nt ((addL t (xs.take i)).a), nt ((addL t (xs.take i)).n), nt ((addL t (xs.take i)).s)] none (by kernel_rfl) (by kernel_rfl) (by kernel_rfl) hb3 (by kernel_rfl) (by kernel_rfl) (by kernel_rfl) (Nat.le_of_ble_eq_true (by kernel_rfl)) (by simp [Value.oneCell']) ?_
 intro w37 hb3_40 hk38 hz39
 replace hb3_40 : Blk w37 b3 [nt ((addL t (xs.take i)).a), nt ((addL t (xs.take i)).n), nt ((addL t (xs.take i)).s)] 55 := hb3_40
 have hsz41 := Keep.size hk38
 replace hb2 := hb2.k1 hk38
 replace hA := hA.keep hk38 (fun q hq hs => by have hs : q = b3 := hs; have g1 := hAlt q hq; omega)
 replace hK0 := Keep.fr hK0 hk38
 refine Oe ?_
 refine V_ret ?_
 have he : i = xs.length := by omega
 exact leave0 (.agg [nt ((addL t (xs.take i)).a), nt ((addL t (xs.take i)).n), nt ((addL t (xs.take i)).s)].toArray) (.inl rfl) (res_agg1 (m := 3) rfl rfl (by kernel_rfl) hb3_40 rfl) ⟨by rw [he, List.take_length]; rfl, hK0⟩
theorem cvAdd1 (b : Nat) (t g : Tly) (T : TypeId) (w : World) (hb : Blk w b g.cells T) : Calls Tryz.prog 71 #[.agg t.cells.toArray, sl_ b 0 1 1] w fun e w' => e = .returned (.agg (addT t g).cells.toArray) ∧ Keep none_ w w' := cvAdd_spec _ 1 t [g] w (slt_blk hb (fun _ => rfl) rfl) (by simp)
set_option maxRecDepth 10000 in
theorem cvSub_spec (t g : Tly) (w : World) : Calls Tryz.prog 69 #[.agg t.cells.toArray, .agg g.cells.toArray] w fun e w' => e = .returned (.agg (subT t g).cells.toArray) ∧ Keep none_ w w' := by
 have hK0 : Keep none_ w w := Keep.refl _ _
 have hzhK0 := Keep.size hK0
 refine enterM Tryz.func69 rfl [.agg (Tly.cells t).toArray, .agg (Tly.cells g).toArray] 18 rfl rfl rfl ?_
 refine V_pick [(0, .agg (Tly.cells t).toArray), (1, .agg (Tly.cells g).toArray)] rfl ?_
 refine Vr ?_
 refine OI_box 55 (.tmp 0) (.agg (Tly.cells t).toArray) (Tly.cells t) (some 2) (by kernel_rfl) (by kernel_rfl) rfl ?_
 intro b1 w1 e1 hb1 k1 z1
 have hsz2 := Keep.size k1
 replace hK0 := hK0.tn k1
 have hb1lt := hb1.lt
 refine OI_box 55 (.tmp 1) (.agg (Tly.cells g).toArray) (Tly.cells g) (some 3) (by kernel_rfl) (by kernel_rfl) rfl ?_
 intro b3 w3 e3 hb3 k3 z3
 have hsz4 := Keep.size k3
 replace hb1 := hb1.k0 k3
 replace hK0 := hK0.tn k3
 have hb3lt := hb3.lt
 refine OI_alloc 55 (.agg #[nt 0, nt 0, nt 0]) [nt 0, nt 0, nt 0] (some 4) (by kernel_rfl) (by kernel_rfl) (by kernel_rfl) ?_
 intro b5 w5 e5 hb5 k5 z5
 have hsz6 := Keep.size k5
 replace hb1 := hb1.k0 k5
 replace hb3 := hb3.k0 k5
 replace hK0 := hK0.tn k5
 have hb5lt := hb5.lt
 refine Oer ?_
 refine Oa 55 (.tmp 2) 0 (Tly.cells t) (some 5) 3 hb1 (take_all (Tly.len _)) (Tly.len _) ?_
 refine On 2 [3, 4, 5, 6] ?_
 refine Oc 3 (.tmp 6) 0 (nt g.a) (some 7) hb3 rfl ?_
 refine On 5 [3, 4, 5, 8, 9] ?_
 refine Oc 3 (.tmp 9) 1 (nt g.n) (some 10) hb3 rfl ?_
 refine On 8 [4, 5, 8, 11, 12] ?_
 refine Oc 3 (.tmp 12) 2 (nt g.s) (some 13) hb3 rfl ?_
 refine Os 11 [(4, pt b5), (5, .agg (Tly.cells t).toArray), (15, .agg #[nt (IntKind.i64.wrap (0 - g.a)), nt (IntKind.i64.wrap (0 - g.n)), nt (IntKind.i64.wrap (0 - g.s))])] ?_
 refine OI_slit (E := 55) (zv := .agg #[nt 0, nt 0, nt 0]) (sz := 3) (by_ := 24) 207 1 #[(0, (Operand.tmp 15))] [.agg #[nt (IntKind.i64.wrap (0 - g.a)), nt (IntKind.i64.wrap (0 - g.n)), nt (IntKind.i64.wrap (0 - g.s))]] [nt (IntKind.i64.wrap (0 - g.a)), nt (IntKind.i64.wrap (0 - g.n)), nt (IntKind.i64.wrap (0 - g.s))] (some 16) (by kernel_rfl) (by kernel_rfl) (by kernel_rfl) (by omega) rfl (by omega) (by intro v hv; simp only [List.mem_cons, List.not_mem_nil, or_false] at hv; rcases hv with rfl <;> rfl) (by kernel_rfl) rfl ?_
 intro b7 w7 e7 hb7 k7 z7
 have hsz8 := Keep.size k7
 replace hb1 := hb1.k0 k7
 replace hb3 := hb3.k0 k7
 replace hb5 := hb5.k0 k7
 replace hK0 := hK0.tn k7
 have hb7lt := hb7.lt
 refine Ok (kl 71 #[(.tmp 5), (.tmp 16)] #[55, 207]) 71 #[.agg (Tly.cells t).toArray, sl_ b7 0 1 1] (some 17) (cvAdd1 b7 t (Tly.mk (IntKind.i64.wrap (0 - g.a)) (IntKind.i64.wrap (0 - g.n)) (IntKind.i64.wrap (0 - g.s))) _ _ hb7) ?_
 rintro _ w9 ⟨rfl, hk10⟩
 refine ⟨_, rfl, ?_⟩
 have hsz11 := Keep.size hk10
 replace hb1 := hb1.k0 hk10
 replace hb3 := hb3.k0 hk10
 replace hb5 := hb5.k0 hk10
 replace hb7 := hb7.k0 hk10
 replace hK0 := hK0.tn hk10
 refine Otg 55 (.tmp 4) (.tmp 17) 0 (Tly.cells (addT t (Tly.mk (IntKind.i64.wrap (0 - g.a)) (IntKind.i64.wrap (0 - g.n)) (IntKind.i64.wrap (0 - g.s))))) hb5 (Tly.len _) (Tly.one _) ?_
 intro w12 hb5_15 hk13 hz14
 replace hb5_15 : Blk w12 b5 (Tly.cells (addT t (Tly.mk (IntKind.i64.wrap (0 - g.a)) (IntKind.i64.wrap (0 - g.n)) (IntKind.i64.wrap (0 - g.s))))) 55 := (by rwa [over_whole (by rw [Tly.len]; rfl)] at hb5_15)
 have hsz16 := Keep.size hk13
 replace hb1 := hb1.k1 hk13
 replace hb3 := hb3.k1 hk13
 replace hb7 := hb7.k1 hk13
 replace hK0 := Keep.fr hK0 hk13
 refine Oe ?_
 refine V_ret ?_
 exact leave0 (.agg (Tly.cells (addT t (Tly.mk (IntKind.i64.wrap (0 - g.a)) (IntKind.i64.wrap (0 - g.n)) (IntKind.i64.wrap (0 - g.s))))).toArray) (.inl rfl) (res_agg1 (m := 3) rfl rfl (by kernel_rfl) hb5_15 rfl) ⟨rfl, hK0⟩
end Go.Al

namespace Go.Al
open Go Go.RowKit Go.Proofs
theorem Blk.ne {w : World} {a b : Nat} {L L' : List Value} {t t' : TypeId} (h : Blk w a L t) (h' : Blk w b L' t') (ht : t ≠ t') : a ≠ b := fun e => ht (by subst e; exact (h.inj h').2)
structure PollS where
  track : Int
  t : Tly
  state : Int
  stop : Int
def PollS.cells (p : PollS) : List Value := [nt p.track, nt p.t.a, nt p.t.n, nt p.t.s, nt p.state, nt p.stop]
structure DelS where
  to : Int
  level : Int
  n : Int
def DelS.cells (d : DelS) : List Value := [nt d.to, nt d.level, nt d.n]
structure RecS where
  d : Option DelS
  got : Wgt
  till : Int
  n : Int
def RecS.zero : RecS := ⟨none, ⟨0, 0⟩, 0, 0⟩
def RecS.cells (dp : Option Addr) (r : RecS) : List Value := [.pointer dp, nt r.got.v, nt r.got.c, nt r.till, nt r.n]
structure VS where
  ps : List (Option PollS)
  cs : List GV.Ci
  rc : Int → Int → RecS
structure VP where
  gv : Nat
  gr : Nat
  pp : List (Option Addr)
  rs : List GR.Ci
def okD (r : RecS) : Prop := ∀ d, r.d = some d → (0 ≤ d.to ∧ d.to < 10) ∧ (0 ≤ d.level ∧ d.level ≤ 6) ∧ (0 ≤ d.n ∧ d.n ≤ 1073741824)
structure VS.Inv (s : VS) : Prop where
  len : s.ps.length = 12
  votes : ∀ c ∈ s.cs, (0 ≤ c.a ∧ c.a < 10) ∧ (0 ≤ c.b ∧ c.b < 12) ∧ okV c.v ∧ ∃ p, s.ps[c.b.toNat]? = some (some p)
  dels : ∀ a t, okD (s.rc a t)
def VS.setP (s : VS) (i : Nat) (p : PollS) : VS := { s with ps := s.ps.set i (some p) }
def RecB (M : Nat → Prop) (w : World) (q : Nat) (r : RecS) : Prop := ∃ dp, Blk w q (RecS.cells dp r) 141 ∧ (r.d = none → dp = none) ∧ (∀ d, r.d = some d → ∃ b, dp = some ⟨b, 0, none⟩ ∧ Blk w b d.cells 307 ∧ M b)
structure VotX (F1 F2 M : Nat → Prop) (w : World) (v : Nat) (P : VP) (s : VS) : Prop where
  inv : s.Inv
  gv : GV.Grd F1 w P.gv s.cs
  gr : GR.Grd F2 w P.gr P.rs
  mv : M v
  lt : ∀ q, M q → q < w.heap.size
  d12 : ∀ q, F1 q → ¬ F2 q
  d1 : ∀ q, F1 q → ¬ M q
  d2 : ∀ q, F2 q → ¬ M q
  len : P.pp.length = 12
  blk : Blk w v (P.pp.map Value.pointer ++ [.pointer (some ⟨P.gv, 0, none⟩), .pointer (some ⟨P.gr, 0, none⟩)]) 127
  polls : ∀ i : Nat, i < 12 → (P.pp[i]? = some none ∧ s.ps[i]? = some none) ∨ ∃ b p, P.pp[i]? = some (some ⟨b, 0, none⟩) ∧ s.ps[i]? = some (some p) ∧ Blk w b p.cells 133 ∧ M b
  pinj : ∀ (i j b : Nat), P.pp[i]? = some (some ⟨b, 0, none⟩) → P.pp[j]? = some (some ⟨b, 0, none⟩) → i = j
  keys : ∀ c ∈ P.rs, (0 ≤ c.a ∧ c.a < 10) ∧ (0 ≤ c.b ∧ c.b < 4)
  recs : ∀ a t, (GR.getC a t P.rs = none ∧ s.rc a t = RecS.zero) ∨ ∃ q, GR.getC a t P.rs = some (some ⟨q, 0, none⟩) ∧ RecB M w q (s.rc a t) ∧ M q
  rinj : ∀ (a t a' t' : Int) (q : Nat), GR.getC a t P.rs = some (some ⟨q, 0, none⟩) → GR.getC a' t' P.rs = some (some ⟨q, 0, none⟩) → a = a' ∧ t = t'
def Vot (F : Nat → Prop) (w : World) (v : Nat) (P : VP) (s : VS) : Prop := ∃ F1 F2 M, VotX F1 F2 M w v P s ∧ (∀ q, F1 q → F q) ∧ (∀ q, F2 q → F q) ∧ (∀ q, M q → F q) ∧ (∀ q, F q → q < w.heap.size)
theorem Vot.lt {F : Nat → Prop} {w : World} {v : Nat} {P : VP} {s : VS} (h : Vot F w v P s) : ∀ q, F q → q < w.heap.size := by
  obtain ⟨_, _, _, _, _, _, _, h⟩ := h; exact h
theorem Vot.at_ {F : Nat → Prop} {w : World} {v : Nat} {P : VP} {s : VS} (h : Vot F w v P s) : F v := by
  obtain ⟨_, _, _, h, _, _, h3, _⟩ := h; exact h3 _ h.mv
theorem Vot.inv {F : Nat → Prop} {w : World} {v : Nat} {P : VP} {s : VS} (h : Vot F w v P s) : s.Inv := by
  obtain ⟨_, _, _, h, _⟩ := h; exact h.inv
theorem RecB.keep {S M : Nat → Prop} {w w' : World} {q : Nat} {r : RecS} (h : RecB M w q r) (k : Keep S w w') (h1 : ¬ S q) (h2 : ∀ b, M b → ¬ S b) : RecB M w' q r := by
  obtain ⟨dp, hb, hn, hs⟩ := h
  refine ⟨dp, hb.keep k h1, hn, fun d hd => ?_⟩
  obtain ⟨b, e, hb', hM⟩ := hs d hd
  exact ⟨b, e, hb'.keep k (h2 b hM), hM⟩
theorem RecB.quiet {M : Nat → Prop} {N : Nat} {w w' : World} {q : Nat} {r : RecS} (h : RecB M w q r) (k : Keep (lb N w) w w') : RecB M w' q r := by
  obtain ⟨dp, hb, hn, hs⟩ := h
  refine ⟨dp, hb.quiet k, hn, fun d hd => ?_⟩
  obtain ⟨b, e, hb', hM⟩ := hs d hd
  exact ⟨b, e, hb'.quiet k, hM⟩
theorem RecB.mono {M M' : Nat → Prop} {w : World} {q : Nat} {r : RecS} (h : RecB M w q r) (hM : ∀ b, M b → M' b) : RecB M' w q r := by
  obtain ⟨dp, hb, hn, hs⟩ := h
  refine ⟨dp, hb, hn, fun d hd => ?_⟩
  obtain ⟨b, e, hb', h⟩ := hs d hd
  exact ⟨b, e, hb', hM b h⟩
theorem RecB.keep1 {M : Nat → Prop} {w w' : World} {q b : Nat} {r : RecS} (h : RecB M w q r) (k : Keep (only b) w w') {L : List Value} {t : TypeId} (hb : Blk w b L t) (hq : q ≠ b) (ht : t ≠ 307) : RecB M w' q r := by
  obtain ⟨dp, hb', hn, hs⟩ := h
  refine ⟨dp, hb'.keep k hq, hn, fun d hd => ?_⟩
  obtain ⟨c, e, hc, hM⟩ := hs d hd
  exact ⟨c, e, hc.keep k (Blk.ne hc hb (fun e => ht e.symm)), hM⟩
theorem VotX.keepM {F1 F2 M F1' F2' M' : Nat → Prop} {w w' : World} {v : Nat} {P : VP} {s : VS} (h : VotX F1 F2 M w v P s) (S : Nat → Prop) (k : Keep S w w') (hS : ∀ q, M q → ¬ S q) {cs : List GV.Ci} (hi : ({ s with cs := cs } : VS).Inv) (hM : ∀ q, M q → M' q) (hlt : ∀ q, M' q → q < w'.heap.size)
    (h1 : GV.Grd F1' w' P.gv cs) (h2 : GR.Grd F2' w' P.gr P.rs) (d12 : ∀ q, F1' q → ¬ F2' q) (d1 : ∀ q, F1' q → ¬ M' q) (d2 : ∀ q, F2' q → ¬ M' q) : VotX F1' F2' M' w' v P { s with cs := cs } where
  inv := hi
  gv := h1
  gr := h2
  mv := hM _ h.mv
  lt := hlt
  d12 := d12
  d1 := d1
  d2 := d2
  len := h.len
  blk := h.blk.keep k (hS _ h.mv)
  polls := fun i hi => by
    rcases h.polls i hi with h | ⟨b, p, e1, e2, hb, hm⟩
    · exact .inl h
    · exact .inr ⟨b, p, e1, e2, hb.keep k (hS _ hm), hM _ hm⟩
  pinj := h.pinj
  keys := h.keys
  recs := fun a t => by
    rcases h.recs a t with h | ⟨q, e, hr, hm⟩
    · exact .inl h
    · exact .inr ⟨q, e, (hr.keep k (hS _ hm) hS).mono hM, hM _ hm⟩
  rinj := h.rinj
theorem Vot.keep {S F : Nat → Prop} {w w' : World} {v : Nat} {P : VP} {s : VS} (h : Vot F w v P s) (k : Keep S w w') (hS : ∀ q, F q → ¬ S q) : Vot F w' v P s := by
  obtain ⟨F1, F2, M, h, h1, h2, h3, h4⟩ := h
  exact ⟨F1, F2, M, h.keepM S k (fun q hq => hS q (h3 q hq)) h.inv (fun _ h => h) (fun q hq => Nat.lt_of_lt_of_le (h.lt q hq) k.size) (h.gv.keep k (fun q hq => hS q (h1 q hq))) (h.gr.keep k (fun q hq => hS q (h2 q hq))) h.d12 h.d1 h.d2, h1, h2, h3, fun q hq => Nat.lt_of_lt_of_le (h4 q hq) k.size⟩
theorem Vot.quiet {N : Nat} {F : Nat → Prop} {w w' : World} {v : Nat} {P : VP} {s : VS} (h : Vot F w v P s) (k : Keep (lb N w) w w') : Vot F w' v P s := by
  obtain ⟨F1, F2, M, h, h1, h2, h3, h4⟩ := h
  refine ⟨F1, F2, M, ⟨h.inv, h.gv.quiet k, h.gr.quiet k, h.mv, fun q hq => Nat.lt_of_lt_of_le (h.lt q hq) k.size, h.d12, h.d1, h.d2, h.len, h.blk.quiet k, fun i hi => ?_, h.pinj, h.keys, fun a t => ?_, h.rinj⟩, h1, h2, h3, fun q hq => Nat.lt_of_lt_of_le (h4 q hq) k.size⟩
  · rcases h.polls i hi with h | ⟨b, p, e1, e2, hb, hm⟩
    · exact .inl h
    · exact .inr ⟨b, p, e1, e2, hb.quiet k, hm⟩
  · rcases h.recs a t with h | ⟨q, e, hr, hm⟩
    · exact .inl h
    · exact .inr ⟨q, e, hr.quiet k, hm⟩
theorem Vot.poll {F : Nat → Prop} {w : World} {v : Nat} {P : VP} {s : VS} (h : Vot F w v P s) {i : Nat} {b : Nat} (e : P.pp[i]? = some (some ⟨b, 0, none⟩)) : ∃ p, s.ps[i]? = some (some p) ∧ Blk w b p.cells 133 ∧ F b := by
  obtain ⟨F1, F2, M, h, h1, h2, h3, h4⟩ := h
  have hi : i < 12 := by rw [← h.len]; exact (List.getElem?_eq_some_iff.1 e).1
  rcases h.polls i hi with ⟨e1, _⟩ | ⟨b', p, e1, e2, hb, hm⟩
  · rw [e] at e1; cases e1
  · rw [e] at e1; cases e1; exact ⟨p, e2, hb, h3 _ hm⟩
theorem Vot.pollB {F : Nat → Prop} {w : World} {v : Nat} {P : VP} {s : VS} (h : Vot F w v P s) {i b : Nat} {p : PollS} (e : P.pp[i]? = some (some ⟨b, 0, none⟩)) (e2 : s.ps[i]? = some (some p)) : Blk w b p.cells 133 ∧ F b := by
  obtain ⟨p', h1, h2⟩ := h.poll e
  rw [e2] at h1; cases h1; exact h2
theorem Vot.recB {F : Nat → Prop} {w : World} {v : Nat} {P : VP} {s : VS} (h : Vot F w v P s) {a t : Int} {q : Nat} (e : GR.getC a t P.rs = some (some ⟨q, 0, none⟩)) : RecB F w q (s.rc a t) ∧ F q := by
  obtain ⟨F1, F2, M, h, h1, h2, h3, h4⟩ := h
  rcases h.recs a t with ⟨e1, _⟩ | ⟨q', e1, hr, hm⟩
  · rw [e] at e1; cases e1
  · rw [e] at e1; cases e1; exact ⟨hr.mono h3, h3 _ hm⟩
theorem Vot.vblk {F : Nat → Prop} {w : World} {v : Nat} {P : VP} {s : VS} (h : Vot F w v P s) : P.pp.length = 12 ∧ Blk w v (P.pp.map Value.pointer ++ [.pointer (some ⟨P.gv, 0, none⟩), .pointer (some ⟨P.gr, 0, none⟩)]) 127 := by
  obtain ⟨_, _, _, h, _⟩ := h; exact ⟨h.len, h.blk⟩
theorem VotX.setPoll {F1 F2 M : Nat → Prop} {w w' : World} {v : Nat} {P : VP} {s : VS} (h : VotX F1 F2 M w v P s) {i b : Nat} {p p' : PollS} (e : P.pp[i]? = some (some ⟨b, 0, none⟩)) (e2 : s.ps[i]? = some (some p)) (k : Keep (only b) w w') (hb' : Blk w' b p'.cells 133) : VotX F1 F2 M w' v P (s.setP i p') ∧ M b := by
  have hi : i < 12 := by rw [← h.len]; exact (List.getElem?_eq_some_iff.1 e).1
  have hMb : M b ∧ Blk w b p.cells 133 := by
    rcases h.polls i hi with ⟨e1, _⟩ | ⟨b', p, e1, e3, hb, hm⟩
    · rw [e] at e1; cases e1
    · rw [e] at e1; cases e1; rw [e2] at e3; cases e3; exact ⟨hm, hb⟩
  obtain ⟨hM, hB⟩ := hMb
  have hil : i < s.ps.length := (List.getElem?_eq_some_iff.1 e2).1
  refine ⟨⟨⟨by show (s.ps.set i (some p')).length = 12; rw [List.length_set]; exact h.inv.len, fun c hc => ?_, h.inv.dels⟩, h.gv.keep k (fun q hq hs => h.d1 q hq (by rw [show q = b from hs]; exact hM)), h.gr.keep k (fun q hq hs => h.d2 q hq (by rw [show q = b from hs]; exact hM)), h.mv, fun q hq => Nat.lt_of_lt_of_le (h.lt q hq) k.size, h.d12, h.d1, h.d2, h.len, h.blk.keep k (Blk.ne h.blk hB (by decide)), fun j hj => ?_, h.pinj, h.keys, fun a t => ?_, h.rinj⟩, hM⟩
  · obtain ⟨g1, g2, g3, p0, g4⟩ := h.inv.votes c hc
    refine ⟨g1, g2, g3, ?_⟩
    show ∃ p, (s.ps.set i (some p'))[c.b.toNat]? = some (some p)
    by_cases he : i = c.b.toNat
    · exact ⟨p', by rw [← he, List.getElem?_set_self hil]⟩
    · exact ⟨p0, by rw [List.getElem?_set_ne he]; exact g4⟩
  · show (P.pp[j]? = some none ∧ (s.ps.set i (some p'))[j]? = some none) ∨ ∃ b p, P.pp[j]? = some (some ⟨b, 0, none⟩) ∧ (s.ps.set i (some p'))[j]? = some (some p) ∧ Blk w' b p.cells 133 ∧ M b
    by_cases he : i = j
    · subst he
      exact .inr ⟨b, p', e, by rw [List.getElem?_set_self hil], hb', hM⟩
    · rw [List.getElem?_set_ne he]
      rcases h.polls j hj with hh | ⟨b2, p2, f1, f2, hb2, hm2⟩
      · exact .inl hh
      · exact .inr ⟨b2, p2, f1, f2, hb2.keep k (fun hs => he (h.pinj i j b e (by rw [f1, show b2 = b from hs]))), hm2⟩
  · rcases h.recs a t with hh | ⟨q, e1, hr, hm⟩
    · exact .inl hh
    · refine .inr ⟨q, e1, hr.keep1 k hB ?_ (by decide), hm⟩
      obtain ⟨_, hq, _⟩ := hr
      exact Blk.ne hq hB (by decide)
theorem Vot.setPoll {F : Nat → Prop} {w w' : World} {v : Nat} {P : VP} {s : VS} (h : Vot F w v P s) {i b : Nat} {p p' : PollS} (e : P.pp[i]? = some (some ⟨b, 0, none⟩)) (e2 : s.ps[i]? = some (some p)) (k : Keep (only b) w w') (hb' : Blk w' b p'.cells 133) : Vot F w' v P (s.setP i p') := by
  obtain ⟨F1, F2, M, h, h1, h2, h3, h4⟩ := h
  exact ⟨F1, F2, M, (h.setPoll e e2 k hb').1, h1, h2, h3, fun q hq => Nat.lt_of_lt_of_le (h4 q hq) k.size⟩
theorem Vot.recX {F : Nat → Prop} {w : World} {v : Nat} {P : VP} {s : VS} (h : Vot F w v P s) {a t : Int} {q : Nat} (e : GR.getC a t P.rs = some (some ⟨q, 0, none⟩)) : F q ∧ ((s.rc a t).d = none ∧ Blk w q (RecS.cells none (s.rc a t)) 141 ∨ ∃ d b, (s.rc a t).d = some d ∧ Blk w q (RecS.cells (some ⟨b, 0, none⟩) (s.rc a t)) 141 ∧ Blk w b d.cells 307 ∧ F b) := by
  obtain ⟨⟨dp, g1, g2, g3⟩, hF⟩ := h.recB e
  refine ⟨hF, ?_⟩
  cases hd : (s.rc a t).d with
  | none => rw [g2 hd] at g1; exact .inl ⟨rfl, g1⟩
  | some d =>
    obtain ⟨b, rfl, e2, e3⟩ := g3 d hd
    exact .inr ⟨d, b, rfl, g1, e2, e3⟩
def pollAt (s : VS) (ref : Int) : Option PollS := if 0 ≤ ref ∧ ref < 12 then (s.ps[ref.toNat]?).join else none
theorem Vot.pollcase {F : Nat → Prop} {w : World} {v : Nat} {P : VP} {s : VS} (h : Vot F w v P s) (ref : Int) : (pollAt s ref = none ∧ (¬ (0 ≤ ref ∧ ref < 12) ∨ ∃ i : Nat, ref = (i : Int) ∧ i < 12 ∧ P.pp[i]? = some none)) ∨ ∃ (i b : Nat) (p : PollS), ref = (i : Int) ∧ i < 12 ∧ P.pp[i]? = some (some ⟨b, 0, none⟩) ∧ s.ps[i]? = some (some p) ∧ pollAt s ref = some p := by
  obtain ⟨F1, F2, M, h, _⟩ := h
  by_cases hr : 0 ≤ ref ∧ ref < 12
  · obtain ⟨i, rfl⟩ : ∃ i : Nat, ref = i := ⟨ref.toNat, by omega⟩
    rcases h.polls i (by omega) with ⟨e1, e2⟩ | ⟨b, p, e1, e2, _⟩
    · exact .inl ⟨by unfold pollAt; rw [if_pos hr, Int.toNat_natCast, e2]; rfl, .inr ⟨i, rfl, by omega, e1⟩⟩
    · exact .inr ⟨i, b, p, rfl, by omega, e1, e2, by unfold pollAt; rw [if_pos hr, Int.toNat_natCast, e2]; rfl⟩
  · exact .inl ⟨by unfold pollAt; rw [if_neg hr], .inl hr⟩
theorem over_pp {pp : List (Option Addr)} {tl : List Value} {i : Nat} {x : Option Addr} (hi : i < pp.length) : over (pp.map Value.pointer ++ tl) (0 + i * 1) [.pointer x] = (pp.set i x).map Value.pointer ++ tl := by
  have e : 0 + i * 1 = ([] : List Value).length + i := by simp
  have h1 := over_mid (X := []) (Y := pp.map Value.pointer) (Z := tl) (k := i) (v := .pointer x) (by simpa using hi)
  rw [e]
  simp only [List.nil_append] at h1 ⊢
  rw [h1]
  congr 1
  unfold over
  rw [List.map_set, List.set_eq_take_append_cons_drop, if_pos (by simpa using hi)]
  simp
theorem Vot.addPoll {F : Nat → Prop} {w w' : World} {v : Nat} {P : VP} {s : VS} (h : Vot F w v P s) {i b : Nat} {p : PollS} (hi : i < 12) (_e : P.pp[i]? = some none) (k : Keep (only v) w w') (hv : Blk w' v ((P.pp.set i (some ⟨b, 0, none⟩)).map Value.pointer ++ [.pointer (some ⟨P.gv, 0, none⟩), .pointer (some ⟨P.gr, 0, none⟩)]) 127) (hb : Blk w' b p.cells 133) (hge : w.heap.size ≤ b) :
    ∃ F', Vot F' w' v { P with pp := P.pp.set i (some ⟨b, 0, none⟩) } (s.setP i p) ∧ ∀ q, F' q → F q ∨ w.heap.size ≤ q := by
  obtain ⟨F1, F2, M, h, h1, h2, h3, h4⟩ := h
  have hsz := k.size
  have hbv := hb.lt
  have hil : i < s.ps.length := by rw [h.inv.len]; exact hi
  have hpl : i < P.pp.length := by rw [h.len]; exact hi
  have kS : ∀ x, x < w.heap.size → x ≠ v → ¬ only v x := fun x _ hx hs => hx hs
  refine ⟨fun x => F x ∨ x = b, ⟨F1, F2, fun x => M x ∨ x = b, ⟨⟨by show (s.ps.set i (some p)).length = 12; rw [List.length_set]; exact h.inv.len, fun c hc => ?_, h.inv.dels⟩, h.gv.keep k (fun x hx hs => h.d1 x hx (by rw [show x = v from hs]; exact h.mv)), h.gr.keep k (fun x hx hs => h.d2 x hx (by rw [show x = v from hs]; exact h.mv)), .inl h.mv, ?_, h.d12, ?_, ?_, by show (P.pp.set i _).length = 12; rw [List.length_set]; exact h.len, hv, fun j hj => ?_, ?_, h.keys, fun a t => ?_, h.rinj⟩, fun x hx => .inl (h1 x hx), fun x hx => .inl (h2 x hx), fun x hx => hx.imp (h3 x) id, ?_⟩, fun q hq => hq.imp id (fun e => by rw [e]; exact hge)⟩
  · obtain ⟨g1, g2, g3, p0, g4⟩ := h.inv.votes c hc
    refine ⟨g1, g2, g3, ?_⟩
    show ∃ p', (s.ps.set i (some p))[c.b.toNat]? = some (some p')
    by_cases he : i = c.b.toNat
    · exact ⟨p, by rw [← he, List.getElem?_set_self hil]⟩
    · exact ⟨p0, by rw [List.getElem?_set_ne he]; exact g4⟩
  · rintro x (hx | rfl)
    · exact Nat.lt_of_lt_of_le (h.lt x hx) hsz
    · exact hbv
  · rintro x hx (hm | rfl)
    · exact h.d1 x hx hm
    · have := h.gv.lt _ hx; omega
  · rintro x hx (hm | rfl)
    · exact h.d2 x hx hm
    · have := h.gr.lt _ hx; omega
  · show ((P.pp.set i (some ⟨b, 0, none⟩))[j]? = some none ∧ (s.ps.set i (some p))[j]? = some none) ∨ ∃ b' p', (P.pp.set i (some ⟨b, 0, none⟩))[j]? = some (some ⟨b', 0, none⟩) ∧ (s.ps.set i (some p))[j]? = some (some p') ∧ Blk w' b' p'.cells 133 ∧ (M b' ∨ b' = b)
    by_cases he : i = j
    · subst he
      exact .inr ⟨b, p, by rw [List.getElem?_set_self hpl], by rw [List.getElem?_set_self hil], hb, .inr rfl⟩
    · rw [List.getElem?_set_ne he, List.getElem?_set_ne he]
      rcases h.polls j hj with hh | ⟨b2, p2, f1, f2, hb2, hm2⟩
      · exact .inl hh
      · exact .inr ⟨b2, p2, f1, f2, hb2.keep k (Blk.ne hb2 h.blk (by decide)), .inl hm2⟩
  · show ∀ (j j' c : Nat), (P.pp.set i (some ⟨b, 0, none⟩))[j]? = some (some ⟨c, 0, none⟩) → (P.pp.set i (some ⟨b, 0, none⟩))[j']? = some (some ⟨c, 0, none⟩) → j = j'
    have hold : ∀ (j c : Nat), P.pp[j]? = some (some ⟨c, 0, none⟩) → c < w.heap.size := by
      intro j c hjc
      have hj : j < 12 := by rw [← h.len]; exact (List.getElem?_eq_some_iff.1 hjc).1
      rcases h.polls j hj with ⟨f1, _⟩ | ⟨b2, p2, f1, f2, hb2, hm2⟩
      · rw [hjc] at f1; cases f1
      · rw [hjc] at f1; cases f1; exact hb2.lt
    intro j j' c hj hj'
    by_cases e1 : i = j <;> by_cases e2 : i = j'
    · exact e1.symm.trans e2
    · subst e1
      rw [List.getElem?_set_self hpl] at hj; cases hj
      rw [List.getElem?_set_ne e2] at hj'
      have := hold _ _ hj'; omega
    · subst e2
      rw [List.getElem?_set_self hpl] at hj'; cases hj'
      rw [List.getElem?_set_ne e1] at hj
      have := hold _ _ hj; omega
    · rw [List.getElem?_set_ne e1] at hj
      rw [List.getElem?_set_ne e2] at hj'
      exact h.pinj _ _ _ hj hj'
  · rcases h.recs a t with hh | ⟨q, e1, hr, hm⟩
    · exact .inl hh
    · refine .inr ⟨q, e1, (hr.keep1 k h.blk ?_ (by decide)).mono (fun _ h => .inl h), .inl hm⟩
      obtain ⟨_, hq, _⟩ := hr
      exact Blk.ne hq h.blk (by decide)
  · rintro x (hx | rfl)
    · exact Nat.lt_of_lt_of_le (h4 x hx) hsz
    · exact hbv
theorem GR.getC_set (a b : Int) (x : Option Addr) : ∀ (cs : List GR.Ci), GR.Srt cs → ∀ a' b', GR.getC a' b' (GR.setC a b x cs) = if a' = a ∧ b' = b then some x else GR.getC a' b' cs
  | [], _, a', b' => by
    simp only [GR.setC, GR.getC]
    by_cases h : a' = a ∧ b' = b
    · rw [if_pos ⟨h.1.symm, h.2.symm⟩, if_pos h]
    · rw [if_neg (fun e => h ⟨e.1.symm, e.2.symm⟩), if_neg h]
  | c :: l, hs, a', b' => by
    have hs2 := List.pairwise_cons.1 hs
    have ih := GR.getC_set a b x l hs2.2 a' b'
    simp only [GR.setC]
    split
    · rename_i he
      simp only [GR.getC]
      by_cases h : a' = a ∧ b' = b
      · rw [if_pos ⟨h.1.symm, h.2.symm⟩, if_pos h]
      · rw [if_neg (fun e => h ⟨e.1.symm, e.2.symm⟩), if_neg h, if_neg (fun e => h ⟨by omega, by omega⟩)]
    · rename_i he
      split
      · simp only [GR.getC]
        rw [ih]
        by_cases h : a' = a ∧ b' = b
        · rw [if_pos h, if_pos h, if_neg (fun e => he ⟨by omega, by omega⟩)]
        · rw [if_neg h, if_neg h]
      · simp only [GR.getC]
        by_cases h : a' = a ∧ b' = b
        · rw [if_pos ⟨h.1.symm, h.2.symm⟩, if_pos h]
        · rw [if_neg (fun e => h ⟨e.1.symm, e.2.symm⟩), if_neg h]
theorem Vot.addRec {F F2 F2' M F1 : Nat → Prop} {w w' : World} {v b : Nat} {P : VP} {s : VS} (h : VotX F1 F2 M w v P s) (h1 : ∀ q, F1 q → F q) (h2 : ∀ q, F2 q → F q) (h3 : ∀ q, M q → F q) (h4 : ∀ q, F q → q < w.heap.size) {a t : Int} (ha : 0 ≤ a ∧ a < 10) (ht : 0 ≤ t ∧ t < 4) (e : GR.getC a t P.rs = none) (k : Keep F2 w w')
    (hG : GR.Grd F2' w' P.gr (GR.setC a t (some ⟨b, 0, none⟩) P.rs)) (hfr : ∀ q, F2' q → F2 q ∨ w.heap.size ≤ q) (hb : Blk w' b (RecS.cells none RecS.zero) 141) (hge : w.heap.size ≤ b) (hbF : ¬ F2' b) :
    ∃ F', Vot F' w' v { P with rs := GR.setC a t (some ⟨b, 0, none⟩) P.rs } s ∧ (∀ q, F' q → F q ∨ w.heap.size ≤ q) := by
  have hsz := k.size
  have hkM : ∀ x, M x → ¬ F2 x := fun x hx hf => h.d2 x hf hx
  have hset := GR.getC_set a t (some ⟨b, 0, none⟩) P.rs h.gr.1
  have hz : s.rc a t = RecS.zero := by
    rcases h.recs a t with hh | ⟨q, e1, _⟩
    · exact hh.2
    · rw [e] at e1; cases e1
  refine ⟨fun x => F x ∨ F2' x ∨ x = b, ⟨F1, F2', fun x => M x ∨ x = b, ⟨h.inv, h.gv.keep k (fun x hx hs => h.d12 x hx hs), hG, .inl h.mv, ?_, ?_, ?_, ?_, h.len, h.blk.keep k (hkM _ h.mv), fun j hj => ?_, h.pinj, ?_, fun x y => ?_, ?_⟩, fun x hx => .inl (h1 x hx), fun x hx => .inr (.inl hx), fun x hx => hx.elim (fun hx => .inl (h3 x hx)) (fun hx => .inr (.inr hx)), ?_⟩, ?_⟩
  · rintro x (hx | rfl)
    · exact Nat.lt_of_lt_of_le (h.lt x hx) hsz
    · exact hb.lt
  · intro x hx hx2
    rcases hfr x hx2 with hh | hh
    · exact h.d12 x hx hh
    · have := h.gv.lt x hx; omega
  · rintro x hx (hm | rfl)
    · exact h.d1 x hx hm
    · have := h.gv.lt _ hx; omega
  · rintro x hx (hm | rfl)
    · rcases hfr x hx with hh | hh
      · exact h.d2 x hh hm
      · have := h.lt x hm; omega
    · exact hbF hx
  · rcases h.polls j hj with hh | ⟨b2, p2, f1, f2, hb2, hm2⟩
    · exact .inl hh
    · exact .inr ⟨b2, p2, f1, f2, hb2.keep k (hkM _ hm2), .inl hm2⟩
  · intro c hc
    rcases GR.setC_mem hc with hh | hh
    · rw [hh.1, hh.2]; exact ⟨ha, ht⟩
    · exact h.keys c hh
  · show (GR.getC x y (GR.setC a t (some ⟨b, 0, none⟩) P.rs) = none ∧ _) ∨ ∃ q, GR.getC x y (GR.setC a t (some ⟨b, 0, none⟩) P.rs) = some (some ⟨q, 0, none⟩) ∧ RecB _ w' q (s.rc x y) ∧ _
    rw [hset]
    by_cases he : x = a ∧ y = t
    · rw [if_pos he, he.1, he.2, hz]
      exact .inr ⟨b, rfl, ⟨none, hb, fun _ => rfl, fun d hd => by cases hd⟩, .inr rfl⟩
    · rw [if_neg he]
      rcases h.recs x y with hh | ⟨q, e1, hr, hm⟩
      · exact .inl hh
      · exact .inr ⟨q, e1, (hr.keep k (hkM _ hm) hkM).mono (fun _ h => .inl h), .inl hm⟩
  · show ∀ (x y x' y' : Int) (q : Nat), GR.getC x y (GR.setC a t (some ⟨b, 0, none⟩) P.rs) = some (some ⟨q, 0, none⟩) → GR.getC x' y' (GR.setC a t (some ⟨b, 0, none⟩) P.rs) = some (some ⟨q, 0, none⟩) → x = x' ∧ y = y'
    have hold : ∀ (x y : Int) (q : Nat), GR.getC x y P.rs = some (some ⟨q, 0, none⟩) → q < w.heap.size := by
      intro x y q hq
      rcases h.recs x y with ⟨f1, _⟩ | ⟨q2, f1, hr, hm⟩
      · rw [hq] at f1; cases f1
      · rw [hq] at f1; cases f1; exact h.lt _ hm
    intro x y x' y' q
    rw [hset, hset]
    by_cases e1 : x = a ∧ y = t <;> by_cases e2 : x' = a ∧ y' = t
    · intro _ _; exact ⟨by omega, by omega⟩
    · rw [if_pos e1, if_neg e2]
      intro hq hq'; cases hq
      have := hold _ _ _ hq'; omega
    · rw [if_neg e1, if_pos e2]
      intro hq hq'; cases hq'
      have := hold _ _ _ hq; omega
    · rw [if_neg e1, if_neg e2]
      exact h.rinj x y x' y' q
  · rintro x (hx | hx | rfl)
    · exact Nat.lt_of_lt_of_le (h4 x hx) hsz
    · exact hG.lt x hx
    · exact hb.lt
  · rintro x (hx | hx | rfl)
    · exact .inl hx
    · exact (hfr x hx).imp (h2 x) id
    · exact .inr hge
theorem Vot.setCs {F F1 F2 M F1' : Nat → Prop} {w w' : World} {v : Nat} {P : VP} {s : VS} {cs : List GV.Ci} (h : VotX F1 F2 M w v P s) (h1 : ∀ q, F1 q → F q) (h2 : ∀ q, F2 q → F q) (h3 : ∀ q, M q → F q) (h4 : ∀ q, F q → q < w.heap.size) (k : Keep F1 w w') (hG : GV.Grd F1' w' P.gv cs) (hfr : ∀ q, F1' q → F1 q ∨ w.heap.size ≤ q) (hi : ({ s with cs := cs } : VS).Inv) :
    ∃ F', Vot F' w' v P { s with cs := cs } ∧ (∀ q, F' q → F q ∨ w.heap.size ≤ q) := by
  have hsz := k.size
  refine ⟨fun x => F x ∨ F1' x, ⟨F1', F2, M, h.keepM F1 k (fun x hx hf => h.d1 x hf hx) hi (fun _ h => h) (fun x hx => Nat.lt_of_lt_of_le (h.lt x hx) hsz) hG (h.gr.keep k (fun x hx hf => h.d12 x hf hx)) ?_ ?_ h.d2, fun x hx => .inr hx, fun x hx => .inl (h2 x hx), fun x hx => .inl (h3 x hx), ?_⟩, ?_⟩
  · intro x hx hx2
    rcases hfr x hx with hh | hh
    · exact h.d12 x hh hx2
    · have := h.gr.lt x hx2; omega
  · intro x hx hm
    rcases hfr x hx with hh | hh
    · exact h.d1 x hh hm
    · have := h.lt x hm; omega
  · rintro x (hx | hx)
    · exact Nat.lt_of_lt_of_le (h4 x hx) hsz
    · exact hG.lt x hx
  · rintro x (hx | hx)
    · exact .inl hx
    · exact (hfr x hx).imp (h1 x) id
end Go.Al

namespace Go.Al
open Go Go.RowKit Go.Proofs
set_option maxRecDepth 10000 in
theorem vIn_spec (n lo hi : Int) (w : World) : Calls Tryz.prog 96 #[nt n, nt lo, nt hi] w fun e w' => e = .returned (.bool (decide (lo ≤ n ∧ n ≤ hi))) ∧ w' = w := by
 refine enterV Tryz.func96 rfl [nt n, nt lo, nt hi] 15 rfl rfl rfl ?_
 refine Vr ?_
 refine On 1 [0, 1, 2] ?_
 refine Oer ?_
 refine Os 4 [(0, nt n), (2, nt hi), (10, .bool (decide (n ≥ lo)))] ?_
 by_cases hg1 : n ≥ lo
 ·
  refine OI_eq [(0, nt n), (2, nt hi), (10, .bool true)] (by first | simp [hg1] | rfl) ?_
  refine Ose [(6, .bool (decide (n ≤ hi)))] ?_
  refine V_ret ?_
  exact X_return (.bool (decide (n ≤ hi))) rfl ⟨by congr 2; simp only [Bool.decide_and]; by_cases h1 : lo ≤ n <;> simp [h1] <;> omega, rfl⟩
 refine OI_eq [(0, nt n), (2, nt hi), (10, .bool false)] (by first | simp [hg1] | rfl) ?_
 refine Ose [(6, .bool false)] ?_
 refine V_ret ?_
 exact X_return (.bool false) rfl ⟨by congr 2; simp only [Bool.decide_and]; by_cases h1 : lo ≤ n <;> simp [h1] <;> omega, rfl⟩
set_option maxRecDepth 10000 in
theorem isAcc_spec (n : Int) (w : World) : Calls Tryz.prog 62 #[nt n] w fun e w' => e = .returned (.bool (decide (0 ≤ n ∧ n ≤ 9))) ∧ w' = w := by
 refine enterV Tryz.func62 rfl [nt n] 5 rfl rfl rfl ?_
 refine Vr ?_
 refine On 1 [0] ?_
 refine Oer ?_
 refine On 1 [3] ?_
 refine Ok (kl 96 #[(.tmp 3), (.const (nt 0)), (.const (nt 9))] #[3, 3, 3]) 96 #[nt n, nt 0, nt 9] (some 4) (vIn_spec n 0 9 _) ?_
 rintro _ w ⟨rfl, rfl⟩
 refine ⟨_, rfl, ?_⟩
 refine Ose [(2, .bool (decide ((0 : Int) ≤ n ∧ n ≤ 9)))] ?_
 refine V_ret ?_
 exact X_return (.bool (decide ((0 : Int) ≤ n ∧ n ≤ 9))) rfl ⟨rfl, rfl⟩
set_option maxRecDepth 10000 in
theorem isTrk_spec (n : Int) (w : World) : Calls Tryz.prog 97 #[nt n] w fun e w' => e = .returned (.bool (decide (0 ≤ n ∧ n ≤ 3))) ∧ w' = w := by
 refine enterV Tryz.func97 rfl [nt n] 5 rfl rfl rfl ?_
 refine Vr ?_
 refine On 1 [0] ?_
 refine Oer ?_
 refine On 1 [3] ?_
 refine Ok (kl 96 #[(.tmp 3), (.const (nt 0)), (.const (nt 3))] #[3, 3, 3]) 96 #[nt n, nt 0, nt 3] (some 4) (vIn_spec n 0 3 _) ?_
 rintro _ w ⟨rfl, rfl⟩
 refine ⟨_, rfl, ?_⟩
 refine Ose [(2, .bool (decide ((0 : Int) ≤ n ∧ n ≤ 3)))] ?_
 refine V_ret ?_
 exact X_return (.bool (decide ((0 : Int) ≤ n ∧ n ≤ 3))) rfl ⟨rfl, rfl⟩
set_option maxRecDepth 10000 in
theorem pollfn_at (v gv gr i : Nat) (pp : List (Option Addr)) (x : Option Addr) (w : World) (hv : Blk w v (pp.map Value.pointer ++ [pt gv, pt gr]) 127) (hlen : pp.length = 12) (hi : i < 12) (hx : pp[i]? = some x) : Calls Tryz.prog 64 #[pt v, nt (i : Int)] w (rk_ w (.pointer x)) := by
 have hK0 : Keep none_ w w := Keep.refl _ _
 have hzhK0 := Keep.size hK0
 refine enterV Tryz.func64 rfl [pt v, nt (i : Int)] 18 rfl rfl rfl ?_
 refine Vr ?_
 refine On 1 [0, 1] ?_
 refine Oe ?_
 refine V_seq ?_
 refine Vr ?_
 refine On 4 [0, 1, 7, 8] ?_
 refine Ok (kl 96 #[(.tmp 8), (.const (nt 0)), (.const (nt 11))] #[3, 3, 3]) 96 #[nt (i : Int), nt 0, nt 11] (some 9) (vIn_spec (i : Int) 0 11 _) ?_
 rintro _ w ⟨rfl, rfl⟩
 refine ⟨_, rfl, ?_⟩
 refine Ose [(0, pt v), (1, nt (i : Int)), (11, .bool (!(decide ((0 : Int) ≤ (i : Int) ∧ (i : Int) ≤ 11))))] ?_
 refine V_eq [(0, pt v), (1, nt (i : Int)), (11, .bool false)] (by rw [decide_eq_true (by omega : (0 : Int) ≤ (i : Int) ∧ (i : Int) ≤ 11)]; rfl) ?_
 refine V_false rfl ?_
 refine V_skip ?_
 refine X_then ?_
 refine Vr ?_
 refine On 4 [13, 15] ?_
 refine OI_pure (some 16) (.indexAddr 125 (.tmp 15) (.tmp 13)) (by kernel_rfl) (pure_idxArr (b := v) (o := 0) (m := 12) (kd := .i64) (j := i) (E := 124) (sz := 1) (by kernel_rfl) (by kernel_rfl) (by kernel_rfl) (by omega)) ?_
 refine Oc 124 (.tmp 16) (0 + i * 1) (.pointer x) (some 17) hv (by rw [show 0 + i * 1 = i by omega, List.getElem?_append_left (by rw [List.length_map]; omega), List.getElem?_map, hx]; rfl) ?_
 refine Ose [(4, .pointer x)] ?_
 refine V_ret ?_
 exact X_return (.pointer x) rfl ⟨rfl, hK0⟩
set_option maxRecDepth 10000 in
theorem pollfn_out (v : Nat) (ref : Int) (w : World) (hr : ¬ (0 ≤ ref ∧ ref < 12)) : Calls Tryz.prog 64 #[pt v, nt ref] w (rk_ w (.pointer none)) := by
 have hK0 : Keep none_ w w := Keep.refl _ _
 have hzhK0 := Keep.size hK0
 refine enterV Tryz.func64 rfl [pt v, nt ref] 18 rfl rfl rfl ?_
 refine Vr ?_
 refine On 1 [0, 1] ?_
 refine Oe ?_
 refine V_seq ?_
 refine Vr ?_
 refine On 4 [0, 1, 7, 8] ?_
 refine Ok (kl 96 #[(.tmp 8), (.const (nt 0)), (.const (nt 11))] #[3, 3, 3]) 96 #[nt ref, nt 0, nt 11] (some 9) (vIn_spec ref 0 11 _) ?_
 rintro _ w ⟨rfl, rfl⟩
 refine ⟨_, rfl, ?_⟩
 refine Ose [(0, pt v), (1, nt ref), (11, .bool (!(decide ((0 : Int) ≤ ref ∧ ref ≤ 11))))] ?_
 refine V_eq [(0, pt v), (1, nt ref), (11, .bool true)] (by rw [decide_eq_false (by omega : ¬ ((0 : Int) ≤ ref ∧ ref ≤ 11))]; rfl) ?_
 refine V_true rfl ?_
 refine Vs [(4, .pointer none)] ?_
 refine V_ret ?_
 refine X_ret_then ?_
 exact X_return (.pointer none) rfl ⟨rfl, hK0⟩
theorem poll_some (F : Nat → Prop) (v : Nat) (P : VP) (s : VS) (i b : Nat) (w : World) (h : Vot F w v P s) (hi : i < 12) (e : P.pp[i]? = some (some ⟨b, 0, none⟩)) : Calls Tryz.prog 64 #[pt v, nt (i : Int)] w (rk_ w (pt b)) := pollfn_at v P.gv P.gr i P.pp _ w h.vblk.2 h.vblk.1 hi e
theorem poll_none (F : Nat → Prop) (v : Nat) (P : VP) (s : VS) (ref : Int) (w : World) (h : Vot F w v P s) (hc : ¬ (0 ≤ ref ∧ ref < 12) ∨ ∃ i : Nat, ref = (i : Int) ∧ i < 12 ∧ P.pp[i]? = some none) : Calls Tryz.prog 64 #[pt v, nt ref] w (rk_ w (.pointer none)) := by
  rcases hc with hc | ⟨i, rfl, hi, e⟩
  · exact pollfn_out v ref w hc
  · exact pollfn_at v P.gv P.gr i P.pp none w h.vblk.2 h.vblk.1 hi e
theorem grid_get_some {F : Nat → Prop} {g : Nat} {cs : List GR.Ci} {a b : Int} {x : Option Addr} {w : World} (h : GR.Grd F w g cs) (e : GR.getC a b cs = some x) : Calls Tryz.prog 108 #[pt g, nt a, nt b] w (rk_ w (.tuple #[.pointer x, .bool true])) :=
  (GR.get_spec F g cs a b w h.gr).mono (by rintro e' w' ⟨rfl, hk⟩; exact ⟨by rw [e]; rfl, hk⟩)
theorem grid_get_none {F : Nat → Prop} {g : Nat} {cs : List GR.Ci} {a b : Int} {w : World} (h : GR.Grd F w g cs) (e : GR.getC a b cs = none) : Calls Tryz.prog 108 #[pt g, nt a, nt b] w (rk_ w (.tuple #[.pointer none, .bool false])) :=
  (GR.get_spec F g cs a b w h.gr).mono (by rintro e' w' ⟨rfl, hk⟩; exact ⟨by rw [e]; rfl, hk⟩)
theorem sorted_len {l : List Int} {N : Nat} (hs : l.Pairwise (· < ·)) (hb : ∀ x ∈ l, 0 ≤ x ∧ x < N) : l.length ≤ N := by
  have key : ∀ (l : List Int) (lo : Int), l.Pairwise (· < ·) → (∀ x ∈ l, lo ≤ x ∧ x < N) → lo ≤ N → (l.length : Int) ≤ N - lo := by
    intro l
    induction l with
    | nil => intro lo _ _ h; simp; omega
    | cons x l ih =>
      intro lo hs hb hlo
      have h1 := hb x (List.mem_cons_self ..)
      have h2 := List.pairwise_cons.1 hs
      have h3 := ih (x + 1) h2.2 (fun y hy => ⟨by have := h2.1 y hy; omega, (hb y (List.mem_cons_of_mem _ hy)).2⟩) (by omega)
      simp only [List.length_cons]; omega
  have := key l 0 hs hb (by omega)
  omega
theorem GR.len40 {cs : List GR.Ci} (hs : GR.Srt cs) (hb : ∀ c ∈ cs, (0 ≤ c.a ∧ c.a < 10) ∧ (0 ≤ c.b ∧ c.b < 4)) : cs.length ≤ 40 := by
  have h1 : (cs.map fun c => c.a * 4 + c.b).length ≤ 40 := sorted_len (by
    rw [List.pairwise_map]
    refine List.Pairwise.imp_of_mem ?_ hs
    intro x y hx hy hxy
    have := hb x hx; have := hb y hy
    rcases hxy with h | h <;> omega) (by
    intro z hz
    obtain ⟨c, hc, rfl⟩ := List.mem_map.1 hz
    have := hb c hc; omega)
  simpa using h1
theorem GV.len120 {cs : List GV.Ci} (hs : GV.Srt cs) (hb : ∀ c ∈ cs, (0 ≤ c.a ∧ c.a < 10) ∧ (0 ≤ c.b ∧ c.b < 12)) : cs.length ≤ 120 := by
  have h1 : (cs.map fun c => c.a * 12 + c.b).length ≤ 120 := sorted_len (by
    rw [List.pairwise_map]
    refine List.Pairwise.imp_of_mem ?_ hs
    intro x y hx hy hxy
    have := hb x hx; have := hb y hy
    rcases hxy with h | h <;> omega) (by
    intro z hz
    obtain ⟨c, hc, rfl⟩ := List.mem_map.1 hz
    have := hb c hc; omega)
  simpa using h1
theorem set_grdO {F : Nat → Prop} {g : Nat} {cs : List GR.Ci} {a b : Int} {x : Option Addr} {w : World} (h : GR.Grd F w g cs) (hmax : cs.length < 100000) : Calls Tryz.prog 109 #[pt g, nt a, nt b, .pointer x] w fun e w' => e = .returned (.tuple #[]) ∧ (∃ F', GR.Grd F' w' g (GR.setC a b x cs) ∧ (∀ q, F' q → F q ∨ w.heap.size ≤ q)) ∧ Keep (only g) w w' :=
  (GR.set_spec (fun q => F q ∨ w.heap.size ≤ q) g cs a b x w (h.gr.mono (fun _ h => .inl h)) (fun _ h => .inr h) hmax).mono (by
    rintro e w' ⟨rfl, h1, h2⟩
    exact ⟨rfl, ⟨GR.more F w w', GR.Grd.of h1 (.inl h.at_) (fun q hq hD => hD.imp id (fun h => ⟨h, hq⟩)) (fun q hq => by rcases hq with hq | hq; exact Nat.lt_of_lt_of_le (h.lt q hq) h2.size; exact hq.2), fun q hq => hq.imp id (·.1)⟩, h2⟩)
theorem GR.Grd.ne {F : Nat → Prop} {g : Nat} {cs : List GR.Ci} {w : World} (h : GR.Grd F w g cs) {x : Nat} {L : List Value} {t : TypeId} (hx : Blk w x L t) (ht : t ≠ 197) : x ≠ g := by
  obtain ⟨_, _, _, _, A, cap, h5, _⟩ := h
  exact Blk.ne hx h5.blk ht
set_option maxRecDepth 10000 in
theorem record_has (v gv gr : Nat) (pp : List (Option Addr)) (rs : List GR.Ci) (F2 : Nat → Prop) (a t : Int) (q : Nat) (w : World) (hv : Blk w v (pp.map Value.pointer ++ [pt gv, pt gr]) 127) (hlen : pp.length = 12) (hG : GR.Grd F2 w gr rs) (ha : 0 ≤ a ∧ a < 10) (ht : 0 ≤ t ∧ t < 4) (e : GR.getC a t rs = some (some ⟨q, 0, none⟩)) : Calls Tryz.prog 65 #[pt v, nt a, nt t] w (rk_ w (pt q)) := by
 have hK0 : Keep none_ w w := Keep.refl _ _
 have hzhK0 := Keep.size hK0
 refine enterV Tryz.func65 rfl [pt v, nt a, nt t] 46 rfl rfl rfl ?_
 refine Vr ?_
 refine On 1 [0, 1, 2] ?_
 refine Oe ?_
 refine V_seq ?_
 refine Vr ?_
 refine On 4 [0, 1, 2, 11, 12] ?_
 refine Ok (kl 62 #[(.tmp 12)] #[3]) 62 #[nt a] (some 13) (isAcc_spec a _) ?_
 rintro _ w ⟨rfl, rfl⟩
 refine ⟨_, rfl, ?_⟩
 refine Os 8 [(0, pt v), (1, nt a), (2, nt t), (16, .bool (!(decide (0 ≤ a ∧ a ≤ 9))))] ?_
 refine Oq (u := .bool (!(decide (0 ≤ a ∧ a ≤ 9)))) (v := .bool false) 16 (by rw [decide_eq_true (by omega : 0 ≤ a ∧ a ≤ 9)]; rfl) ?_
 refine On 9 [0, 1, 2, 16, 17] ?_
 refine Ok (kl 97 #[(.tmp 17)] #[3]) 97 #[nt t] (some 18) (isTrk_spec t _) ?_
 rintro _ w ⟨rfl, rfl⟩
 refine ⟨_, rfl, ?_⟩
 refine Ose [(0, pt v), (1, nt a), (2, nt t), (20, .bool (!(decide (0 ≤ t ∧ t ≤ 3))))] ?_
 refine V_eq [(0, pt v), (1, nt a), (2, nt t), (20, .bool false)] (by rw [decide_eq_true (by omega : 0 ≤ t ∧ t ≤ 3)]; rfl) ?_
 refine V_false rfl ?_
 refine V_skip ?_
 refine X_then ?_
 refine Vr ?_
 refine On 3 [0, 1, 2, 26] ?_
 refine Oc 121 (.tmp 26) 13 (pt gr) (some 27) hv (by rw [List.getElem?_append_right (by rw [List.length_map]; omega), List.length_map, hlen]; rfl) ?_
 refine On 6 [0, 1, 2, 27, 28, 29] ?_
 refine Ok (kl 108 #[(.tmp 27), (.tmp 28), (.tmp 29)] #[121, 3, 3]) 108 #[pt gr, nt a, nt t] (some 30) (grid_get_some hG e) ?_
 rintro _ w9 ⟨rfl, hk10⟩
 refine ⟨_, rfl, ?_⟩
 have hsz11 := Keep.size hk10
 replace hv := hv.k0 hk10
 replace hK0 := hK0.tn hk10
 refine On 12 [0, 1, 2, 7, 8] ?_
 refine Oe ?_
 refine V_seq ?_
 refine Vs [(0, pt v), (1, nt a), (2, nt t), (7, pt q), (34, .bool false)] ?_
 refine V_false rfl ?_
 refine V_skip ?_
 refine X_then ?_
 refine Vs [(6, pt q)] ?_
 refine V_ret ?_
 exact X_return (pt q) rfl ⟨rfl, hK0⟩
set_option maxRecDepth 10000 in
theorem record_new (v gv gr : Nat) (pp : List (Option Addr)) (rs : List GR.Ci) (F2 : Nat → Prop) (a t : Int) (w : World) (hv : Blk w v (pp.map Value.pointer ++ [pt gv, pt gr]) 127) (hlen : pp.length = 12) (hG : GR.Grd F2 w gr rs) (ha : 0 ≤ a ∧ a < 10) (ht : 0 ≤ t ∧ t < 4) (e : GR.getC a t rs = none) (hmax : rs.length < 100000) (hF2v : ∀ q, F2 q → q ≠ v) : Calls Tryz.prog 65 #[pt v, nt a, nt t] w fun e w' => ∃ (b : Nat) (F2' : Nat → Prop), e = .returned (pt b) ∧ w.heap.size ≤ b ∧ Blk w' b (RecS.cells none RecS.zero) 141 ∧ GR.Grd F2' w' gr (GR.setC a t (some ⟨b, 0, none⟩) rs) ∧ (∀ q, F2' q → F2 q ∨ w.heap.size ≤ q) ∧ ¬ F2' b ∧ Keep (only gr) w w' := by
 have hF2lt := GR.Grd.lt hG
 have hgrlt := hF2lt _ (GR.Grd.at_ hG)
 have hvlt := hv.lt
 have hgrv := hF2v _ (GR.Grd.at_ hG)
 have hK0 : Keep (only gr) w w := Keep.refl _ _
 have hzhK0 := Keep.size hK0
 refine enterV Tryz.func65 rfl [pt v, nt a, nt t] 46 rfl rfl rfl ?_
 refine Vr ?_
 refine On 1 [0, 1, 2] ?_
 refine Oe ?_
 refine V_seq ?_
 refine Vr ?_
 refine On 4 [0, 1, 2, 11, 12] ?_
 refine Ok (kl 62 #[(.tmp 12)] #[3]) 62 #[nt a] (some 13) (isAcc_spec a _) ?_
 rintro _ w ⟨rfl, rfl⟩
 refine ⟨_, rfl, ?_⟩
 refine Os 8 [(0, pt v), (1, nt a), (2, nt t), (16, .bool (!(decide (0 ≤ a ∧ a ≤ 9))))] ?_
 refine Oq (u := .bool (!(decide (0 ≤ a ∧ a ≤ 9)))) (v := .bool false) 16 (by rw [decide_eq_true (by omega : 0 ≤ a ∧ a ≤ 9)]; rfl) ?_
 refine On 9 [0, 1, 2, 16, 17] ?_
 refine Ok (kl 97 #[(.tmp 17)] #[3]) 97 #[nt t] (some 18) (isTrk_spec t _) ?_
 rintro _ w ⟨rfl, rfl⟩
 refine ⟨_, rfl, ?_⟩
 refine Ose [(0, pt v), (1, nt a), (2, nt t), (20, .bool (!(decide (0 ≤ t ∧ t ≤ 3))))] ?_
 refine V_eq [(0, pt v), (1, nt a), (2, nt t), (20, .bool false)] (by rw [decide_eq_true (by omega : 0 ≤ t ∧ t ≤ 3)]; rfl) ?_
 refine V_false rfl ?_
 refine V_skip ?_
 refine X_then ?_
 refine Vr ?_
 refine On 3 [0, 1, 2, 26] ?_
 refine Oc 121 (.tmp 26) 13 (pt gr) (some 27) hv (by rw [List.getElem?_append_right (by rw [List.length_map]; omega), List.length_map, hlen]; rfl) ?_
 refine On 6 [0, 1, 2, 27, 28, 29] ?_
 refine Ok (kl 108 #[(.tmp 27), (.tmp 28), (.tmp 29)] #[121, 3, 3]) 108 #[pt gr, nt a, nt t] (some 30) (grid_get_none hG e) ?_
 rintro _ w9 ⟨rfl, hk10⟩
 refine ⟨_, rfl, ?_⟩
 have hsz11 := Keep.size hk10
 replace hv := hv.k0 hk10
 replace hG := GR.Grd.keep hG hk10 nk
 replace hK0 := hK0.tn hk10
 refine On 12 [0, 1, 2, 7, 8] ?_
 refine Oe ?_
 refine V_seq ?_
 refine Vs [(0, pt v), (1, nt a), (2, nt t), (7, .pointer none), (34, .bool true)] ?_
 refine V_true rfl ?_
 refine Vr ?_
 refine On 1 [0, 1, 2, 35] ?_
 refine OI_box 141 (.tmp 35) (.agg #[.pointer none, nt 0, nt 0, nt 0, nt 0]) [.pointer none, nt 0, nt 0, nt 0, nt 0] (some 36) (by kernel_rfl) (by kernel_rfl) (by kernel_rfl) ?_
 intro b12 w12 e12 hb12 k12 z12
 have hsz13 := Keep.size k12
 replace hv := hv.k0 k12
 replace hG := GR.Grd.keep hG k12 nk
 replace hK0 := hK0.tn k12
 have hb12lt := hb12.lt
 refine On 3 [0, 1, 2, 7] ?_
 refine Oe ?_
 refine V_region ?_
 refine On 3 [1, 2, 7, 39] ?_
 refine Oc 121 (.tmp 39) 13 (pt gr) (some 40) hv (by rw [List.getElem?_append_right (by rw [List.length_map]; omega), List.length_map, hlen]; rfl) ?_
 refine On 7 [7, 40, 41, 42, 43] ?_
 refine Ok (kl 109 #[(.tmp 40), (.tmp 41), (.tmp 42), (.tmp 43)] #[121, 3, 3, 123]) 109 #[pt gr, nt a, nt t, pt b12] (some 44) (set_grdO (a := a) (b := t) (x := (some ⟨b12, 0, none⟩)) hG hmax) ?_
 rintro _ w16 ⟨rfl, ⟨F18, ho19, hfr20⟩, hk17⟩
 refine ⟨_, rfl, ?_⟩
 have hsz21 := Keep.size hk17
 replace hv := hv.k1 hk17
 replace hb12 := hb12.k1 hk17
 replace hK0 := Keep.fr hK0 hk17
 have own23 : ∀ q, F18 q → q ≠ v ∧ q ≠ v ∧ q ≠ b12 := fun q hq => by rcases hfr20 q hq with h | h; (have h1 := hF2v q h; have h2 := hF2lt q h; omega); omega
 have lt22 := GR.Grd.lt ho19
 refine Oer ?_
 refine Ose [(6, pt b12)] ?_
 refine V_ret ?_
 exact X_return (pt b12) rfl ⟨b12, F18, rfl, by omega, hb12, ho19, (fun x hx => by rcases hfr20 x hx with h | h; exact .inl h; exact .inr (by omega)), (fun hx => by have h1 := own23 _ hx; omega), hK0⟩
theorem record_spec (F : Nat → Prop) (v : Nat) (P : VP) (s : VS) (a t : Int) (w : World) (h : Vot F w v P s) (ha : 0 ≤ a ∧ a < 10) (ht : 0 ≤ t ∧ t < 4) : Calls Tryz.prog 65 #[pt v, nt a, nt t] w fun e w' => ∃ (b : Nat) (P' : VP), e = .returned (pt b) ∧ GR.getC a t P'.rs = some (some ⟨b, 0, none⟩) ∧ P'.pp = P.pp ∧ P'.gv = P.gv ∧ (∀ x y z, GR.getC x y P.rs = some z → GR.getC x y P'.rs = some z) ∧ (∀ x L, Blk w x L 307 → Blk w' x L 307) ∧ (∃ F', Vot F' w' v P' s ∧ (∀ q, F' q → F q ∨ w.heap.size ≤ q)) ∧ Keep F w w' := by
  obtain ⟨F1, F2, M, hX, h1, h2, h3, h4⟩ := h
  rcases hX.recs a t with ⟨e, _⟩ | ⟨q, e, _⟩
  · have hl := GR.len40 hX.gr.1 hX.keys
    refine (record_new v P.gv P.gr P.pp P.rs F2 a t w hX.blk hX.len hX.gr ha ht e (by omega) (fun q hq he => hX.d2 q hq (he ▸ hX.mv))).mono ?_
    rintro e' w' ⟨b, F2', rfl, hge, hb, hG, hfr, hnb, hk⟩
    have hk2 : Keep F2 w w' := hk.mono (fun q _ hq => by rw [show q = P.gr from hq]; exact hX.gr.at_)
    refine ⟨b, { P with rs := GR.setC a t (some ⟨b, 0, none⟩) P.rs }, rfl, ?_, rfl, rfl, ?_, fun x L hx => hx.keep hk (hX.gr.ne hx (by decide)), Vot.addRec hX h1 h2 h3 h4 ha ht e hk2 hG hfr hb hge hnb, hk2.mono (fun q _ hq => h2 q hq)⟩
    · show GR.getC a t (GR.setC a t _ P.rs) = _
      rw [GR.getC_set a t _ _ hX.gr.1, if_pos ⟨rfl, rfl⟩]
    · intro x y z hz
      show GR.getC x y (GR.setC a t _ P.rs) = _
      rw [GR.getC_set a t _ _ hX.gr.1]
      by_cases he : x = a ∧ y = t
      · rw [he.1, he.2, e] at hz; cases hz
      · rw [if_neg he]; exact hz
  · refine (record_has v P.gv P.gr P.pp P.rs F2 a t q w hX.blk hX.len hX.gr ha ht e).mono ?_
    rintro e' w' ⟨rfl, hk⟩
    exact ⟨q, P, rfl, e, rfl, rfl, fun _ _ _ h => h, fun x L hx => hx.keep hk id, ⟨F, Vot.keep ⟨F1, F2, M, hX, h1, h2, h3, h4⟩ hk nk, fun _ h => .inl h⟩, hk.ofNone⟩
end Go.Al

namespace Go.Al
open Go Go.RowKit Go.Proofs
def openE (s : VS) (ref t : Int) : Int := if ¬ (0 ≤ ref ∧ ref < 12) ∨ ¬ (0 ≤ t ∧ t < 4) then 1 else if (pollAt s ref).isSome then 5 else 0
def openS (s : VS) (ref t : Int) : VS := if openE s ref t = 0 then s.setP ref.toNat ⟨t, Tly.zero, 0, 0⟩ else s
def closeE (s : VS) (ref st : Int) : Int := match pollAt s ref with | none => 4 | some q => if q.state ≠ 0 then 9 else if ¬ (2 ≤ st ∧ st ≤ 6) then 1 else 0
def closeS (s : VS) (ref st e : Int) : VS := match pollAt s ref with | none => s | some q => if closeE s ref st = 0 then s.setP ref.toNat { q with state := st, stop := e } else s
def tallyT (s : VS) (ref : Int) : Tly := match pollAt s ref with | none => Tly.zero | some q => q.t
set_option maxRecDepth 10000 in
theorem open_bad (v : Nat) (ref t : Int) (w : World) (hr : ¬ (0 ≤ ref ∧ ref < 12) ∨ ¬ (0 ≤ t ∧ t < 4)) : Calls Tryz.prog 44 #[pt v, nt ref, nt t] w (rk_ w (nt 1)) := by
 have hK0 : Keep none_ w w := Keep.refl _ _
 have hzhK0 := Keep.size hK0
 refine enterV Tryz.func44 rfl [pt v, nt ref, nt t] 33 rfl rfl rfl ?_
 refine Vr ?_
 refine On 1 [0, 1, 2] ?_
 refine Oe ?_
 refine V_seq ?_
 refine V_block ?_
 refine Vr ?_
 refine On 4 [0, 1, 2, 10, 11] ?_
 refine Ok (kl 96 #[(.tmp 11), (.const (nt 0)), (.const (nt 11))] #[3, 3, 3]) 96 #[nt ref, nt 0, nt 11] (some 12) (vIn_spec ref 0 11 _) ?_
 rintro _ w ⟨rfl, rfl⟩
 refine ⟨_, rfl, ?_⟩
 refine Os 8 [(0, pt v), (1, nt ref), (2, nt t), (15, .bool (!(decide ((0 : Int) ≤ ref ∧ ref ≤ 11))))] ?_
 by_cases hg2 : (0 : Int) ≤ ref ∧ ref ≤ 11
 ·
  refine OI_eq [(0, pt v), (1, nt ref), (2, nt t), (15, .bool false)] (by first | simp [hg2] | rfl) ?_
  refine On 9 [0, 1, 2, 15, 16] ?_
  refine Ok (kl 97 #[(.tmp 16)] #[3]) 97 #[nt t] (some 17) (isTrk_spec t _) ?_
  rintro _ w ⟨rfl, rfl⟩
  refine ⟨_, rfl, ?_⟩
  refine Ose [(0, pt v), (1, nt ref), (2, nt t), (7, .bool (!(decide (0 ≤ t ∧ t ≤ 3))))] ?_
  refine V_not (0 ≤ t ∧ t ≤ 3) (by kernel_rfl) (fun hc4 => ?_) (fun hc4 => ?_)
  ·
   refine Vs [(6, nt 1)] ?_
   refine V_ret ?_
   refine X_ret_block ?_
   refine X_ret_then ?_
   exact X_return (nt 1) rfl ⟨rfl, hK0⟩
  exact (by omega : False).elim
 refine OI_eq [(0, pt v), (1, nt ref), (2, nt t), (15, .bool true)] (by first | simp [hg2] | rfl) ?_
 refine Ose [(0, pt v), (1, nt ref), (2, nt t), (7, .bool true)] ?_
 refine V_true rfl ?_
 refine Vs [(6, nt 1)] ?_
 refine V_ret ?_
 refine X_ret_block ?_
 refine X_ret_then ?_
 exact X_return (nt 1) rfl ⟨rfl, hK0⟩
set_option maxRecDepth 10000 in
theorem open_has (v gv gr i : Nat) (pp : List (Option Addr)) (b : Nat) (t : Int) (w : World) (hv : Blk w v (pp.map Value.pointer ++ [pt gv, pt gr]) 127) (hlen : pp.length = 12) (hi : i < 12) (hx : pp[i]? = some (some ⟨b, 0, none⟩)) (ht : 0 ≤ t ∧ t < 4) : Calls Tryz.prog 44 #[pt v, nt (i : Int), nt t] w (rk_ w (nt 5)) := by
 have hK0 : Keep none_ w w := Keep.refl _ _
 have hzhK0 := Keep.size hK0
 refine enterV Tryz.func44 rfl [pt v, nt (i : Int), nt t] 33 rfl rfl rfl ?_
 refine Vr ?_
 refine On 1 [0, 1, 2] ?_
 refine Oe ?_
 refine V_seq ?_
 refine V_block ?_
 refine Vr ?_
 refine On 4 [0, 1, 2, 10, 11] ?_
 refine Ok (kl 96 #[(.tmp 11), (.const (nt 0)), (.const (nt 11))] #[3, 3, 3]) 96 #[nt (i : Int), nt 0, nt 11] (some 12) (vIn_spec (i : Int) 0 11 _) ?_
 rintro _ w ⟨rfl, rfl⟩
 refine ⟨_, rfl, ?_⟩
 refine Os 8 [(0, pt v), (1, nt (i : Int)), (2, nt t), (15, .bool (!(decide ((0 : Int) ≤ (i : Int) ∧ (i : Int) ≤ 11))))] ?_
 refine Oq (u := .bool (!(decide ((0 : Int) ≤ (i : Int) ∧ (i : Int) ≤ 11)))) (v := .bool false) 15 (by rw [decide_eq_true (by omega : (0 : Int) ≤ (i : Int) ∧ (i : Int) ≤ 11)]; rfl) ?_
 refine On 9 [0, 1, 2, 15, 16] ?_
 refine Ok (kl 97 #[(.tmp 16)] #[3]) 97 #[nt t] (some 17) (isTrk_spec t _) ?_
 rintro _ w ⟨rfl, rfl⟩
 refine ⟨_, rfl, ?_⟩
 refine Ose [(0, pt v), (1, nt (i : Int)), (2, nt t), (7, .bool (!(decide (0 ≤ t ∧ t ≤ 3))))] ?_
 refine V_eq [(0, pt v), (1, nt (i : Int)), (2, nt t), (7, .bool false)] (by rw [decide_eq_true (by omega : 0 ≤ t ∧ t ≤ 3)]; rfl) ?_
 refine V_false rfl ?_
 refine Vr ?_
 refine On 2 [0, 1, 2, 21, 22] ?_
 refine Ok (kl 64 #[(.tmp 21), (.tmp 22)] #[33, 3]) 64 #[pt v, nt (i : Int)] (some 23) (pollfn_at v gv gr i pp (some ⟨b, 0, none⟩) _ hv hlen hi hx) ?_
 rintro _ w9 ⟨rfl, hk10⟩
 refine ⟨_, rfl, ?_⟩
 have hsz11 := Keep.size hk10
 replace hv := hv.k0 hk10
 replace hK0 := hK0.tn hk10
 refine Ose [(0, pt v), (1, nt (i : Int)), (2, nt t), (20, .bool true)] ?_
 refine V_true rfl ?_
 refine Vs [(6, nt 5)] ?_
 refine V_ret ?_
 refine X_ret_block ?_
 refine X_ret_then ?_
 exact X_return (nt 5) rfl ⟨rfl, hK0⟩
set_option maxRecDepth 10000 in
theorem open_new (v gv gr i : Nat) (pp : List (Option Addr)) (t : Int) (w : World) (hv : Blk w v (pp.map Value.pointer ++ [pt gv, pt gr]) 127) (hlen : pp.length = 12) (hi : i < 12) (hx : pp[i]? = some none) (ht : 0 ≤ t ∧ t < 4) : Calls Tryz.prog 44 #[pt v, nt (i : Int), nt t] w fun e w' => ∃ b : Nat, e = .returned (nt 0) ∧ w.heap.size ≤ b ∧ Blk w' b (PollS.cells ⟨t, Tly.zero, 0, 0⟩) 133 ∧ Blk w' v ((pp.set i (some ⟨b, 0, none⟩)).map Value.pointer ++ [pt gv, pt gr]) 127 ∧ Keep (only v) w w' := by
 have hvlt := hv.lt
 have hK0 : Keep (only v) w w := Keep.refl _ _
 have hzhK0 := Keep.size hK0
 refine enterV Tryz.func44 rfl [pt v, nt (i : Int), nt t] 33 rfl rfl rfl ?_
 refine Vr ?_
 refine On 1 [0, 1, 2] ?_
 refine Oe ?_
 refine V_seq ?_
 refine V_block ?_
 refine Vr ?_
 refine On 4 [0, 1, 2, 10, 11] ?_
 refine Ok (kl 96 #[(.tmp 11), (.const (nt 0)), (.const (nt 11))] #[3, 3, 3]) 96 #[nt (i : Int), nt 0, nt 11] (some 12) (vIn_spec (i : Int) 0 11 _) ?_
 rintro _ w ⟨rfl, rfl⟩
 refine ⟨_, rfl, ?_⟩
 refine Os 8 [(0, pt v), (1, nt (i : Int)), (2, nt t), (15, .bool (!(decide ((0 : Int) ≤ (i : Int) ∧ (i : Int) ≤ 11))))] ?_
 refine Oq (u := .bool (!(decide ((0 : Int) ≤ (i : Int) ∧ (i : Int) ≤ 11)))) (v := .bool false) 15 (by rw [decide_eq_true (by omega : (0 : Int) ≤ (i : Int) ∧ (i : Int) ≤ 11)]; rfl) ?_
 refine On 9 [0, 1, 2, 15, 16] ?_
 refine Ok (kl 97 #[(.tmp 16)] #[3]) 97 #[nt t] (some 17) (isTrk_spec t _) ?_
 rintro _ w ⟨rfl, rfl⟩
 refine ⟨_, rfl, ?_⟩
 refine Ose [(0, pt v), (1, nt (i : Int)), (2, nt t), (7, .bool (!(decide (0 ≤ t ∧ t ≤ 3))))] ?_
 refine V_eq [(0, pt v), (1, nt (i : Int)), (2, nt t), (7, .bool false)] (by rw [decide_eq_true (by omega : 0 ≤ t ∧ t ≤ 3)]; rfl) ?_
 refine V_false rfl ?_
 refine Vr ?_
 refine On 2 [0, 1, 2, 21, 22] ?_
 refine Ok (kl 64 #[(.tmp 21), (.tmp 22)] #[33, 3]) 64 #[pt v, nt (i : Int)] (some 23) (pollfn_at v gv gr i pp none _ hv hlen hi hx) ?_
 rintro _ w9 ⟨rfl, hk10⟩
 refine ⟨_, rfl, ?_⟩
 have hsz11 := Keep.size hk10
 replace hv := hv.k0 hk10
 replace hK0 := hK0.tn hk10
 refine Ose [(0, pt v), (1, nt (i : Int)), (2, nt t), (20, .bool false)] ?_
 refine V_false rfl ?_
 refine V_skip ?_
 refine X_block ?_
 refine X_then ?_
 refine Vr ?_
 refine On 4 [25, 26, 28] ?_
 refine OI_box 133 (.tmp 28) (.agg #[nt t, nt 0, nt 0, nt 0, nt 0, nt 0]) [nt t, nt 0, nt 0, nt 0, nt 0, nt 0] (some 29) (by kernel_rfl) (by kernel_rfl) (by kernel_rfl) ?_
 intro b12 w12 e12 hb12 k12 z12
 have hsz13 := Keep.size k12
 replace hv := hv.k0 k12
 replace hK0 := hK0.tn k12
 have hb12lt := hb12.lt
 refine On 7 [26, 29, 31] ?_
 refine OI_pure (some 32) (.indexAddr 125 (.tmp 31) (.tmp 26)) (by kernel_rfl) (pure_idxArr (b := v) (o := 0) (m := 12) (kd := .i64) (j := i) (E := 124) (sz := 1) (by kernel_rfl) (by kernel_rfl) (by kernel_rfl) (by omega)) ?_
 refine OI_set (m := 1) (kd := false) 124 (.tmp 32) (.tmp 29) (0 + i * 1) (pt b12) [pt b12] none (by kernel_rfl) (by kernel_rfl) (by kernel_rfl) hv (by kernel_rfl) (by kernel_rfl) (by kernel_rfl) (by rw [List.length_append, List.length_map, hlen]; show 0 + i * 1 + 1 ≤ 14; omega) (by simp [Value.oneCell']) ?_
 intro w14 hv_17 hk15 hz16
 replace hv_17 : Blk w14 v ((pp.set i ((some ⟨b12, 0, none⟩))).map Value.pointer ++ [pt gv, pt gr]) 127 := (by rw [over_pp (by omega)] at hv_17; exact hv_17)
 have hsz18 := Keep.size hk15
 replace hb12 := hb12.k1 hk15
 replace hK0 := Keep.fr hK0 hk15
 refine Oer ?_
 refine Ose [(6, nt 0)] ?_
 refine V_ret ?_
 exact X_return (nt 0) rfl ⟨b12, rfl, by omega, hb12, hv_17, hK0⟩
def VotE (F : Nat → Prop) (w : World) (v : Nat) (s : VS) : Prop := ∃ P, Vot F w v P s
theorem VotE.lt {F : Nat → Prop} {w : World} {v : Nat} {s : VS} (h : VotE F w v s) : ∀ q, F q → q < w.heap.size := by obtain ⟨P, h⟩ := h; exact h.lt
theorem VotE.at_ {F : Nat → Prop} {w : World} {v : Nat} {s : VS} (h : VotE F w v s) : F v := by obtain ⟨P, h⟩ := h; exact h.at_
theorem VotE.inv {F : Nat → Prop} {w : World} {v : Nat} {s : VS} (h : VotE F w v s) : s.Inv := by obtain ⟨P, h⟩ := h; exact h.inv
theorem VotE.keep {S F : Nat → Prop} {w w' : World} {v : Nat} {s : VS} (h : VotE F w v s) (k : Keep S w w') (hS : ∀ q, F q → ¬ S q) : VotE F w' v s := by obtain ⟨P, h⟩ := h; exact ⟨P, h.keep k hS⟩
theorem VotE.quiet {N : Nat} {F : Nat → Prop} {w w' : World} {v : Nat} {s : VS} (h : VotE F w v s) (k : Keep (lb N w) w w') : VotE F w' v s := by obtain ⟨P, h⟩ := h; exact ⟨P, h.quiet k⟩
theorem VotE.same {F : Nat → Prop} {w w' : World} {v : Nat} {s : VS} (h : VotE F w v s) (k : Keep none_ w w') : (∃ F', VotE F' w' v s ∧ (∀ q, F' q → F q ∨ w.heap.size ≤ q)) ∧ Keep F w w' := ⟨⟨F, h.keep k nk, fun _ h => .inl h⟩, k.ofNone⟩
theorem open_spec (F : Nat → Prop) (v : Nat) (s : VS) (ref t : Int) (w : World) (h : VotE F w v s) : Calls Tryz.prog 44 #[pt v, nt ref, nt t] w fun e w' => e = .returned (nt (openE s ref t)) ∧ (∃ F', VotE F' w' v (openS s ref t) ∧ (∀ q, F' q → F q ∨ w.heap.size ≤ q)) ∧ Keep F w w' := by
  by_cases hr : ¬ (0 ≤ ref ∧ ref < 12) ∨ ¬ (0 ≤ t ∧ t < 4)
  · have he : openE s ref t = 1 := by unfold openE; rw [if_pos hr]
    have hs : openS s ref t = s := by unfold openS; rw [he, if_neg (by decide)]
    rw [he, hs]
    refine (open_bad v ref t w hr).mono ?_
    rintro e w' ⟨rfl, hk⟩
    exact ⟨rfl, h.same hk⟩
  · obtain ⟨P, hP⟩ := h
    have hr2 : (0 ≤ ref ∧ ref < 12) ∧ (0 ≤ t ∧ t < 4) := by omega
    rcases hP.pollcase ref with ⟨hn, hc⟩ | ⟨i, b, q, rfl, hi, e1, e2, hs⟩
    · rcases hc with hc | ⟨i, rfl, hi, e1⟩
      · exact absurd hr2.1 hc
      have he : openE s (i : Int) t = 0 := by unfold openE; rw [if_neg hr, hn]; rfl
      have hs : openS s (i : Int) t = s.setP i ⟨t, Tly.zero, 0, 0⟩ := by unfold openS; rw [he, if_pos rfl, Int.toNat_natCast]
      rw [he, hs]
      refine (open_new v P.gv P.gr i P.pp t w hP.vblk.2 hP.vblk.1 hi e1 hr2.2).mono ?_
      rintro e w' ⟨b, rfl, hge, hb, hv, hk⟩
      obtain ⟨F', hF, hfr⟩ := hP.addPoll hi e1 hk hv hb hge
      exact ⟨rfl, ⟨F', ⟨_, hF⟩, hfr⟩, hk.mono (fun q _ hq => by rw [show q = v from hq]; exact hP.at_)⟩
    · have he : openE s (i : Int) t = 5 := by unfold openE; rw [if_neg hr, hs]; rfl
      have hs : openS s (i : Int) t = s := by unfold openS; rw [he, if_neg (by decide)]
      rw [he, hs]
      refine (open_has v P.gv P.gr i P.pp b t w hP.vblk.2 hP.vblk.1 hi e1 hr2.2).mono ?_
      rintro e w' ⟨rfl, hk⟩
      exact ⟨rfl, VotE.same ⟨P, hP⟩ hk⟩
set_option maxRecDepth 10000 in
theorem close_out (v : Nat) (ref st en : Int) (w : World) (hr : ¬ (0 ≤ ref ∧ ref < 12)) : Calls Tryz.prog 42 #[pt v, nt ref, nt st, nt en] w (rk_ w (nt 4)) := by
 have hK0 : Keep none_ w w := Keep.refl _ _
 have hzhK0 := Keep.size hK0
 refine enterV Tryz.func42 rfl [pt v, nt ref, nt st, nt en] 37 rfl rfl rfl ?_
 refine Vr ?_
 refine On 1 [0, 1, 2, 3] ?_
 refine Oer ?_
 refine On 2 [0, 2, 3, 10, 11] ?_
 refine Ok (kl 64 #[(.tmp 10), (.tmp 11)] #[33, 3]) 64 #[pt v, nt ref] (some 12) (pollfn_out v ref _ hr) ?_
 rintro _ w1 ⟨rfl, hk2⟩
 refine ⟨_, rfl, ?_⟩
 have hsz3 := Keep.size hk2
 replace hK0 := hK0.tn hk2
 refine On 4 [0, 2, 3, 9] ?_
 refine Oe ?_
 refine V_seq ?_
 refine V_block ?_
 refine Vs [(2, nt st), (3, nt en), (9, .pointer none), (13, .bool false)] ?_
 refine V_false rfl ?_
 refine Vs [(2, nt st), (3, nt en), (9, .pointer none), (16, .bool true)] ?_
 refine V_true rfl ?_
 refine Vs [(8, nt 4)] ?_
 refine V_ret ?_
 refine X_ret_block ?_
 refine X_ret_then ?_
 exact X_return (nt 4) rfl ⟨rfl, hK0⟩
set_option maxRecDepth 10000 in
theorem close_none (v gv gr i : Nat) (pp : List (Option Addr)) (st en : Int) (w : World) (hv : Blk w v (pp.map Value.pointer ++ [pt gv, pt gr]) 127) (hlen : pp.length = 12) (hi : i < 12) (hx : pp[i]? = some none) : Calls Tryz.prog 42 #[pt v, nt (i : Int), nt st, nt en] w (rk_ w (nt 4)) := by
 have hK0 : Keep none_ w w := Keep.refl _ _
 have hzhK0 := Keep.size hK0
 refine enterV Tryz.func42 rfl [pt v, nt (i : Int), nt st, nt en] 37 rfl rfl rfl ?_
 refine Vr ?_
 refine On 1 [0, 1, 2, 3] ?_
 refine Oer ?_
 refine On 2 [0, 2, 3, 10, 11] ?_
 refine Ok (kl 64 #[(.tmp 10), (.tmp 11)] #[33, 3]) 64 #[pt v, nt (i : Int)] (some 12) (pollfn_at v gv gr i pp none _ hv hlen hi hx) ?_
 rintro _ w1 ⟨rfl, hk2⟩
 refine ⟨_, rfl, ?_⟩
 have hsz3 := Keep.size hk2
 replace hv := hv.k0 hk2
 replace hK0 := hK0.tn hk2
 refine On 4 [0, 2, 3, 9] ?_
 refine Oe ?_
 refine V_seq ?_
 refine V_block ?_
 refine Vs [(2, nt st), (3, nt en), (9, .pointer none), (13, .bool false)] ?_
 refine V_false rfl ?_
 refine Vs [(2, nt st), (3, nt en), (9, .pointer none), (16, .bool true)] ?_
 refine V_true rfl ?_
 refine Vs [(8, nt 4)] ?_
 refine V_ret ?_
 refine X_ret_block ?_
 refine X_ret_then ?_
 exact X_return (nt 4) rfl ⟨rfl, hK0⟩
set_option maxRecDepth 10000 in
theorem close_bad (v gv gr i : Nat) (pp : List (Option Addr)) (b : Nat) (q : PollS) (st en : Int) (w : World) (hv : Blk w v (pp.map Value.pointer ++ [pt gv, pt gr]) 127) (hlen : pp.length = 12) (hi : i < 12) (hx : pp[i]? = some (some ⟨b, 0, none⟩)) (hb : Blk w b q.cells 133) (hq : q.state ≠ 0 ∨ ¬ (2 ≤ st ∧ st ≤ 6)) : Calls Tryz.prog 42 #[pt v, nt (i : Int), nt st, nt en] w fun e w' => e = .returned (nt (if q.state ≠ 0 then 9 else 1)) ∧ Keep none_ w w' := by
 have hvlt := hv.lt
 have hblt := hb.lt
 have hK0 : Keep none_ w w := Keep.refl _ _
 have hzhK0 := Keep.size hK0
 refine enterV Tryz.func42 rfl [pt v, nt (i : Int), nt st, nt en] 37 rfl rfl rfl ?_
 refine Vr ?_
 refine On 1 [0, 1, 2, 3] ?_
 refine Oer ?_
 refine On 2 [0, 2, 3, 10, 11] ?_
 refine Ok (kl 64 #[(.tmp 10), (.tmp 11)] #[33, 3]) 64 #[pt v, nt (i : Int)] (some 12) (pollfn_at v gv gr i pp (some ⟨b, 0, none⟩) _ hv hlen hi hx) ?_
 rintro _ w1 ⟨rfl, hk2⟩
 refine ⟨_, rfl, ?_⟩
 have hsz3 := Keep.size hk2
 replace hv := hv.k0 hk2
 replace hb := hb.k0 hk2
 replace hK0 := hK0.tn hk2
 refine On 4 [0, 2, 3, 9] ?_
 refine Oe ?_
 refine V_seq ?_
 refine V_block ?_
 refine Vs [(2, nt st), (3, nt en), (9, pt b), (13, .bool false)] ?_
 refine V_false rfl ?_
 refine Vs [(2, nt st), (3, nt en), (9, pt b), (16, .bool false)] ?_
 refine V_false rfl ?_
 refine Vr ?_
 refine On 3 [2, 3, 9, 22] ?_
 refine Oc 3 (.tmp 22) 4 (nt q.state) (some 23) hb rfl ?_
 refine Ose [(2, nt st), (3, nt en), (9, pt b), (19, .bool (!(decide (q.state = 0))))] ?_
 refine V_not (q.state = 0) (by kernel_rfl) (fun hc4 => ?_) (fun hc4 => ?_)
 ·
  refine Vs [(8, nt 9)] ?_
  refine V_ret ?_
  refine X_ret_block ?_
  refine X_ret_then ?_
  exact X_return (nt 9) rfl ⟨by simp [*], hK0⟩
 refine Vr ?_
 refine On 1 [2, 3, 9, 26] ?_
 refine Ok (kl 96 #[(.tmp 26), (.const (nt 2)), (.const (nt 6))] #[3, 3, 3]) 96 #[nt st, nt 2, nt 6] (some 27) (vIn_spec st 2 6 _) ?_
 rintro _ w1 ⟨rfl, rfl⟩
 refine ⟨_, rfl, ?_⟩
 refine Ose [(2, nt st), (3, nt en), (9, pt b), (25, .bool (!(decide ((2 : Int) ≤ st ∧ st ≤ 6))))] ?_
 refine V_not ((2 : Int) ≤ st ∧ st ≤ 6) (by kernel_rfl) (fun hc8 => ?_) (fun hc8 => ?_)
 ·
  refine Vs [(8, nt 1)] ?_
  refine V_ret ?_
  refine X_ret_block ?_
  refine X_ret_then ?_
  exact X_return (nt 1) rfl ⟨by simp [*], hK0⟩
 exact (by omega : False).elim
set_option maxRecDepth 10000 in
theorem close_ok (v gv gr i : Nat) (pp : List (Option Addr)) (b : Nat) (q : PollS) (st en : Int) (w : World) (hv : Blk w v (pp.map Value.pointer ++ [pt gv, pt gr]) 127) (hlen : pp.length = 12) (hi : i < 12) (hx : pp[i]? = some (some ⟨b, 0, none⟩)) (hb : Blk w b q.cells 133) (hvb : v ≠ b) (hq : q.state = 0) (hs : 2 ≤ st ∧ st ≤ 6) : Calls Tryz.prog 42 #[pt v, nt (i : Int), nt st, nt en] w fun e w' => e = .returned (nt 0) ∧ Blk w' b (PollS.cells { q with state := st, stop := en }) 133 ∧ Keep (only b) w w' := by
 have hvlt := hv.lt
 have hblt := hb.lt
 have hK0 : Keep (only b) w w := Keep.refl _ _
 have hzhK0 := Keep.size hK0
 refine enterV Tryz.func42 rfl [pt v, nt (i : Int), nt st, nt en] 37 rfl rfl rfl ?_
 refine Vr ?_
 refine On 1 [0, 1, 2, 3] ?_
 refine Oer ?_
 refine On 2 [0, 2, 3, 10, 11] ?_
 refine Ok (kl 64 #[(.tmp 10), (.tmp 11)] #[33, 3]) 64 #[pt v, nt (i : Int)] (some 12) (pollfn_at v gv gr i pp (some ⟨b, 0, none⟩) _ hv hlen hi hx) ?_
 rintro _ w1 ⟨rfl, hk2⟩
 refine ⟨_, rfl, ?_⟩
 have hsz3 := Keep.size hk2
 replace hv := hv.k0 hk2
 replace hb := hb.k0 hk2
 replace hK0 := hK0.tn hk2
 refine On 4 [0, 2, 3, 9] ?_
 refine Oe ?_
 refine V_seq ?_
 refine V_block ?_
 refine Vs [(2, nt st), (3, nt en), (9, pt b), (13, .bool false)] ?_
 refine V_false rfl ?_
 refine Vs [(2, nt st), (3, nt en), (9, pt b), (16, .bool false)] ?_
 refine V_false rfl ?_
 refine Vr ?_
 refine On 3 [2, 3, 9, 22] ?_
 refine Oc 3 (.tmp 22) 4 (nt q.state) (some 23) hb rfl ?_
 refine Ose [(2, nt st), (3, nt en), (9, pt b), (19, .bool (!(decide (q.state = 0))))] ?_
 refine V_eq [(2, nt st), (3, nt en), (9, pt b), (19, .bool false)] (by rw [decide_eq_true (by omega : q.state = 0)]; rfl) ?_
 refine V_false rfl ?_
 refine Vr ?_
 refine On 1 [2, 3, 9, 26] ?_
 refine Ok (kl 96 #[(.tmp 26), (.const (nt 2)), (.const (nt 6))] #[3, 3, 3]) 96 #[nt st, nt 2, nt 6] (some 27) (vIn_spec st 2 6 _) ?_
 rintro _ w1 ⟨rfl, rfl⟩
 refine ⟨_, rfl, ?_⟩
 refine Ose [(2, nt st), (3, nt en), (9, pt b), (25, .bool (!(decide ((2 : Int) ≤ st ∧ st ≤ 6))))] ?_
 refine V_eq [(2, nt st), (3, nt en), (9, pt b), (25, .bool false)] (by rw [decide_eq_true (by omega : (2 : Int) ≤ st ∧ st ≤ 6)]; rfl) ?_
 refine V_false rfl ?_
 refine V_skip ?_
 refine X_block ?_
 refine X_then ?_
 refine Vr ?_
 refine On 6 [30, 31, 32, 34] ?_
 refine Ot 3 (.tmp 34) (.tmp 31) 4 (nt st) hb ?_
 intro w9 hb_12 hk10 hz11
 replace hb_12 : Blk w9 b [nt q.track, nt q.t.a, nt q.t.n, nt q.t.s, nt st, nt q.stop] 133 := hb_12
 have hsz13 := Keep.size hk10
 replace hv := hv.k1 hk10
 replace hK0 := Keep.fr hK0 hk10
 refine On 9 [32, 36] ?_
 refine Ot 3 (.tmp 36) (.tmp 32) 5 (nt en) hb_12 ?_
 intro w14 hb_17 hk15 hz16
 replace hb_17 : Blk w14 b [nt q.track, nt q.t.a, nt q.t.n, nt q.t.s, nt st, nt en] 133 := hb_17
 have hsz18 := Keep.size hk15
 replace hv := hv.k1 hk15
 replace hK0 := Keep.fr hK0 hk15
 refine Oer ?_
 refine Ose [(8, nt 0)] ?_
 refine V_ret ?_
 exact X_return (nt 0) rfl ⟨rfl, hb_17, hK0⟩
theorem close_spec (F : Nat → Prop) (v : Nat) (s : VS) (ref st en : Int) (w : World) (h : VotE F w v s) : Calls Tryz.prog 42 #[pt v, nt ref, nt st, nt en] w fun e w' => e = .returned (nt (closeE s ref st)) ∧ (∃ F', VotE F' w' v (closeS s ref st en) ∧ (∀ q, F' q → F q ∨ w.heap.size ≤ q)) ∧ Keep F w w' := by
  obtain ⟨P, hP⟩ := h
  rcases hP.pollcase ref with ⟨hn, hc⟩ | ⟨i, b, q, rfl, hi, e1, e2, hs⟩
  · have he : closeE s ref st = 4 := by unfold closeE; rw [hn]
    have hs : closeS s ref st en = s := by unfold closeS; rw [hn]
    rw [he, hs]
    rcases hc with hc | ⟨i, rfl, hi, e1⟩
    · refine (close_out v ref st en w hc).mono ?_
      rintro e w' ⟨rfl, hk⟩
      exact ⟨rfl, VotE.same ⟨P, hP⟩ hk⟩
    · refine (close_none v P.gv P.gr i P.pp st en w hP.vblk.2 hP.vblk.1 hi e1).mono ?_
      rintro e w' ⟨rfl, hk⟩
      exact ⟨rfl, VotE.same ⟨P, hP⟩ hk⟩
  · obtain ⟨hb, hF⟩ := hP.pollB e1 e2
    by_cases hq : q.state ≠ 0 ∨ ¬ (2 ≤ st ∧ st ≤ 6)
    · have he : closeE s (i : Int) st = if q.state ≠ 0 then 9 else 1 := by
        unfold closeE; rw [hs]; dsimp only
        by_cases h9 : q.state ≠ 0
        · rw [if_pos h9, if_pos h9]
        · rw [if_neg h9, if_neg h9, if_pos (hq.resolve_left h9)]
      have hs2 : closeS s (i : Int) st en = s := by
        unfold closeS; rw [hs, he]; dsimp only
        rw [if_neg]; split <;> decide
      rw [he, hs2]
      refine (close_bad v P.gv P.gr i P.pp b q st en w hP.vblk.2 hP.vblk.1 hi e1 hb hq).mono ?_
      rintro e w' ⟨rfl, hk⟩
      exact ⟨rfl, VotE.same ⟨P, hP⟩ hk⟩
    · have hq2 : q.state = 0 ∧ (2 ≤ st ∧ st ≤ 6) := by omega
      have he : closeE s (i : Int) st = 0 := by unfold closeE; rw [hs]; dsimp only; rw [if_neg (by omega), if_neg (by omega)]
      have hs2 : closeS s (i : Int) st en = s.setP i { q with state := st, stop := en } := by unfold closeS; rw [hs, he]; dsimp only; rw [if_pos rfl, Int.toNat_natCast]
      rw [he, hs2]
      refine (close_ok v P.gv P.gr i P.pp b q st en w hP.vblk.2 hP.vblk.1 hi e1 hb (Blk.ne hP.vblk.2 hb (by decide)) hq2.1 hq2.2).mono ?_
      rintro e w' ⟨rfl, hb', hk⟩
      exact ⟨rfl, ⟨F, ⟨P, hP.setPoll e1 e2 hk hb'⟩, fun _ h => .inl h⟩, hk.mono (fun x _ hx => by rw [show x = b from hx]; exact hF)⟩
set_option maxRecDepth 10000 in
theorem tally_out (v : Nat) (ref : Int) (w : World) (hr : ¬ (0 ≤ ref ∧ ref < 12)) : Calls Tryz.prog 32 #[pt v, nt ref] w fun e w' => e = .returned (.agg (Tly.cells Tly.zero).toArray) ∧ Keep none_ w w' := by
 have hK0 : Keep none_ w w := Keep.refl _ _
 have hzhK0 := Keep.size hK0
 refine enterM Tryz.func32 rfl [pt v, nt ref] 16 rfl rfl rfl ?_
 refine V_pick [(0, pt v), (1, nt ref)] rfl ?_
 refine Vr ?_
 refine OI_alloc 55 (.agg #[nt 0, nt 0, nt 0]) [nt 0, nt 0, nt 0] (some 4) (by kernel_rfl) (by kernel_rfl) (by kernel_rfl) ?_
 intro b1 w1 e1 hb1 k1 z1
 have hsz2 := Keep.size k1
 replace hK0 := hK0.tn k1
 have hb1lt := hb1.lt
 refine Oer ?_
 refine On 2 [4, 6, 7] ?_
 refine Ok (kl 64 #[(.tmp 6), (.tmp 7)] #[33, 3]) 64 #[pt v, nt ref] (some 8) (pollfn_out v ref _ hr) ?_
 rintro _ w3 ⟨rfl, hk4⟩
 refine ⟨_, rfl, ?_⟩
 have hsz5 := Keep.size hk4
 replace hb1 := hb1.k0 hk4
 replace hK0 := hK0.tn hk4
 refine On 4 [4, 5] ?_
 refine Oe ?_
 refine V_seq ?_
 refine Vs [(4, pt b1), (5, .pointer none), (10, .bool true)] ?_
 refine V_true rfl ?_
 refine Vr ?_
 refine Os 1 [(4, pt b1), (11, .agg #[nt 0, nt 0, nt 0])] ?_
 refine OI_set (m := 3) (kd := true) 55 (.tmp 4) (.tmp 11) 0 (.agg #[nt 0, nt 0, nt 0]) [nt 0, nt 0, nt 0] none (by kernel_rfl) (by kernel_rfl) (by kernel_rfl) hb1 (by kernel_rfl) (by kernel_rfl) (by kernel_rfl) (Nat.le_of_ble_eq_true (by kernel_rfl)) (by simp [Value.oneCell']) ?_
 intro w6 hb1_9 hk7 hz8
 replace hb1_9 : Blk w6 b1 [nt 0, nt 0, nt 0] 55 := hb1_9
 have hsz10 := Keep.size hk7
 replace hK0 := Keep.fr hK0 hk7
 refine Oe ?_
 refine V_ret ?_
 refine X_ret_then ?_
 exact leave0 (.agg [nt 0, nt 0, nt 0].toArray) (.inl rfl) (res_agg1 (m := 3) rfl rfl (by kernel_rfl) hb1_9 rfl) ⟨rfl, hK0⟩
set_option maxRecDepth 10000 in
theorem tally_none (v gv gr i : Nat) (pp : List (Option Addr)) (w : World) (hv : Blk w v (pp.map Value.pointer ++ [pt gv, pt gr]) 127) (hlen : pp.length = 12) (hi : i < 12) (hx : pp[i]? = some none) : Calls Tryz.prog 32 #[pt v, nt (i : Int)] w fun e w' => e = .returned (.agg (Tly.cells Tly.zero).toArray) ∧ Keep none_ w w' := by
 have hvlt := hv.lt
 have hK0 : Keep none_ w w := Keep.refl _ _
 have hzhK0 := Keep.size hK0
 refine enterM Tryz.func32 rfl [pt v, nt (i : Int)] 16 rfl rfl rfl ?_
 refine V_pick [(0, pt v), (1, nt (i : Int))] rfl ?_
 refine Vr ?_
 refine OI_alloc 55 (.agg #[nt 0, nt 0, nt 0]) [nt 0, nt 0, nt 0] (some 4) (by kernel_rfl) (by kernel_rfl) (by kernel_rfl) ?_
 intro b1 w1 e1 hb1 k1 z1
 have hsz2 := Keep.size k1
 replace hv := hv.k0 k1
 replace hK0 := hK0.tn k1
 have hb1lt := hb1.lt
 refine Oer ?_
 refine On 2 [4, 6, 7] ?_
 refine Ok (kl 64 #[(.tmp 6), (.tmp 7)] #[33, 3]) 64 #[pt v, nt (i : Int)] (some 8) (pollfn_at v gv gr i pp none _ hv hlen hi hx) ?_
 rintro _ w3 ⟨rfl, hk4⟩
 refine ⟨_, rfl, ?_⟩
 have hsz5 := Keep.size hk4
 replace hv := hv.k0 hk4
 replace hb1 := hb1.k0 hk4
 replace hK0 := hK0.tn hk4
 refine On 4 [4, 5] ?_
 refine Oe ?_
 refine V_seq ?_
 refine Vs [(4, pt b1), (5, .pointer none), (10, .bool true)] ?_
 refine V_true rfl ?_
 refine Vr ?_
 refine Os 1 [(4, pt b1), (11, .agg #[nt 0, nt 0, nt 0])] ?_
 refine OI_set (m := 3) (kd := true) 55 (.tmp 4) (.tmp 11) 0 (.agg #[nt 0, nt 0, nt 0]) [nt 0, nt 0, nt 0] none (by kernel_rfl) (by kernel_rfl) (by kernel_rfl) hb1 (by kernel_rfl) (by kernel_rfl) (by kernel_rfl) (Nat.le_of_ble_eq_true (by kernel_rfl)) (by simp [Value.oneCell']) ?_
 intro w6 hb1_9 hk7 hz8
 replace hb1_9 : Blk w6 b1 [nt 0, nt 0, nt 0] 55 := hb1_9
 have hsz10 := Keep.size hk7
 replace hv := hv.k1 hk7
 replace hK0 := Keep.fr hK0 hk7
 refine Oe ?_
 refine V_ret ?_
 refine X_ret_then ?_
 exact leave0 (.agg [nt 0, nt 0, nt 0].toArray) (.inl rfl) (res_agg1 (m := 3) rfl rfl (by kernel_rfl) hb1_9 rfl) ⟨rfl, hK0⟩
set_option maxRecDepth 10000 in
theorem tally_some (v gv gr i : Nat) (pp : List (Option Addr)) (b : Nat) (q : PollS) (w : World) (hv : Blk w v (pp.map Value.pointer ++ [pt gv, pt gr]) 127) (hlen : pp.length = 12) (hi : i < 12) (hx : pp[i]? = some (some ⟨b, 0, none⟩)) (hb : Blk w b q.cells 133) : Calls Tryz.prog 32 #[pt v, nt (i : Int)] w fun e w' => e = .returned (.agg (Tly.cells q.t).toArray) ∧ Keep none_ w w' := by
 have hvlt := hv.lt
 have hblt := hb.lt
 have hK0 : Keep none_ w w := Keep.refl _ _
 have hzhK0 := Keep.size hK0
 refine enterM Tryz.func32 rfl [pt v, nt (i : Int)] 16 rfl rfl rfl ?_
 refine V_pick [(0, pt v), (1, nt (i : Int))] rfl ?_
 refine Vr ?_
 refine OI_alloc 55 (.agg #[nt 0, nt 0, nt 0]) [nt 0, nt 0, nt 0] (some 4) (by kernel_rfl) (by kernel_rfl) (by kernel_rfl) ?_
 intro b1 w1 e1 hb1 k1 z1
 have hsz2 := Keep.size k1
 replace hv := hv.k0 k1
 replace hb := hb.k0 k1
 replace hK0 := hK0.tn k1
 have hb1lt := hb1.lt
 refine Oer ?_
 refine On 2 [4, 6, 7] ?_
 refine Ok (kl 64 #[(.tmp 6), (.tmp 7)] #[33, 3]) 64 #[pt v, nt (i : Int)] (some 8) (pollfn_at v gv gr i pp (some ⟨b, 0, none⟩) _ hv hlen hi hx) ?_
 rintro _ w3 ⟨rfl, hk4⟩
 refine ⟨_, rfl, ?_⟩
 have hsz5 := Keep.size hk4
 replace hv := hv.k0 hk4
 replace hb := hb.k0 hk4
 replace hb1 := hb1.k0 hk4
 replace hK0 := hK0.tn hk4
 refine On 4 [4, 5] ?_
 refine Oe ?_
 refine V_seq ?_
 refine Vs [(4, pt b1), (5, pt b), (10, .bool false)] ?_
 refine V_false rfl ?_
 refine V_skip ?_
 refine X_then ?_
 refine Vr ?_
 refine Os 3 [(4, pt b1), (14, po_ b 1)] ?_
 refine Oa 55 (.tmp 14) 1 [nt q.t.a, nt q.t.n, nt q.t.s] (some 15) 3 hb rfl rfl ?_
 refine OI_set (m := 3) (kd := true) 55 (.tmp 4) (.tmp 15) 0 (.agg #[nt q.t.a, nt q.t.n, nt q.t.s]) [nt q.t.a, nt q.t.n, nt q.t.s] none (by kernel_rfl) (by kernel_rfl) (by kernel_rfl) hb1 (by kernel_rfl) (by kernel_rfl) (by kernel_rfl) (Nat.le_of_ble_eq_true (by kernel_rfl)) (by simp [Value.oneCell']) ?_
 intro w6 hb1_9 hk7 hz8
 replace hb1_9 : Blk w6 b1 [nt q.t.a, nt q.t.n, nt q.t.s] 55 := hb1_9
 have hsz10 := Keep.size hk7
 replace hv := hv.k1 hk7
 replace hb := hb.k1 hk7
 replace hK0 := Keep.fr hK0 hk7
 refine Oe ?_
 refine V_ret ?_
 exact leave0 (.agg [nt q.t.a, nt q.t.n, nt q.t.s].toArray) (.inl rfl) (res_agg1 (m := 3) rfl rfl (by kernel_rfl) hb1_9 rfl) ⟨rfl, hK0⟩
theorem tally_spec (F : Nat → Prop) (v : Nat) (s : VS) (ref : Int) (w : World) (h : VotE F w v s) : Calls Tryz.prog 32 #[pt v, nt ref] w fun e w' => e = .returned (.agg (Tly.cells (tallyT s ref)).toArray) ∧ Keep none_ w w' := by
  obtain ⟨P, hP⟩ := h
  rcases hP.pollcase ref with ⟨hn, hc⟩ | ⟨i, b, q, rfl, hi, e1, e2, hs⟩
  · rw [show tallyT s ref = Tly.zero by unfold tallyT; rw [hn]]
    rcases hc with hc | ⟨i, rfl, hi, e1⟩
    · exact tally_out v ref w hc
    · exact tally_none v P.gv P.gr i P.pp w hP.vblk.2 hP.vblk.1 hi e1
  · rw [show tallyT s (i : Int) = q.t by unfold tallyT; rw [hs]]
    exact tally_some v P.gv P.gr i P.pp b q w hP.vblk.2 hP.vblk.1 hi e1 (hP.pollB e1 e2).1
theorem Vot.recN {F : Nat → Prop} {w : World} {v : Nat} {P : VP} {s : VS} (h : Vot F w v P s) {a t : Int} {q : Nat} (e : GR.getC a t P.rs = some (some ⟨q, 0, none⟩)) (hd : (s.rc a t).d = none) : F q ∧ Blk w q (RecS.cells none (s.rc a t)) 141 := by
  obtain ⟨hF, (⟨_, h⟩ | ⟨d, b, h1, _⟩)⟩ := h.recX e
  · exact ⟨hF, h⟩
  · rw [hd] at h1; cases h1
theorem Vot.recD {F : Nat → Prop} {w : World} {v : Nat} {P : VP} {s : VS} (h : Vot F w v P s) {a t : Int} {q : Nat} {d : DelS} (e : GR.getC a t P.rs = some (some ⟨q, 0, none⟩)) (hd : (s.rc a t).d = some d) : ∃ b, F q ∧ F b ∧ Blk w q (RecS.cells (some ⟨b, 0, none⟩) (s.rc a t)) 141 ∧ Blk w b d.cells 307 := by
  obtain ⟨hF, (⟨h1, _⟩ | ⟨d', b, h1, h2, h3, h4⟩)⟩ := h.recX e
  · rw [hd] at h1; cases h1
  · rw [hd] at h1; cases h1; exact ⟨b, hF, h4, h2, h3⟩
end Go.Al

namespace Go.Al
open Go Go.RowKit Go.Proofs
def trk (s : VS) (ref : Int) : Int := match s.ps[ref.toNat]? with | some (some q) => q.track | _ => -1
def vrow (s : VS) (a t : Int) : List (Int × Vt) := (GV.rowL a s.cs).filter (fun p => trk s p.1 == t)
def vtake (s : VS) (a t : Int) (k : Nat) : List (Int × Vt) := ((GV.rowL a s.cs).take k).filter (fun p => trk s p.1 == t)
theorem vtake_all (s : VS) (a t : Int) : vtake s a t (GV.rowL a s.cs).length = vrow s a t := by unfold vtake vrow; rw [List.take_length]
theorem vtake_step {s : VS} {a t : Int} {k : Nat} {c : Int × Vt} (h : (GV.rowL a s.cs)[k]? = some c) : vtake s a t (k + 1) = if trk s c.1 = t then vtake s a t k ++ [c] else vtake s a t k := by
  have := GV.fm_step (fun p : Int × Vt => trk s p.1 == t) id h
  simpa [vtake] using this
theorem vtake_at {s : VS} {a t : Int} {k : Nat} {c : Int × Vt} (h : (GV.rowL a s.cs)[k]? = some c) (hc : trk s c.1 = t) : (vrow s a t)[(vtake s a t k).length]? = some c ∧ (vtake s a t k).length < (vrow s a t).length := by
  have := GV.fm_at (fun p : Int × Vt => trk s p.1 == t) id h (by simp [hc])
  simpa [vtake, vrow] using this
theorem rowL_mem {a : Int} {cs : List GV.Ci} {k : Nat} {c : Int × Vt} (h : (GV.rowL a cs)[k]? = some c) : ∃ x ∈ cs, x.a = a ∧ x.b = c.1 ∧ x.v = c.2 := by
  have hm := List.mem_of_getElem? h
  unfold GV.rowL at hm
  obtain ⟨x, hx, rfl⟩ := List.mem_map.1 hm
  obtain ⟨h1, h2⟩ := List.mem_filter.1 hx
  exact ⟨x, h1, by simpa using h2, rfl, rfl⟩
theorem vrow_len (s : VS) (a t : Int) : (vrow s a t).length ≤ s.cs.length := by
  unfold vrow GV.rowL
  refine Nat.le_trans (List.length_filter_le _ _) ?_
  rw [List.length_map]
  exact List.length_filter_le _ _
structure VtOk (bv bw bt v gv gr : Nat) (pp : List (Option Addr)) (a t : Int) (s : VS) (A : Option Addr) (cap : Nat) (W : World) : Prop where
  hv : Blk W bv [pt v] 33
  hw : Blk W bw [nt a] 3
  ht : Blk W bt [nt t] 3
  blk : Blk W v (pp.map Value.pointer ++ [pt gv, pt gr]) 127
  len : pp.length = 12
  polls : ∀ c ∈ s.cs, ∃ (i b : Nat) (q : PollS), c.b = (i : Int) ∧ i < 12 ∧ pp[i]? = some (some ⟨b, 0, none⟩) ∧ Blk W b q.cells 133 ∧ q.track = trk s c.b
  sl : SlT W 8 GV.Ci.cells A cap s.cs
theorem VtOk.quiet {N bv bw bt v gv gr : Nat} {pp : List (Option Addr)} {a t : Int} {s : VS} {A : Option Addr} {cap : Nat} {W W' : World} (h : VtOk bv bw bt v gv gr pp a t s A cap W) (k : Keep (lb N W) W W') : VtOk bv bw bt v gv gr pp a t s A cap W' :=
  ⟨h.hv.quiet k, h.hw.quiet k, h.ht.quiet k, h.blk.quiet k, h.len, fun c hc => by
    obtain ⟨i, b, q, h1, h2, h3, h4, h5⟩ := h.polls c hc
    exact ⟨i, b, q, h1, h2, h3, h4.quiet k, h5⟩, h.sl.quiet k⟩
def VotA (A : Option Addr) (cap : Nat) (F : Nat → Prop) (w : World) (v : Nat) (P : VP) (s : VS) : Prop := ∃ F1 F2 M, VotX F1 F2 M w v P s ∧ GV.GrAt w P.gv A cap s.cs ∧ (∀ q, inA A q → F1 q) ∧ (∀ q, F1 q → F q) ∧ (∀ q, F2 q → F q) ∧ (∀ q, M q → F q) ∧ (∀ q, F q → q < w.heap.size)
theorem Vot.arr {F : Nat → Prop} {w : World} {v : Nat} {P : VP} {s : VS} (h : Vot F w v P s) : ∃ A cap, VotA A cap F w v P s := by
  obtain ⟨F1, F2, M, h, h1, h2, h3, h4⟩ := h
  obtain ⟨_, _, _, _, A, cap, h5, h6⟩ := h.gv
  exact ⟨A, cap, F1, F2, M, h, h5, h6, h1, h2, h3, h4⟩
section
variable {A : Option Addr} {cap : Nat} {F S : Nat → Prop} {w w' : World} {v N : Nat} {P : VP} {s : VS}
theorem VotA.vot (h : VotA A cap F w v P s) : Vot F w v P s := by
  obtain ⟨F1, F2, M, h, _, _, h1, h2, h3, h4⟩ := h
  exact ⟨F1, F2, M, h, h1, h2, h3, h4⟩
theorem VotA.lt (h : VotA A cap F w v P s) : ∀ q, F q → q < w.heap.size := h.vot.lt
theorem VotA.at_ (h : VotA A cap F w v P s) : F v := h.vot.at_
theorem VotA.keep (h : VotA A cap F w v P s) (k : Keep S w w') (hS : ∀ q, F q → ¬ S q) : VotA A cap F w' v P s := by
  obtain ⟨F1, F2, M, h, hg, hA, h1, h2, h3, h4⟩ := h
  exact ⟨F1, F2, M, h.keepM S k (fun q hq => hS q (h3 q hq)) h.inv (fun _ h => h) (fun q hq => Nat.lt_of_lt_of_le (h.lt q hq) k.size) (h.gv.keep k (fun q hq => hS q (h1 q hq))) (h.gr.keep k (fun q hq => hS q (h2 q hq))) h.d12 h.d1 h.d2,
    ⟨hg.blk.keep k (hS _ (h1 _ h.gv.at_)), hg.sl.keep k (fun q hq => hS _ (h1 _ (hA q hq))), hg.off⟩, hA, h1, h2, h3, fun q hq => Nat.lt_of_lt_of_le (h4 q hq) k.size⟩
theorem VotA.quiet (h : VotA A cap F w v P s) (k : Keep (lb N w) w w') : VotA A cap F w' v P s := by
  obtain ⟨F1, F2, M, h, hg, hA, h1, h2, h3, h4⟩ := h
  refine ⟨F1, F2, M, ⟨h.inv, h.gv.quiet k, h.gr.quiet k, h.mv, fun q hq => Nat.lt_of_lt_of_le (h.lt q hq) k.size, h.d12, h.d1, h.d2, h.len, h.blk.quiet k, fun i hi => ?_, h.pinj, h.keys, fun a t => ?_, h.rinj⟩, hg.quiet k, hA, h1, h2, h3, fun q hq => Nat.lt_of_lt_of_le (h4 q hq) k.size⟩
  · rcases h.polls i hi with h | ⟨b, p, e1, e2, hb, hm⟩
    · exact .inl h
    · exact .inr ⟨b, p, e1, e2, hb.quiet k, hm⟩
  · rcases h.recs a t with h | ⟨q, e, hr, hm⟩
    · exact .inl h
    · exact .inr ⟨q, e, hr.quiet k, hm⟩
theorem VotA.setPoll (h : VotA A cap F w v P s) {i b : Nat} {p p' : PollS} (e : P.pp[i]? = some (some ⟨b, 0, none⟩)) (e2 : s.ps[i]? = some (some p)) (k : Keep (only b) w w') (hb' : Blk w' b p'.cells 133) : VotA A cap F w' v P (s.setP i p') := by
  obtain ⟨F1, F2, M, h, hg, hA, h1, h2, h3, h4⟩ := h
  obtain ⟨hX, hM⟩ := h.setPoll e e2 k hb'
  have hn : ∀ q, F1 q → ¬ only b q := fun q hq hs => h.d1 q hq (by rw [show q = b from hs]; exact hM)
  exact ⟨F1, F2, M, hX, ⟨hg.blk.keep k (hn _ h.gv.at_), hg.sl.keep k (fun q hq => hn q (hA q hq)), hg.off⟩, hA, h1, h2, h3, fun q hq => Nat.lt_of_lt_of_le (h4 q hq) k.size⟩
theorem VotA.ok (h : VotA A cap F w v P s) {s0 : VS} (hcs : s.cs = s0.cs) (htr : ∀ r, trk s r = trk s0 r) {bv bw bt : Nat} {a t : Int} (hv : Blk w bv [pt v] 33) (hw : Blk w bw [nt a] 3) (ht : Blk w bt [nt t] 3) : VtOk bv bw bt v P.gv P.gr P.pp a t s0 A cap w := by
  obtain ⟨F1, F2, M, h, hg, _⟩ := h
  refine ⟨hv, hw, ht, h.blk, h.len, fun c hc => ?_, by rw [← hcs]; exact hg.sl⟩
  obtain ⟨g1, g2, g3, q0, g4⟩ := h.inv.votes c (by rw [hcs]; exact hc)
  obtain ⟨i, hi⟩ : ∃ i : Nat, c.b = i := ⟨c.b.toNat, by omega⟩
  rcases h.polls i (by omega) with ⟨e1, e2⟩ | ⟨b, q, e1, e2, hb, _⟩
  · rw [hi, Int.toNat_natCast, e2] at g4; cases g4
  · refine ⟨i, b, q, hi, by omega, e1, hb, ?_⟩
    rw [← htr, hi]; unfold trk; rw [Int.toNat_natCast, e2]
theorem VotA.grat (h : VotA A cap F w v P s) : GV.GrAt w P.gv A cap s.cs := by
  obtain ⟨F1, F2, M, h, hg, _⟩ := h; exact hg
theorem Vot.cslen (h : Vot F w v P s) : s.cs.length ≤ 120 := by
  obtain ⟨F1, F2, M, h, _⟩ := h
  exact GV.len120 h.gv.1 (fun c hc => by obtain ⟨g1, g2, _⟩ := h.inv.votes c hc; exact ⟨g1, g2⟩)
theorem VotA.lenA (h : VotA A cap F w v P s) : s.cs.length ≤ 120 := h.vot.cslen
end
end Go.Al

namespace Go.Al
open Go Go.RowKit Go.Proofs
set_option maxRecDepth 10000 in
theorem votes1_iter (bv bw bt v gv gr cap : Nat) (pp : List (Option Addr)) (A : Option Addr) (s : VS) (a t : Int) (hn : s.cs.length ≤ 1000000) : Iter2 Tryz.prog 161 #[pt bv, pt bw, pt bt] (vrow s a t).length (GV.enc2 (vrow s a t)) (fun W => GV.GrAt W gv A cap s.cs ∧ VtOk bv bw bt v gv gr pp a t s A cap W) (VtOk bv bw bt v gv gr pp a t s A cap) := by
 intro l J Jx w hPre hJ hJx hY hOk h0
 obtain ⟨hgA, hok0⟩ := hPre
 have hbv := hok0.hv
 have hbw := hok0.hw
 have hbt := hok0.ht
 have hvb := hok0.blk
 have hlen := hok0.len
 have hbwlt := hbw.lt
 have hbtlt := hbt.lt
 have hvlt := hvb.lt
 have hbvlt := hbv.lt
 show Calls Tryz.prog 161 #[.func (.yield l) #[] #[], pt bv, pt bw, pt bt] w _
 have hK0 : Keep none_ w w := Keep.refl _ _
 have hzhK0 := Keep.size hK0
 refine enterM Tryz.func161 rfl [.func (.yield l) #[] #[], pt bv, pt bw, pt bt] 32 rfl rfl rfl ?_
 refine V_pick [(0, .func (.yield l) #[] #[]), (1, pt bv), (2, pt bw), (3, pt bt)] rfl ?_
 refine Vr ?_
 refine OI_box 246 (.tmp 0) (.func (.yield l) #[] #[]) [.func (.yield l) #[] #[]] (some 4) (by kernel_rfl) (by kernel_rfl) (by kernel_rfl) ?_
 intro b1 w1 e1 hb1 k1 z1
 have hsz2 := Keep.size k1
 replace hbv := hbv.k0 k1
 replace hbw := hbw.k0 k1
 replace hbt := hbt.k0 k1
 replace hvb := hvb.k0 k1
 replace hK0 := hK0.tn k1
 have hb1lt := hb1.lt
 refine Oe ?_
 refine V_seq ?_
 refine Vr ?_
 refine Oc 33 (.tmp 1) 0 (pt v) (some 7) hbv rfl ?_
 refine Ose [(1, pt bv), (2, pt bw), (3, pt bt), (4, pt b1), (8, .bool false)] ?_
 refine V_false rfl ?_
 refine V_skip ?_
 refine X_then ?_
 refine V_seq ?_
 refine V_draws (acts [5]) none_ [[0, 1, 2, 3, 4, 5]] (by kernel_rfl) (by repeat first | exact (by first | exact sure_postM | exact sure_rQ2 | exact sure_no | exact sure_body (by rintro _ _ ⟨h, _⟩; exact ⟨_, h⟩)) | refine sure_then ?_ | refine sure_block ?_ | refine sure_join ?_) (by kernel_rfl) ?_
 intro w4 hk3 he5 L hL6
 have hsz7 := Keep.size hk3
 replace hbv := hbv.k0 hk3
 replace hbw := hbw.k0 hk3
 replace hbt := hbt.k0 hk3
 replace hvb := hvb.k0 hk3
 replace hb1 := hb1.k0 hk3
 replace hK0 := hK0.tn hk3
 have qhbv := hbv
 have qhbw := hbw
 have qhbt := hbt
 have qhvb := hvb
 have qhb1 := hb1
 have K8 : Keep none_ w4 w4 := Keep.refl _ _
 obtain rfl := List.mem_singleton.1 hL6
 refine Gc0 33 (.tmp 1) 0 (pt v) (some 9) qhbv rfl ?_
 refine Gs [3, 4, 5] [(1, pt bv), (2, pt bw), (3, pt bt), (4, pt b1), (11, po_ v 12)] ?_
 refine Gc0 119 (.tmp 11) 12 (pt gv) (some 12) qhvb (by rw [List.getElem?_append_right (by rw [List.length_map]; omega), List.length_map, hlen]; rfl) ?_
 refine Gc0 3 (.tmp 2) 0 (nt a) (some 13) qhbw rfl ?_
 refine GI_final 5 (by kernel_rfl) (by kernel_rfl) ?_
 refine Ok (kl 162 #[(.tmp 12), (.tmp 13)] #[119, 3]) 162 #[pt gv, nt a] (some 14) (GV.row_spec _ rfl a _) ?_
 rintro _ w9 ⟨bg2, bs2, bn2, rfl, hbg2, hbs2, hbn2, hk10, hgbg2, hgbs2, hgbn2⟩
 refine ⟨_, rfl, ?_⟩
 have hsz11 := Keep.size hk10
 replace hbv := hbv.k0 hk10
 replace hbw := hbw.k0 hk10
 replace hbt := hbt.k0 hk10
 replace hvb := hvb.k0 hk10
 replace hb1 := hb1.k0 hk10
 replace hK0 := hK0.tn hk10
 have hbg2lt := hbg2.lt
 have hbs2lt := hbs2.lt
 have hbn2lt := hbn2.lt
 refine Oe ?_
 refine V_block ?_
 have hb4ge : w.heap.size ≤ b1 := by omega
 refine V_pick [(1, pt bv), (3, pt bt), (4, pt b1), (14, .func (.func 206) #[] #[pt bg2, pt bs2, pt bn2])] rfl ?_
 have hN0 : w.heap.size ≤ w9.heap.size := Keep.size hK0
 refine V_range2 (gf := 206) (caps := #[pt bg2, pt bs2, pt bn2]) (m := (GV.rowL a s.cs).length) (by kernel_rfl) (by kernel_rfl) (by kernel_rfl) (GV.along1_iter0 bg2 bs2 bn2 gv cap A s.cs a hn) (⟨hbg2, hgA.keep0 hK0, ⟨hbs2, hbn2, hok0.sl.keep0 hK0⟩⟩) (fun W W' h k => ⟨h.1.quiet k, h.2.1.quiet k, h.2.2.quiet k⟩) (GV.enc2_size _) (fun M1 k W => (Blk W b1 [.func (.yield l) #[] #[]] 246) ∧ (Blk W bs2 [nt 0] 3) ∧ (Blk W bn2 [nt a] 3) ∧ (J M1 (vtake s a t k).length W)) (fun M1 c k W => (c = .ret ∧ ∃ q : Nat, (Jx M1 q W) ∧ (q ≤ (vrow s a t).length))) (fun M1 k W W' h hk => by obtain ⟨jb1, jbs2, jbn2, jj⟩ := h; exact ⟨jb1.quiet hk, jbs2.quiet hk, jbn2.quiet hk, (((hJ _ _).mono (by omega)) _ _ jj hk)⟩) (fun M1 c k W W' h hk => by obtain ⟨hc, q, xx, hq⟩ := h; exact ⟨hc, q, (((hJx _ _).mono (by omega)) _ _ xx hk), hq⟩) (fun M1 hM1 => ⟨hb1, hbs2, hbn2, hJ _ _ _ _ (h0 _ (by omega)) (Keep.ofNone hK0)⟩) (fun M1 k W h => by obtain ⟨jb1, jbs2, jbn2, jj⟩ := h; exact ⟨jbs2, jbn2, (hOk _ _ _ jj).sl⟩) ?_ ?_ ?_
 ·
  intro lp D M1 k W hD hl hM hMW hkm ⟨jb1, jbs2, jbn2, jj⟩ ⟨rr, hrr⟩ hDD
  have hb1lt := jb1.lt
  have hbs2lt := jbs2.lt
  have hbn2lt := jbn2.lt
  obtain ⟨x, hx⟩ : ∃ x, (GV.rowL a s.cs)[k]? = some x := ⟨_, List.getElem?_eq_getElem (by omega)⟩
  rw [GV.enc2_at hx]
  have hok := hOk _ _ _ jj
  obtain ⟨c0, hc0, hca, hcb, hcv⟩ := rowL_mem hx
  obtain ⟨i0, b0, q0, hi0, hi12, hpp0, hb0, htr0⟩ := hok.polls c0 hc0
  have hx1 : x.1 = (i0 : Int) := by rw [← hcb]; exact hi0
  rw [hcb] at htr0
  have hbv := hok.hv
  have hbt := hok.ht
  have hvb := hok.blk
  have hbvlt := hbv.lt
  have hbtlt := hbt.lt
  have hvblt := hvb.lt
  have hb0lt := hb0.lt
  have hvlt := hvblt
  refine V_pick [(1, pt bv), (3, pt bt), (4, pt b1), (15, nt x.1), (16, .agg (Vt.cells x.2).toArray)] rfl ?_
  have hfen : Keep (fen w9.heap.size M1) W W := Keep.refl _ _
  have hzhfen := Keep.size hfen
  have hkj : Keep none_ W W := Keep.refl _ _
  have hzhkj := Keep.size hkj
  refine Vs [(1, pt bv), (3, pt bt), (4, pt b1), (5, nt x.1), (16, .agg (Vt.cells x.2).toArray)] ?_
  refine V_region ?_
  refine OI_alloc 67 (.agg #[nt 0, .bool false, nt 0, nt 0, nt 0, nt 0]) [nt 0, .bool false, nt 0, nt 0, nt 0, nt 0] (some 6) (by kernel_rfl) (by kernel_rfl) (by kernel_rfl) ?_
  intro b12 w12 e12 hb12 k12 z12
  have hsz13 := Keep.size k12
  replace jb1 := jb1.k0 k12
  replace jbs2 := jbs2.k0 k12
  replace jbn2 := jbn2.k0 k12
  replace hbv := hbv.k0 k12
  replace hbt := hbt.k0 k12
  replace hvb := hvb.k0 k12
  replace hb0 := hb0.k0 k12
  replace hfen := hfen.tn k12
  replace hkj := hkj.tn k12
  have hb12lt := hb12.lt
  refine Otg 67 (.tmp 6) (.tmp 16) 0 (Vt.cells x.2) hb12 (Vt.len _) (Vt.one _) ?_
  intro w14 hb12_17 hk15 hz16
  replace hb12_17 : Blk w14 b12 (Vt.cells x.2) 67 := (by rwa [over_whole (by rw [Vt.len]; rfl)] at hb12_17)
  have hsz18 := Keep.size hk15
  replace jb1 := jb1.k1 hk15
  replace jbs2 := jbs2.k1 hk15
  replace jbn2 := jbn2.k1 hk15
  replace hbv := hbv.k1 hk15
  replace hbt := hbt.k1 hk15
  replace hvb := hvb.k1 hk15
  replace hb0 := hb0.k1 hk15
  replace hfen := Keep.fresh hfen hk15 (by intro i hi hs; have hs2 : i = b12 := hs; show _ ∨ _; omega)
  replace hkj := Keep.fr hkj hk15
  refine OI_end rfl ?_
  refine X_begin2 hfen ?_
  intro W2 hk2 ⟨r2, hr2⟩ hD2
  have hsz19 := Keep.size hk2
  replace jb1 := Blk.quiet jb1 hk2
  replace jbs2 := Blk.quiet jbs2 hk2
  replace jbn2 := Blk.quiet jbn2 hk2
  replace hbv := Blk.quiet hbv hk2
  replace hbt := Blk.quiet hbt hk2
  replace hvb := Blk.quiet hvb hk2
  replace hb0 := Blk.quiet hb0 hk2
  replace hb12_17 := Blk.quiet hb12_17 hk2
  replace jj := hJ _ _ _ _ jj (Keep.ofNone hkj); replace jj := (hJ _ _).mono (by omega : w.heap.size ≤ w9.heap.size) _ _ jj hk2; replace hkj := Keep.refl none_ W2
  have hzhk2 := Keep.size hk2
  have hfenb : Keep (fen w9.heap.size M1) W2 W2 := Keep.refl _ _
  have hzhfenb := Keep.size hfenb
  have hzhkj := Keep.size hkj
  refine V_block ?_
  refine V_seq ?_
  refine V_draws (acts [2, 12]) none_ [[0, 1, 2, 3, 4, 5, 6, 7, 8, 9, 10, 11, 12, 13, 14]] (by kernel_rfl) (by repeat first | exact (by first | exact sure_postM | exact sure_rQ2 | exact sure_no | exact sure_body (by rintro _ _ ⟨h, _⟩; exact ⟨_, h⟩)) | refine sure_then ?_ | refine sure_block ?_ | refine sure_join ?_) (by kernel_rfl) ?_
  intro w21 hk20 he22 L hL23
  have hsz24 := Keep.size hk20
  replace jb1 := jb1.k0 hk20
  replace jbs2 := jbs2.k0 hk20
  replace jbn2 := jbn2.k0 hk20
  replace hbv := hbv.k0 hk20
  replace hbt := hbt.k0 hk20
  replace hvb := hvb.k0 hk20
  replace hb0 := hb0.k0 hk20
  replace hb12_17 := hb12_17.k0 hk20
  replace hkj := hkj.tn hk20
  replace hfenb := hfenb.tn hk20
  have qjb1 := jb1
  have qjbs2 := jbs2
  have qjbn2 := jbn2
  have qhbv := hbv
  have qhbt := hbt
  have qhvb := hvb
  have qhb0 := hb0
  have qhb12_17 := hb12_17
  have K25 : Keep none_ w21 w21 := Keep.refl _ _
  obtain rfl := List.mem_singleton.1 hL23
  refine Gc0 33 (.tmp 1) 0 (pt v) (some 17) qhbv rfl ?_
  refine Gs [2, 3, 4, 5, 6, 7, 8, 9, 10, 11, 12, 13, 14] [(3, pt bt), (4, pt b1), (5, nt x.1), (6, pt b12), (17, pt v), (18, nt x.1)] ?_
  refine Gk (kl 64 #[(.tmp 17), (.tmp 18)] #[33, 3]) 64 #[pt v, nt x.1] (some 19) ((by rw [hx1]; exact pollfn_at v gv gr i0 pp (some ⟨b0, 0, none⟩) _ hvb hok.len hi12 hpp0)) ?_
  rintro _ w26 ⟨rfl, hk27⟩
  have K28 := K25.tr (Keep.ofNone hk27)
  refine ⟨_, rfl, K28, ?_⟩
  have hzK28 := Keep.size K28
  have hsz29 := Keep.size hk27
  replace jb1 := jb1.k0 hk27
  replace jbs2 := jbs2.k0 hk27
  replace jbn2 := jbn2.k0 hk27
  replace hbv := hbv.k0 hk27
  replace hbt := hbt.k0 hk27
  replace hvb := hvb.k0 hk27
  replace hb0 := hb0.k0 hk27
  replace hb12_17 := hb12_17.k0 hk27
  replace hkj := hkj.tn hk27
  replace hfenb := hfenb.tn hk27
  refine Gn [5, 6, 7, 8, 9, 10, 11, 12, 13, 14] [3, 4, 5, 6, 21] ?_
  refine Gc0 3 (.tmp 21) 0 (nt q0.track) (some 22) qhb0 rfl ?_
  refine Gc0 3 (.tmp 3) 0 (nt t) (some 23) qhbt rfl ?_
  refine Gs [9, 10, 11, 12, 13, 14] [(4, pt b1), (5, nt x.1), (6, pt b12), (25, .bool (decide (q0.track = t)))] ?_
  by_cases hg30 : q0.track = t
  ·
   refine GI_eq [(4, pt b1), (5, nt x.1), (6, pt b12), (25, .bool true)] (by first | simp [hg30] | rfl) ?_
   refine Gc0 246 (.tmp 4) 0 (.func (.yield l) #[] #[]) (some 26) qjb1 rfl ?_
   refine Gs [11, 12, 13, 14] [(6, pt b12), (25, .bool true), (26, .func (.yield l) #[] #[]), (27, nt x.1)] ?_
   refine Ga 67 (.tmp 6) 0 (Vt.cells x.2) (some 28) 6 qhb12_17 id (take_all (Vt.len _)) (Vt.len _) ?_
   obtain ⟨hat, hlt⟩ := vtake_at hx (htr0.symm.trans hg30)
   refine GI_yield0 { callee := (Callee.value (Operand.tmp 26)), args := #[(Operand.tmp 27), (Operand.tmp 28)], argTypes := #[3, 67] } l #[nt x.1, .agg (Vt.cells x.2).toArray] (some 29) (by kernel_rfl) (by kernel_rfl) (by kernel_rfl) (by kernel_rfl) (by have hy := hY M1 _ _ (by omega) (by omega) hlt (hJ _ _ _ _ jj (Keep.ofNone hkj)); rw [GV.enc2_at hat] at hy; exact hy) ?_
   rintro _ w31 ⟨hk33, (⟨rfl, hj32⟩ | ⟨rfl, hj32⟩)⟩
   ·
    refine ⟨_, rfl, ?_⟩
    have hsz34 := Keep.size hk33
    replace jb1 := jb1.keep hk33 (by show ¬ (_ ∨ _); omega)
    replace jbs2 := jbs2.keep hk33 (by show ¬ (_ ∨ _); omega)
    replace jbn2 := jbn2.keep hk33 (by show ¬ (_ ∨ _); omega)
    replace hfenb := Keep.fresh hfenb hk33 (by intro i hi hs; rcases hs with hs | hs; exact .inl (by omega); exact .inr hs)
    refine Gs [] [(31, .bool false)] ?_
    refine GI_end ?_
    refine X_then ?_
    refine V_false rfl ?_
    refine V_skip ?_
    refine X_block ?_
    exact fun a _ => ⟨hfenb, jb1, jbs2, jbn2, by rw [vtake_step hx, if_pos (htr0.symm.trans hg30)]; simpa using hj32⟩
   ·
    refine ⟨_, rfl, ?_⟩
    have hsz35 := Keep.size hk33
    replace jb1 := jb1.keep hk33 (by show ¬ (_ ∨ _); omega)
    replace jbs2 := jbs2.keep hk33 (by show ¬ (_ ∨ _); omega)
    replace jbn2 := jbn2.keep hk33 (by show ¬ (_ ∨ _); omega)
    replace hfenb := Keep.fresh hfenb hk33 (by intro i hi hs; rcases hs with hs | hs; exact .inl (by omega); exact .inr hs)
    refine Gs [] [(31, .bool true)] ?_
    refine GI_end ?_
    refine X_then ?_
    refine V_true rfl ?_
    refine V_ret ?_
    refine X_ret_block ?_
    exact fun a _ => ⟨hfenb, ⟨rfl, _, hj32, by omega⟩⟩
  refine GI_eq [(4, pt b1), (5, nt x.1), (6, pt b12), (25, .bool false)] (by first | simp [hg30] | rfl) ?_
  refine Gs [] [(31, .bool false)] ?_
  refine GI_end ?_
  refine X_then ?_
  refine V_false rfl ?_
  refine V_skip ?_
  refine X_block ?_
  exact fun a _ => ⟨hfenb, jb1, jbs2, jbn2, hJ _ _ _ _ (by rw [vtake_step hx, if_neg (fun h9 => hg30 (htr0.trans h9))]; exact jj) (Keep.ofNone hkj)⟩
 ·
  intro D M1 W hD hM ⟨jb1, jbs2, jbn2, jj⟩ hDD
  have hb1lt := jb1.lt
  have hbs2lt := jbs2.lt
  have hbn2lt := jbn2.lt
  refine X_block ?_
  rw [vtake_all] at jj
  exact leave1 (.tuple #[]) (.inr rfl) hDD (fun w' hk => ⟨res_tmps rfl, ⟨_, rfl⟩, M1, by omega, .inl (((hJ _ _).mono (by omega)) _ _ jj hk)⟩)
 ·
  intro D M1 k c W hD hM hkm h hDD
  obtain ⟨hc, q, xx, hq⟩ := h
  subst hc
  refine V_ret ?_
  refine X_ret_block ?_
  exact leave1 (.tuple #[]) (.inl rfl) hDD (fun w' hk => ⟨res_tmps rfl, ⟨_, rfl⟩, M1, by omega, .inr ⟨q, hq, ((hJx _ _).mono (by omega)) _ _ xx hk⟩⟩)
end Go.Al

namespace Go.Al
open Go Go.RowKit Go.Proofs
set_option maxRecDepth 10000 in
theorem votesfn_spec (v : Value) (hv : v.cells = [v].toArray) (a t : Int) (w : World) : Calls Tryz.prog 111 #[v, nt a, nt t] w fun e w' => ∃ bv bw bt, e = .returned (.func (.func 161) #[] #[pt bv, pt bw, pt bt]) ∧ Blk w' bv [v] 33 ∧ Blk w' bw [nt a] 3 ∧ Blk w' bt [nt t] 3 ∧ Keep none_ w w' ∧ w.heap.size ≤ bv ∧ w.heap.size ≤ bw ∧ w.heap.size ≤ bt := by
 have hK0 : Keep none_ w w := Keep.refl _ _
 have hzhK0 := Keep.size hK0
 refine enterV Tryz.func111 rfl [v, nt a, nt t] 8 rfl rfl rfl ?_
 refine Vr ?_
 refine OI_box 33 (.tmp 0) v [v] (some 3) (by kernel_rfl) (by kernel_rfl) hv ?_
 intro b1 w1 e1 hb1 k1 z1
 have hsz2 := Keep.size k1
 replace hK0 := hK0.tn k1
 have hb1lt := hb1.lt
 refine OI_box 3 (.tmp 1) (nt a) [nt a] (some 4) (by kernel_rfl) (by kernel_rfl) (by kernel_rfl) ?_
 intro b3 w3 e3 hb3 k3 z3
 have hsz4 := Keep.size k3
 replace hb1 := hb1.k0 k3
 replace hK0 := hK0.tn k3
 have hb3lt := hb3.lt
 refine OI_box 3 (.tmp 2) (nt t) [nt t] (some 5) (by kernel_rfl) (by kernel_rfl) (by kernel_rfl) ?_
 intro b5 w5 e5 hb5 k5 z5
 have hsz6 := Keep.size k5
 replace hb1 := hb1.k0 k5
 replace hb3 := hb3.k0 k5
 replace hK0 := hK0.tn k5
 have hb5lt := hb5.lt
 refine On 4 [3, 4, 5] ?_
 refine Oer ?_
 refine Ose [(6, .func (.func 161) #[] #[pt b1, pt b3, pt b5])] ?_
 refine V_ret ?_
 exact X_return _ rfl ⟨_, _, _, rfl, hb1, hb3, hb5, hK0, by omega, by omega, by omega⟩
set_option maxRecDepth 10000 in
theorem count_spec (F : Nat → Prop) (v : Nat) (P : VP) (s : VS) (a t : Int) (w : World) (h : Vot F w v P s) : Calls Tryz.prog 68 #[pt v, nt a, nt t] w fun e w' => e = .returned (nt (((vrow s a t).length : Nat) : Int)) ∧ Keep none_ w w' := by
 have hFlt := Vot.lt h
 have hvlt := hFlt _ (Vot.at_ h)
 have hFo : ∀ q, F q → 0 ≤ q := fun q _ => Nat.zero_le q
 have hFr : ∀ q, F q → F q ∨ w.heap.size ≤ q := fun _ h => .inl h
 have hK0 : Keep none_ w w := Keep.refl _ _
 have hzhK0 := Keep.size hK0
 refine enterM Tryz.func68 rfl [pt v, nt a, nt t] 17 rfl rfl rfl ?_
 refine V_pick [(0, pt v), (1, nt a), (2, nt t)] rfl ?_
 refine Vr ?_
 refine On 1 [0, 1, 2, 6] ?_
 refine Oer ?_
 refine OI_alloc 3 (nt 0) [nt 0] (some 7) (by kernel_rfl) (by kernel_rfl) (by kernel_rfl) ?_
 intro b1 w1 e1 hb1 k1 z1
 have hsz2 := Keep.size k1
 replace h := h.keep k1 nk
 replace hK0 := hK0.tn k1
 have hb1lt := hb1.lt
 refine Ot 3 (.tmp 7) (.const (Value.int IntKind.i64 0)) 0 (nt 0) hb1 ?_
 intro w3 hb1_6 hk4 hz5
 replace hb1_6 : Blk w3 b1 [nt 0] 3 := hb1_6
 have hsz7 := Keep.size hk4
 replace h := h.keep hk4 (fun q hq hs => by have hs : q = b1 := hs; have g0 := hFo q hq; have g1 := hFlt q hq; omega)
 replace hK0 := Keep.fr hK0 hk4
 refine Oe ?_
 refine V_seq ?_
 refine Vr ?_
 refine Os 3 [(6, nt 0), (7, pt b1), (8, pt v), (9, nt a), (10, nt t)] ?_
 refine Ok (kl 111 #[(.tmp 8), (.tmp 9), (.tmp 10)] #[33, 3, 3]) 111 #[pt v, nt a, nt t] (some 11) (votesfn_spec _ rfl a t _) ?_
 rintro _ w8 ⟨bv10, bw11, bt12, rfl, hbv10, hbw11, hbt12, hk9, hgebv10, hgebw11, hgebt12⟩
 refine ⟨_, rfl, ?_⟩
 have hsz13 := Keep.size hk9
 replace hb1_6 := hb1_6.k0 hk9
 replace h := h.keep hk9 nk
 replace hK0 := hK0.tn hk9
 have hbv10lt := hbv10.lt
 have hbw11lt := hbw11.lt
 have hbt12lt := hbt12.lt
 refine Oe ?_
 refine V_block ?_
 obtain ⟨A14, cap14, hva14⟩ := Vot.arr h
 have hal14 := VotA.lenA hva14
 have hvl9 := vrow_len s a t
 refine V_pick [(7, pt b1), (11, .func (.func 161) #[] #[pt bv10, pt bw11, pt bt12])] rfl ?_
 have hN0 : w.heap.size ≤ w8.heap.size := Keep.size hK0
 refine V_range2 (gf := 161) (caps := #[pt bv10, pt bw11, pt bt12]) (m := (vrow s a t).length) (by kernel_rfl) (by kernel_rfl) (by kernel_rfl) (votes1_iter bv10 bw11 bt12 v P.gv P.gr cap14 P.pp A14 s a t (by omega)) (⟨VotA.grat hva14, VotA.ok hva14 rfl (fun _ => rfl) hbv10 hbw11 hbt12⟩) (fun W W' h k => ⟨h.1.quiet k, h.2.quiet k⟩) (GV.enc2_size _) (fun M1 k W => (Blk W bv10 [pt v] 33) ∧ (Blk W bw11 [nt a] 3) ∧ (Blk W bt12 [nt t] 3) ∧ (VotA A14 cap14 F W v P s) ∧ (Keep none_ w W) ∧ (Blk W b1 [nt (k : Int)] 3)) (fun M1 c k W => False) (fun M1 k W W' h hk => by obtain ⟨jbv10, jbw11, jbt12, jhva14, jhK0, jb1⟩ := h; exact ⟨jbv10.quiet hk, jbw11.quiet hk, jbt12.quiet hk, VotA.quiet jhva14 hk, jhK0.quiet hk (by omega), jb1.quiet hk⟩) (fun _ _ _ _ _ h _ => h.elim) (fun M1 hM1 => ⟨hbv10, hbw11, hbt12, hva14, hK0, hb1_6⟩) (fun M1 k W h => by obtain ⟨jbv10, jbw11, jbt12, jhva14, jhK0, jb1⟩ := h; exact (VotA.ok jhva14 rfl (fun _ => rfl) jbv10 jbw11 jbt12)) ?_ ?_ (fun _ _ _ _ _ _ _ _ h _ => h.elim)
 ·
  intro lp D M1 k W hD hl hM hMW hkm ⟨jbv10, jbw11, jbt12, jhva14, jhK0, jb1⟩ ⟨rr, hrr⟩ hDD
  have hzjhK0 := Keep.size jhK0
  have hb1lt := jb1.lt
  have hbv10lt := jbv10.lt
  have hbw11lt := jbw11.lt
  have hbt12lt := jbt12.lt
  obtain ⟨x, hx⟩ : ∃ x, (vrow s a t)[k]? = some x := ⟨_, List.getElem?_eq_getElem (by omega)⟩
  rw [GV.enc2_at hx]
  refine V_pick [(7, pt b1)] rfl ?_
  have hfen : Keep (fen w8.heap.size M1) W W := Keep.refl _ _
  have hzhfen := Keep.size hfen
  refine V_skip ?_
  refine X_begin2 hfen ?_
  intro W2 hk2 ⟨r2, hr2⟩ hD2
  have hsz15 := Keep.size hk2
  replace jb1 := Blk.quiet jb1 hk2
  replace jbv10 := Blk.quiet jbv10 hk2
  replace jbw11 := Blk.quiet jbw11 hk2
  replace jbt12 := Blk.quiet jbt12 hk2
  replace jhva14 := VotA.quiet jhva14 hk2
  replace jhK0 := Keep.quiet jhK0 hk2 (by omega)
  have hzhk2 := Keep.size hk2
  have hfenb : Keep (fen w8.heap.size M1) W2 W2 := Keep.refl _ _
  have hzhfenb := Keep.size hfenb
  refine V_block ?_
  refine V_region ?_
  refine Oc 3 (.tmp 7) 0 (nt (k : Int)) (some 14) jb1 rfl ?_
  have hw16 : IntKind.i64.wrap ((k : Int) + 1) = ((k + 1 : Nat) : Int) := (wrap64_id (by omega) (by omega)).trans (by omega)
  refine Os 2 [(7, pt b1), (15, nt (IntKind.i64.wrap ((k : Int) + 1)))] ?_
  refine Oq (u := nt (IntKind.i64.wrap ((k : Int) + 1))) (v := nt ((k + 1 : Nat) : Int)) 15 (by rw [hw16]) ?_
  refine Ot 3 (.tmp 7) (.tmp 15) 0 (nt ((k + 1 : Nat) : Int)) jb1 ?_
  intro w17 hb1_20 hk18 hz19
  replace hb1_20 : Blk w17 b1 [nt ((k + 1 : Nat) : Int)] 3 := hb1_20
  have hsz21 := Keep.size hk18
  replace jbv10 := jbv10.k1 hk18
  replace jbw11 := jbw11.k1 hk18
  replace jbt12 := jbt12.k1 hk18
  replace jhva14 := VotA.keep jhva14 hk18 (fun q hq hs => by have hs : q = b1 := hs; have g0 := hFo q hq; have g1 := hFlt q hq; omega)
  replace jhK0 := Keep.fr jhK0 hk18
  replace hfenb := Keep.fresh hfenb hk18 (by intro i hi hs; have hs2 : i = b1 := hs; show _ ∨ _; omega)
  refine OI_end rfl ?_
  refine X_block ?_
  exact fun a _ => ⟨hfenb, jbv10, jbw11, jbt12, jhva14, jhK0, hb1_20⟩
 ·
  intro D M1 W hD hM ⟨jbv10, jbw11, jbt12, jhva14, jhK0, jb1⟩ hDD
  have hzjhK0 := Keep.size jhK0
  have hb1lt := jb1.lt
  have hbv10lt := jbv10.lt
  have hbw11lt := jbw11.lt
  have hbt12lt := jbt12.lt
  refine X_block ?_
  refine X_then ?_
  refine Vr ?_
  refine Oc 3 (.tmp 7) 0 (nt (((vrow s a t).length : Nat) : Int)) (some 16) jb1 rfl ?_
  refine Ose [(6, nt (((vrow s a t).length : Nat) : Int))] ?_
  refine V_ret ?_
  exact leave1 (nt (((vrow s a t).length : Nat) : Int)) (.inl rfl) hDD (fun w' hk => ⟨res_tmps rfl, ⟨rfl, Keep.quiet jhK0 hk (by omega)⟩⟩)
theorem GV.setC_mem2 {a b : Int} {v : Vt} {y : GV.Ci} : ∀ {cs : List GV.Ci}, y ∈ GV.setC a b v cs → y = ⟨a, b, v⟩ ∨ y ∈ cs
  | [], h => by simp only [GV.setC, List.mem_singleton] at h; exact .inl h
  | x :: l, h => by
    simp only [GV.setC] at h
    split at h
    · rcases List.mem_cons.1 h with h | h
      · exact .inl h
      · exact .inr (List.mem_cons_of_mem _ h)
    · split at h
      · rcases List.mem_cons.1 h with h | h
        · exact .inr (by rw [h]; exact List.mem_cons_self ..)
        · exact (GV.setC_mem2 h).imp id (List.mem_cons_of_mem _)
      · rcases List.mem_cons.1 h with h | h
        · exact .inl h
        · exact .inr h
theorem vget_spec (F : Nat → Prop) (v : Nat) (P : VP) (s : VS) (a b : Int) (w : World) (h : Vot F w v P s) : Calls Tryz.prog 66 #[.pointer (some ⟨P.gv, 0, none⟩), nt a, nt b] w fun e w' => e = .returned (.tuple #[.agg (Vt.cells ((GV.getC a b s.cs).getD Vt.zero)).toArray, .bool (GV.getC a b s.cs).isSome]) ∧ Keep none_ w w' := by
  obtain ⟨F1, F2, M, hX, _⟩ := h
  exact GV.get_spec F1 P.gv s.cs a b w hX.gv.gr
theorem vset_spec (F : Nat → Prop) (v : Nat) (P : VP) (s : VS) (a b : Int) (x : Vt) (w : World) (h : Vot F w v P s) (ha : 0 ≤ a ∧ a < 10) (hb : 0 ≤ b ∧ b < 12) (hok : okV x) (hp : ∃ q, s.ps[b.toNat]? = some (some q)) : Calls Tryz.prog 72 #[.pointer (some ⟨P.gv, 0, none⟩), nt a, nt b, .agg (Vt.cells x).toArray] w fun e w' => e = .returned (.tuple #[]) ∧ (∃ F', Vot F' w' v P { s with cs := GV.setC a b x s.cs } ∧ (∀ q, F' q → F q ∨ w.heap.size ≤ q)) ∧ Keep F w w' := by
  have hl := h.cslen
  obtain ⟨F1, F2, M, hX, h1, h2, h3, h4⟩ := h
  refine (GV.set_grd F1 P.gv s.cs a b x w hX.gv (by omega)).mono ?_
  rintro e w' ⟨rfl, ⟨F1', hG, hfr⟩, hk⟩
  refine ⟨rfl, Vot.setCs hX h1 h2 h3 h4 hk hG hfr ⟨hX.inv.len, fun c hc => ?_, hX.inv.dels⟩, hk.mono (fun q _ hq => h1 q hq)⟩
  rcases GV.setC_mem2 hc with rfl | hc
  · exact ⟨ha, hb, hok, hp⟩
  · exact hX.inv.votes c hc
def hasAt (t n : Int) (l : List (Int × Int)) : Bool := l.any fun x => decide (x.1 = t) && decide (n ≤ x.2)
def raiseC (cs : List Ci) (a t n : Int) : List Ci := if hasAt t n (rowL a cs) = true then cs else lockC cs a t n
theorem hasAt_yes {t n : Int} {l : List (Int × Int)} {k : Nat} {x : Int × Int} (hx : l[k]? = some x) (h1 : x.1 = t) (h2 : n ≤ x.2) : hasAt t n l = true := by
  unfold hasAt
  exact List.any_eq_true.2 ⟨x, List.mem_of_getElem? hx, by simp [h1, h2]⟩
theorem hasAt_step {t n : Int} {l : List (Int × Int)} {k : Nat} {x : Int × Int} (hx : l[k]? = some x) (h0 : hasAt t n (l.take k) = false) (h : ¬ (x.1 = t ∧ n ≤ x.2)) : hasAt t n (l.take (k + 1)) = false := by
  obtain ⟨h1, rfl⟩ := List.getElem?_eq_some_iff.1 hx
  unfold hasAt at *
  rw [List.take_succ_eq_append_getElem h1, List.any_append, h0]
  simpa using h
set_option maxRecDepth 10000 in
theorem raise_spec (F : Nat → Prop) (l : Nat) (xs : List Acc) (cs : List Ci) (a t n : Int) (w : World) (h : Led F w l xs cs) (hmax : cs.length < 100000) : Calls Tryz.prog 73 #[pt l, nt a, nt t, nt n] w fun e w' => e = .returned (.tuple #[]) ∧ (∃ F', Led F' w' l xs (raiseC cs a t n) ∧ (∀ q, F' q → F q ∨ w.heap.size ≤ q)) ∧ Keep F w w' := by
 have hFlt := Led.lt h
 have hllt := hFlt _ (Led.at_ h)
 have hinv := Led.inv h
 have hFr : ∀ q, F q → F q ∨ w.heap.size ≤ q := fun _ h => .inl h
 have hcopy := h
 obtain ⟨_, _, _, g, A, cap, D, hat, hG, hAF, hDF, _⟩ := hcopy
 have hl9 := hat.blk
 obtain ⟨_, _, _, _, A2, cap2, hat2, hAD2⟩ := hG
 have owA2 : ∀ q, inA A2 q → q < w.heap.size := fun q hq => hFlt q (hDF q (hAD2 q hq)).1
 have hgb := hat2.blk
 have hA2 := hat2.sl
 have hglt := hgb.lt
 have hK0 : Keep F w w := Keep.refl _ _
 have hzhK0 := Keep.size hK0
 refine enterM Tryz.func73 rfl [pt l, nt a, nt t, nt n] 28 rfl rfl rfl ?_
 refine V_pick [(0, pt l), (1, nt a), (2, nt t), (3, nt n)] rfl ?_
 refine Vr ?_
 refine OI_box 3 (.tmp 2) (nt t) [nt t] (some 6) (by kernel_rfl) (by kernel_rfl) (by kernel_rfl) ?_
 intro b1 w1 e1 hb1 k1 z1
 have hsz2 := Keep.size k1
 replace hl9 := hl9.k0 k1
 replace hgb := hgb.k0 k1
 replace hA2 := hA2.keep0 k1
 replace h := h.keep k1 nk
 replace hK0 := hK0.tn k1
 have hb1lt := hb1.lt
 refine OI_box 3 (.tmp 3) (nt n) [nt n] (some 7) (by kernel_rfl) (by kernel_rfl) (by kernel_rfl) ?_
 intro b3 w3 e3 hb3 k3 z3
 have hsz4 := Keep.size k3
 replace hl9 := hl9.k0 k3
 replace hgb := hgb.k0 k3
 replace hb1 := hb1.k0 k3
 replace hA2 := hA2.keep0 k3
 replace h := h.keep k3 nk
 replace hK0 := hK0.tn k3
 have hb3lt := hb3.lt
 refine Oe ?_
 refine V_seq ?_
 refine Vr ?_
 refine Os 2 [(0, pt l), (1, nt a), (6, pt b1), (7, pt b3), (10, pt l), (11, nt a)] ?_
 refine Ok (kl 115 #[(.tmp 10), (.tmp 11)] #[32, 3]) 115 #[pt l, nt a] (some 12) (locks_spec l g _ a _ hl9) ?_
 rintro _ w5 ⟨bg7, bs8, bn9, rfl, hbg7, hbs8, hbn9, hk6, hgebg7, hgebs8, hgebn9⟩
 refine ⟨_, rfl, ?_⟩
 have hsz10 := Keep.size hk6
 replace hl9 := hl9.k0 hk6
 replace hgb := hgb.k0 hk6
 replace hb1 := hb1.k0 hk6
 replace hb3 := hb3.k0 hk6
 replace hA2 := hA2.keep0 hk6
 replace h := h.keep hk6 nk
 replace hK0 := hK0.tn hk6
 have hbg7lt := hbg7.lt
 have hbs8lt := hbs8.lt
 have hbn9lt := hbn9.lt
 refine Oe ?_
 refine V_block ?_
 have hat3 := (⟨hgb, hA2, hat2.off⟩ : GrAt _ g A2 cap2 cs)
 refine V_pick [(0, pt l), (1, nt a), (6, pt b1), (7, pt b3), (12, .func (.func 209) #[] #[pt bg7, pt bs8, pt bn9])] rfl ?_
 have hN0 : w.heap.size ≤ w5.heap.size := Keep.size hK0
 refine V_range2 (gf := 209) (caps := #[pt bg7, pt bs8, pt bn9]) (m := (rowL a cs).length) (by kernel_rfl) (by kernel_rfl) (by kernel_rfl) (along1_iter0 bg7 bs8 bn9 g cap2 A2 cs a (by omega)) (⟨hbg7, hat3, ⟨hbs8, hbn9, hA2⟩⟩) (fun W W' h k => ⟨h.1.quiet k, h.2.1.quiet k, h.2.2.quiet k⟩) (enc2_size _) (fun M1 k W => (Blk W b1 [nt t] 3) ∧ (Blk W b3 [nt n] 3) ∧ (Blk W bs8 [nt 0] 3) ∧ (Blk W bn9 [nt a] 3) ∧ (SlT W 3 Ci.cells A2 cap2 cs) ∧ (Led F W l xs cs) ∧ (Keep F w W) ∧ (hasAt t n ((rowL a cs).take k) = false)) (fun M1 c k W => (c = .ret ∧ (Blk W b1 [nt t] 3) ∧ (Blk W b3 [nt n] 3) ∧ (Blk W bs8 [nt 0] 3) ∧ (Blk W bn9 [nt a] 3) ∧ (SlT W 3 Ci.cells A2 cap2 cs) ∧ (Led F W l xs cs) ∧ (Keep F w W) ∧ (hasAt t n (rowL a cs) = true))) (fun M1 k W W' h hk => by obtain ⟨jb1, jb3, jbs8, jbn9, jA2, jh, jhK0, hno⟩ := h; exact ⟨jb1.quiet hk, jb3.quiet hk, jbs8.quiet hk, jbn9.quiet hk, jA2.quiet hk, Led.quiet jh hk, jhK0.quiet hk (by omega), hno⟩) (fun M1 c k W W' h hk => by obtain ⟨hc, jb1, jb3, jbs8, jbn9, jA2, jh, jhK0, hyes⟩ := h; exact ⟨hc, jb1.quiet hk, jb3.quiet hk, jbs8.quiet hk, jbn9.quiet hk, jA2.quiet hk, Led.quiet jh hk, jhK0.quiet hk (by omega), hyes⟩) (fun M1 hM1 => ⟨hb1, hb3, hbs8, hbn9, hA2, h, hK0, rfl⟩) (fun M1 k W h => by obtain ⟨jb1, jb3, jbs8, jbn9, jA2, jh, jhK0, hno⟩ := h; exact ⟨jbs8, jbn9, jA2⟩) ?_ ?_ ?_
 ·
  intro lp D M1 k W hD hl hM hMW hkm ⟨jb1, jb3, jbs8, jbn9, jA2, jh, jhK0, hno⟩ ⟨rr, hrr⟩ hDD
  have hzjhK0 := Keep.size jhK0
  have hb1lt := jb1.lt
  have hb3lt := jb3.lt
  have hbs8lt := jbs8.lt
  have hbn9lt := jbn9.lt
  have ltjA2 := SlT.lt jA2
  obtain ⟨x, hx⟩ : ∃ x, (rowL a cs)[k]? = some x := ⟨_, List.getElem?_eq_getElem hkm⟩
  rw [enc2_at hx]
  refine V_pick [(6, pt b1), (7, pt b3), (13, nt x.1), (14, nt x.2)] rfl ?_
  have hfen : Keep (fen w5.heap.size M1) W W := Keep.refl _ _
  have hzhfen := Keep.size hfen
  refine Vr ?_
  refine On 1 [6, 7, 8, 14] ?_
  refine Oe ?_
  refine V_region ?_
  refine Os 1 [(6, pt b1), (7, pt b3), (8, nt x.1), (9, nt x.2)] ?_
  refine OI_end rfl ?_
  refine X_begin2 hfen ?_
  intro W2 hk2 ⟨r2, hr2⟩ hD2
  have hsz11 := Keep.size hk2
  replace jb1 := Blk.quiet jb1 hk2
  replace jb3 := Blk.quiet jb3 hk2
  replace jbs8 := Blk.quiet jbs8 hk2
  replace jbn9 := Blk.quiet jbn9 hk2
  replace jA2 := jA2.quiet hk2
  replace jh := jh.quiet hk2
  replace jhK0 := Keep.quiet jhK0 hk2 (by omega)
  have hzhk2 := Keep.size hk2
  have hfenb : Keep (fen w5.heap.size M1) W2 W2 := Keep.refl _ _
  have hzhfenb := Keep.size hfenb
  refine V_block ?_
  refine Vr ?_
  refine On 1 [6, 7, 9, 15] ?_
  refine Oc 3 (.tmp 6) 0 (nt t) (some 16) jb1 rfl ?_
  refine Os 4 [(7, pt b3), (9, nt x.2), (18, .bool (decide (x.1 = t)))] ?_
  by_cases hg12 : x.1 = t
  ·
   refine OI_eq [(7, pt b3), (9, nt x.2), (18, .bool true)] (by first | simp [hg12] | rfl) ?_
   refine On 5 [7, 18, 19] ?_
   refine Oc 3 (.tmp 7) 0 (nt n) (some 20) jb3 rfl ?_
   refine Ose [(22, .bool (decide (x.2 ≥ n)))] ?_
   refine V_if (x.2 ≥ n) (by kernel_rfl) (fun hc13 => ?_) (fun hc13 => ?_)
   ·
    refine V_ret ?_
    refine X_ret_block ?_
    exact fun a _ => ⟨hfenb, ⟨rfl, jb1, jb3, jbs8, jbn9, jA2, jh, jhK0, hasAt_yes hx hg12 hc13⟩⟩
   refine V_skip ?_
   refine X_block ?_
   exact fun a _ => ⟨hfenb, jb1, jb3, jbs8, jbn9, jA2, jh, jhK0, hasAt_step hx hno (by rintro ⟨h8, h9⟩; exact hc13 h9)⟩
  refine OI_eq [(7, pt b3), (9, nt x.2), (18, .bool false)] (by first | simp [hg12] | rfl) ?_
  refine Ose [(22, .bool false)] ?_
  refine V_false rfl ?_
  refine V_skip ?_
  refine X_block ?_
  exact fun a _ => ⟨hfenb, jb1, jb3, jbs8, jbn9, jA2, jh, jhK0, hasAt_step hx hno (by rintro ⟨h8, h9⟩; exact hg12 h8)⟩
 ·
  intro D M1 W hD hM ⟨jb1, jb3, jbs8, jbn9, jA2, jh, jhK0, hno⟩ hDD
  have hzjhK0 := Keep.size jhK0
  have hb1lt := jb1.lt
  have hb3lt := jb3.lt
  have hbs8lt := jbs8.lt
  have hbn9lt := jbn9.lt
  have ltjA2 := SlT.lt jA2
  refine X_block ?_
  refine X_then ?_
  refine V_region ?_
  refine Os 2 [(6, pt b1), (7, pt b3), (23, pt l), (24, nt a)] ?_
  refine Oc 3 (.tmp 6) 0 (nt t) (some 25) jb1 rfl ?_
  refine Oc 3 (.tmp 7) 0 (nt n) (some 26) jb3 rfl ?_
  refine Ok (kl 116 #[(.tmp 23), (.tmp 24), (.tmp 25), (.tmp 26)] #[32, 3, 3, 3]) 116 #[pt l, nt a, nt t, nt n] (some 27) (lock_spec F l xs cs a t n _ jh hmax) ?_
  rintro _ w14 ⟨rfl, ⟨F16, ho17, hfr18⟩, hk15⟩
  refine ⟨_, rfl, ?_⟩
  have hsz19 := Keep.size hk15
  replace jbs8 := jbs8.keep hk15 (fun hs => by have h2 := hFlt _ hs; omega)
  replace jbn9 := jbn9.keep hk15 (fun hs => by have h2 := hFlt _ hs; omega)
  replace jhK0 := Keep.fresh jhK0 hk15 (fun i hi hs => by rcases hFr i hs with h | h; exact h; (exfalso; omega))
  replace hDD := (Keep.block hk15 _ (Array.getElem?_eq_some_iff.1 hDD).1 (fun hs => by have h2 := hFlt _ hs; omega)).trans hDD
  have lt20 := Led.lt ho17
  have rel21 : ∀ q, F16 q → F q ∨ w.heap.size ≤ q := fun q hq => by rcases hfr18 q hq with h | h; exact hFr q h; exact .inr (by omega)
  refine OI_end rfl ?_
  rw [List.take_length] at hno
  exact leave1 (.tuple #[]) (.inr rfl) hDD (fun w' hk => ⟨res_tmps rfl, ⟨rfl, ⟨F16, by rw [show raiseC cs a t n = lockC cs a t n from by unfold raiseC; rw [if_neg (by rw [hno]; decide)]]; exact Led.quiet ho17 hk, rel21⟩, Keep.quiet jhK0 hk (by omega)⟩⟩)
 ·
  intro D M1 k c W hD hM hkm h hDD
  obtain ⟨hc, jb1, jb3, jbs8, jbn9, jA2, jh, jhK0, hyes⟩ := h
  subst hc
  have hzjhK0 := Keep.size jhK0
  have hb1lt := jb1.lt
  have hb3lt := jb3.lt
  have hbs8lt := jbs8.lt
  have hbn9lt := jbn9.lt
  have ltjA2 := SlT.lt jA2
  refine V_ret ?_
  refine X_ret_block ?_
  refine X_ret_then ?_
  exact leave1 (.tuple #[]) (.inl rfl) hDD (fun w' hk => ⟨res_tmps rfl, ⟨rfl, ⟨F, by rw [show raiseC cs a t n = cs from by unfold raiseC; rw [if_pos hyes]]; exact Led.quiet jh hk, hFr⟩, Keep.quiet jhK0 hk (by omega)⟩⟩)
end Go.Al

namespace Go.Al
open Go Go.RowKit Go.Proofs
theorem VS.setP_setP (s : VS) (i : Nat) (a b : PollS) : (s.setP i a).setP i b = s.setP i b := by unfold VS.setP; simp
end Go.Al

namespace Go.Al
open Go Go.RowKit Go.Proofs
def TrkOk (s : VS) : Prop := ∀ (i : Nat) q, s.ps[i]? = some (some q) → 0 ≤ q.track ∧ q.track < 4
def voteE (xs : List Acc) (s : VS) (who ref : Int) (x : Vt) : Int := if ¬ (0 ≤ who ∧ who ≤ 9) ∨ ¬ okV x then 1 else match pollAt s ref with
  | none => 4
  | some q => if ¬ q.state = 0 then 9 else if (s.rc who q.track).d.isSome = true then 5 else if capI x > (acct xs who).free then 6 else if (GV.getC who ref s.cs).isSome = false ∧ (((vrow s who q.track).length : Nat) : Int) ≥ 6 then 3 else 0
def voteT (s : VS) (who ref : Int) (x : Vt) (q : PollS) : Tly := addT (if (GV.getC who ref s.cs).isSome = true then subT q.t (gainT ((GV.getC who ref s.cs).getD Vt.zero) (s.rc who q.track).got) else q.t) (gainT x (s.rc who q.track).got)
def voteS (xs : List Acc) (s : VS) (who ref : Int) (x : Vt) : VS := if voteE xs s who ref x = 0 then (match pollAt s ref with | none => s | some q => { s.setP ref.toNat { q with t := voteT s who ref x q } with cs := GV.setC who ref x s.cs }) else s
def voteC (xs : List Acc) (cs : List Ci) (s : VS) (who ref : Int) (x : Vt) : List Ci := if voteE xs s who ref x = 0 then (match pollAt s ref with | none => cs | some q => raiseC cs who q.track (capI x)) else cs
set_option maxRecDepth 10000 in
set_option maxHeartbeats 1000000 in
theorem vote_at (F G : Nat → Prop) (v l : Nat) (P : VP) (s : VS) (xs : List Acc) (cs : List Ci) (who ref : Int) (x : Vt) (w : World) (h : Vot F w v P s) (hl : Led G w l xs cs) (hdis : ∀ q, F q → ¬ G q) (htr : TrkOk s) (hmax : cs.length < 100000) : Calls Tryz.prog 31 #[pt v, pt l, nt who, nt ref, .agg x.cells.toArray] w fun e w' => e = .returned (nt (voteE xs s who ref x)) ∧ (∃ F' G', VotE F' w' v (voteS xs s who ref x) ∧ Led G' w' l xs (voteC xs cs s who ref x) ∧ (∀ q, F' q → F q ∨ w.heap.size ≤ q) ∧ (∀ q, G' q → G q ∨ w.heap.size ≤ q) ∧ (∀ q, F' q → ¬ G' q)) ∧ Keep (fun q => F q ∨ G q) w w' := by
 have hFlt := Vot.lt h
 have hvlt := hFlt _ (Vot.at_ h)
 have hFo : ∀ q, F q → 0 ≤ q := fun q _ => Nat.zero_le q
 have hFr : ∀ q, F q → F q ∨ w.heap.size ≤ q := fun _ h => .inl h
 have hGlt := Led.lt hl
 have hllt := hGlt _ (Led.at_ hl)
 have hGo : ∀ q, G q → 0 ≤ q := fun q _ => Nat.zero_le q
 have hGr : ∀ q, G q → G q ∨ w.heap.size ≤ q := fun _ h => .inl h
 obtain ⟨hvl0, hvb⟩ := Vot.vblk h
 have hFv := Vot.at_ h
 have hK0 : Keep (fun q => F q ∨ G q) w w := Keep.refl _ _
 have hzhK0 := Keep.size hK0
 refine enterV Tryz.func31 rfl [pt v, pt l, nt who, nt ref, .agg (Vt.cells x).toArray] 133 rfl rfl rfl ?_
 refine Vr ?_
 refine OI_box 67 (.tmp 4) (.agg (Vt.cells x).toArray) (Vt.cells x) (some 9) (by kernel_rfl) (by kernel_rfl) rfl ?_
 intro b1 w1 e1 hb1 k1 z1
 have hsz2 := Keep.size k1
 replace hvb := hvb.k0 k1
 replace h := h.keep k1 nk
 replace hl := hl.keep k1 nk
 replace hK0 := hK0.tn k1
 have hb1lt := hb1.lt
 refine On 2 [0, 1, 2, 3, 9] ?_
 refine Oe ?_
 refine V_seq ?_
 refine Vr ?_
 refine On 8 [0, 1, 2, 3, 9, 21, 22] ?_
 refine Ok (kl 62 #[(.tmp 22)] #[3]) 62 #[nt who] (some 23) (isAcc_spec who _) ?_
 rintro _ w1 ⟨rfl, rfl⟩
 refine ⟨_, rfl, ?_⟩
 refine Os 12 [(0, pt v), (1, pt l), (2, nt who), (3, nt ref), (9, pt b1), (26, .bool (!(decide (0 ≤ who ∧ who ≤ 9))))] ?_
 by_cases hg8 : 0 ≤ who ∧ who ≤ 9
 ·
  refine OI_eq [(0, pt v), (1, pt l), (2, nt who), (3, nt ref), (9, pt b1), (26, .bool false)] (by first | simp [hg8] | rfl) ?_
  refine Oa 67 (.tmp 9) 0 (Vt.cells x) (some 27) 6 hb1 (take_all (Vt.len _)) (Vt.len _) ?_
  refine Ok (kl 63 #[(.tmp 27)] #[67]) 63 #[.agg (Vt.cells x).toArray] (some 28) (cvIs_spec x _) ?_
  rintro _ w11 ⟨rfl, hk12⟩
  refine ⟨_, rfl, ?_⟩
  have hsz13 := Keep.size hk12
  replace hvb := hvb.k0 hk12
  replace hb1 := hb1.k0 hk12
  replace h := h.keep hk12 nk
  replace hl := hl.keep hk12 nk
  replace hK0 := hK0.tn hk12
  refine Ose [(0, pt v), (1, pt l), (2, nt who), (3, nt ref), (9, pt b1), (30, .bool (!(decide (okV x))))] ?_
  refine V_not (okV x) (by kernel_rfl) (fun hc14 => ?_) (fun hc14 => ?_)
  ·
   refine Vs [(10, nt 1)] ?_
   refine V_ret ?_
   refine X_ret_then ?_
   have hE15 : voteE xs s who ref x = 1 := by unfold voteE; rw [if_pos (.inr (hc14))]
   exact X_return (nt 1) rfl ⟨by rw [hE15], ⟨F, G, ⟨_, by rw [show voteS xs s who ref x = s from by unfold voteS; rw [hE15, if_neg (by decide)]]; exact h⟩, by rw [show voteC xs cs s who ref x = cs from by unfold voteC; rw [hE15, if_neg (by decide)]]; exact hl, hFr, hGr, hdis⟩, hK0⟩
  refine V_skip ?_
  refine X_then ?_
  refine Vr ?_
  refine Os 2 [(0, pt v), (1, pt l), (2, nt who), (3, nt ref), (9, pt b1), (31, pt v), (32, nt ref)] ?_
  rcases Vot.pollcase h ref with ⟨hpn16, hpc16⟩ | ⟨i16, b16, q16, hpr16, hpi16, hpp16, hps16, hpa16⟩
  ·
   refine Ok (kl 64 #[(.tmp 31), (.tmp 32)] #[33, 3]) 64 #[pt v, nt ref] (some 33) (poll_none F v P s ref _ h hpc16) ?_
   rintro _ w19 ⟨rfl, hk20⟩
   refine ⟨_, rfl, ?_⟩
   have hsz21 := Keep.size hk20
   replace hvb := hvb.k0 hk20
   replace hb1 := hb1.k0 hk20
   replace h := h.keep hk20 nk
   replace hl := hl.keep hk20 nk
   replace hK0 := hK0.tn hk20
   refine On 4 [0, 1, 2, 3, 9, 11] ?_
   refine Oe ?_
   refine V_seq ?_
   refine V_block ?_
   refine Vs [(0, pt v), (1, pt l), (2, nt who), (3, nt ref), (9, pt b1), (11, .pointer none), (34, .bool true)] ?_
   refine V_true rfl ?_
   refine Vs [(10, nt 4)] ?_
   refine V_ret ?_
   refine X_ret_block ?_
   refine X_ret_then ?_
   have hE22 : voteE xs s who ref x = 4 := by unfold voteE; rw [if_neg (by rintro (h9 | h9); exact h9 hg8; exact h9 hc14)]; rw [hpn16]
   exact X_return (nt 4) rfl ⟨by rw [hE22], ⟨F, G, ⟨_, by rw [show voteS xs s who ref x = s from by unfold voteS; rw [hE22, if_neg (by decide)]]; exact h⟩, by rw [show voteC xs cs s who ref x = cs from by unfold voteC; rw [hE22, if_neg (by decide)]]; exact hl, hFr, hGr, hdis⟩, hK0⟩
  ·
   refine Ok (kl 64 #[(.tmp 31), (.tmp 32)] #[33, 3]) 64 #[pt v, nt ref] (some 33) ((by rw [hpr16]; exact poll_some F v P s i16 b16 _ h hpi16 hpp16)) ?_
   rintro _ w25 ⟨rfl, hk26⟩
   refine ⟨_, rfl, ?_⟩
   have hsz27 := Keep.size hk26
   replace hvb := hvb.k0 hk26
   replace hb1 := hb1.k0 hk26
   replace h := h.keep hk26 nk
   replace hl := hl.keep hk26 nk
   replace hK0 := hK0.tn hk26
   obtain ⟨hm28, hF29⟩ := Vot.pollB h hpp16 hps16
   have hb16lt := hm28.lt
   have hlob16 := hFlt _ hF29
   have hob16 := hFo _ hF29
   have hneb16v : b16 ≠ v := Blk.ne hm28 hvb (by decide)
   refine On 4 [0, 1, 2, 3, 9, 11] ?_
   refine Oe ?_
   refine V_seq ?_
   refine V_block ?_
   refine Vs [(0, pt v), (1, pt l), (2, nt who), (3, nt ref), (9, pt b1), (11, pt b16), (34, .bool false)] ?_
   refine V_false rfl ?_
   refine Vr ?_
   refine On 3 [0, 1, 2, 3, 9, 11, 40] ?_
   refine Oc 3 (.tmp 40) 4 (nt ((q16).state)) (some 41) hm28 rfl ?_
   refine Ose [(0, pt v), (1, pt l), (2, nt who), (3, nt ref), (9, pt b1), (11, pt b16), (37, .bool (!(decide ((q16).state = 0))))] ?_
   refine V_not ((q16).state = 0) (by kernel_rfl) (fun hc30 => ?_) (fun hc30 => ?_)
   ·
    refine Vs [(10, nt 9)] ?_
    refine V_ret ?_
    refine X_ret_block ?_
    refine X_ret_then ?_
    have hE31 : voteE xs s who ref x = 9 := by unfold voteE; rw [if_neg (by rintro (h9 | h9); exact h9 hg8; exact h9 hc14)]; rw [hpa16]; dsimp only; rw [if_pos hc30]
    exact X_return (nt 9) rfl ⟨by rw [hE31], ⟨F, G, ⟨_, by rw [show voteS xs s who ref x = s from by unfold voteS; rw [hE31, if_neg (by decide)]]; exact h⟩, by rw [show voteC xs cs s who ref x = cs from by unfold voteC; rw [hE31, if_neg (by decide)]]; exact hl, hFr, hGr, hdis⟩, hK0⟩
   refine V_skip ?_
   refine X_block ?_
   refine X_then ?_
   refine Vr ?_
   refine Os 5 [(0, pt v), (1, pt l), (2, nt who), (3, nt ref), (9, pt b1), (11, pt b16), (43, pt v), (44, nt who), (47, pt b16)] ?_
   refine Oc 3 (.tmp 47) 0 (nt ((q16).track)) (some 48) hm28 rfl ?_
   rcases hd32 : (s.rc who ((q16).track)).d with _ | d33
   ·
    refine Ok (kl 65 #[(.tmp 43), (.tmp 44), (.tmp 48)] #[33, 3, 3]) 65 #[pt v, nt who, nt ((q16).track)] (some 49) (record_spec F v P s who ((q16).track) _ h (by omega) (htr _ _ (by assumption))) ?_
    rintro _ w48 ⟨q38, P39, rfl, hgc43, hpp44, hgv45, hmn46, hdl47, ⟨F40, ho41, hfr42⟩, hk49⟩
    refine ⟨_, rfl, ?_⟩
    have hsz50 := Keep.size hk49
    replace hb1 := hb1.keep hk49 (fun hs => by have h1 := hFo _ hs; have h2 := hFlt _ hs; omega)
    replace hl := hl.keep hk49 (fun q hq hs => hdis q hs hq)
    replace hK0 := Keep.fresh hK0 hk49 (fun i hi hs => by rcases hFr i hs with h | h; exact .inl h; (exfalso; omega))
    have own52 : ∀ q, F40 q → 0 ≤ q ∧ q ≠ b1 := fun q hq => by rcases hfr42 q hq with h | h; (have h1 := hFo q h; have h2 := hFlt q h; omega); omega
    have lt51 := Vot.lt ho41
    have rel53 : ∀ q, F40 q → F q ∨ w.heap.size ≤ q := fun q hq => by rcases hfr42 q hq with h | h; exact hFr q h; exact .inr (by omega)
    have dis54 : ∀ q, F40 q → ¬ G q := fun q h1 h2 => by rcases hfr42 q h1 with h | h; exact hdis q h h2; (have h4 := hGlt q h2; omega)
    have hqb16w48 := (show P39.pp[i16]? = some (some ⟨b16, 0, none⟩) from by rw [hpp44]; exact hpp16)
    have hgq38lt := lt51 _ (Vot.at_ ho41)
    obtain ⟨hvlhm55, hm55⟩ := Vot.vblk ho41
    have hF56 := Vot.at_ ho41
    have hvlt := hm55.lt
    have hlov := lt51 _ hF56
    have hov := own52 _ hF56
    obtain ⟨hm57, hF58⟩ := Vot.pollB ho41 hqb16w48 hps16
    have hb16lt := hm57.lt
    have hlob16 := lt51 _ hF58
    have hob16 := own52 _ hF58
    obtain ⟨hF60, hm59⟩ := Vot.recN ho41 hgc43 hd32
    have hq38lt := hm59.lt
    have hloq38 := lt51 _ hF60
    have hoq38 := own52 _ hF60
    have hneb16v : b16 ≠ v := Blk.ne hm57 hm55 (by decide)
    have hneq38v : q38 ≠ v := Blk.ne hm59 hm55 (by decide)
    have hneq38b16 : q38 ≠ b16 := Blk.ne hm59 hm57 (by decide)
    refine On 8 [0, 1, 2, 3, 9, 11, 12] ?_
    refine Oer ?_
    refine On 3 [0, 1, 2, 3, 9, 11, 12, 53] ?_
    refine Oc 119 (.tmp 53) 12 (pt P39.gv) (some 54) hm55 (by rw [List.getElem?_append_right (by rw [List.length_map]; omega), List.length_map, hvlhm55]; rfl) ?_
    refine On 6 [0, 1, 2, 3, 9, 11, 12, 54, 55, 56] ?_
    refine Ok (kl 66 #[(.tmp 54), (.tmp 55), (.tmp 56)] #[119, 3, 3]) 66 #[pt P39.gv, nt who, nt ref] (some 57) (vget_spec F40 v P39 s who ref _ ho41) ?_
    rintro _ w63 ⟨rfl, hk64⟩
    refine ⟨_, rfl, ?_⟩
    have hsz65 := Keep.size hk64
    replace hb1 := hb1.k0 hk64
    replace hm55 := hm55.k0 hk64
    replace hm57 := hm57.k0 hk64
    replace hm59 := hm59.k0 hk64
    replace hl := hl.keep hk64 nk
    replace hK0 := hK0.tn hk64
    replace ho41 := ho41.keep hk64 nk
    refine On 10 [0, 1, 2, 3, 9, 11, 12, 58, 59] ?_
    refine OI_alloc 67 (.agg #[nt 0, .bool false, nt 0, nt 0, nt 0, nt 0]) [nt 0, .bool false, nt 0, nt 0, nt 0, nt 0] (some 13) (by kernel_rfl) (by kernel_rfl) (by kernel_rfl) ?_
    intro b66 w66 e66 hb66 k66 z66
    have hsz67 := Keep.size k66
    replace hb1 := hb1.k0 k66
    replace hm55 := hm55.k0 k66
    replace hm57 := hm57.k0 k66
    replace hm59 := hm59.k0 k66
    replace hl := hl.keep k66 nk
    replace hK0 := hK0.tn k66
    replace ho41 := ho41.keep k66 nk
    have hb66lt := hb66.lt
    refine Otg 67 (.tmp 13) (.tmp 58) 0 (Vt.cells ((GV.getC who ref s.cs).getD Vt.zero)) hb66 (Vt.len _) (Vt.one _) ?_
    intro w68 hb66_71 hk69 hz70
    replace hb66_71 : Blk w68 b66 (Vt.cells ((GV.getC who ref s.cs).getD Vt.zero)) 67 := (by rwa [over_whole (by rw [Vt.len]; rfl)] at hb66_71)
    have hsz72 := Keep.size hk69
    replace hb1 := hb1.k1 hk69
    replace hm55 := hm55.k1 hk69
    replace hm57 := hm57.k1 hk69
    replace hm59 := hm59.k1 hk69
    replace hl := hl.keep hk69 (fun q hq hs => by have hs : q = b66 := hs; have g0 := hGo q hq; have g1 := hGlt q hq; omega)
    replace hK0 := Keep.fr hK0 hk69
    replace ho41 := ho41.keep hk69 (fun q hq hs => by have hs : q = b66 := hs; have g0 := own52 q hq; have g1 := lt51 q hq; omega)
    refine On 13 [0, 1, 2, 3, 9, 11, 12, 13, 14] ?_
    refine Oe ?_
    refine V_seq ?_
    refine V_block ?_
    refine Vr ?_
    refine On 3 [0, 1, 2, 3, 9, 11, 12, 13, 14, 63] ?_
    refine Oc 137 (.tmp 63) 0 (.pointer none) (some 64) hm59 rfl ?_
    refine Ose [(0, pt v), (1, pt l), (2, nt who), (3, nt ref), (9, pt b1), (11, pt b16), (12, pt q38), (13, pt b66), (14, .bool ((GV.getC who ref s.cs).isSome)), (60, .bool false)] ?_
    refine V_false rfl ?_
    refine Vr ?_
    refine Oa 67 (.tmp 9) 0 (Vt.cells x) (some 67) 6 hb1 (take_all (Vt.len _)) (Vt.len _) ?_
    refine Ok (kl 67 #[(.tmp 67)] #[67]) 67 #[.agg (Vt.cells x).toArray] (some 68) (cvCapital_spec x _) ?_
    rintro _ w75 ⟨rfl, hk76⟩
    refine ⟨_, rfl, ?_⟩
    have hsz77 := Keep.size hk76
    replace hb1 := hb1.k0 hk76
    replace hm55 := hm55.k0 hk76
    replace hm57 := hm57.k0 hk76
    replace hm59 := hm59.k0 hk76
    replace hb66_71 := hb66_71.k0 hk76
    replace hl := hl.keep hk76 nk
    replace hK0 := hK0.tn hk76
    replace ho41 := ho41.keep hk76 nk
    refine On 4 [0, 1, 2, 3, 9, 11, 12, 13, 14, 68, 69, 70] ?_
    refine Ok (kl 25 #[(.tmp 69), (.tmp 70)] #[32, 3]) 25 #[pt l, nt who] (some 71) (free_spec G l xs cs who _ hl) ?_
    rintro _ w78 ⟨rfl, hk79⟩
    refine ⟨_, rfl, ?_⟩
    have hsz80 := Keep.size hk79
    replace hb1 := hb1.k0 hk79
    replace hm55 := hm55.k0 hk79
    replace hm57 := hm57.k0 hk79
    replace hm59 := hm59.k0 hk79
    replace hb66_71 := hb66_71.k0 hk79
    replace hl := hl.keep hk79 nk
    replace hK0 := hK0.tn hk79
    replace ho41 := ho41.keep hk79 nk
    refine Ose [(0, pt v), (1, pt l), (2, nt who), (3, nt ref), (9, pt b1), (11, pt b16), (12, pt q38), (13, pt b66), (14, .bool ((GV.getC who ref s.cs).isSome)), (66, .bool (decide (capI x > (acct xs who).free)))] ?_
    refine V_if (capI x > (acct xs who).free) (by kernel_rfl) (fun hc81 => ?_) (fun hc81 => ?_)
    ·
     refine Vs [(10, nt 6)] ?_
     refine V_ret ?_
     refine X_ret_block ?_
     refine X_ret_then ?_
     have hE82 : voteE xs s who ref x = 6 := by unfold voteE; rw [if_neg (by rintro (h9 | h9); exact h9 hg8; exact h9 hc14)]; rw [hpa16]; dsimp only; rw [if_neg (fun h9 => h9 hc30)]; rw [if_neg (by rw [hd32]; decide)]; rw [if_pos hc81]
     exact X_return (nt 6) rfl ⟨by rw [hE82], ⟨F40, G, ⟨_, by rw [show voteS xs s who ref x = s from by unfold voteS; rw [hE82, if_neg (by decide)]]; exact ho41⟩, by rw [show voteC xs cs s who ref x = cs from by unfold voteC; rw [hE82, if_neg (by decide)]]; exact hl, rel53, hGr, dis54⟩, hK0⟩
    refine Vr ?_
    refine Os 3 [(0, pt v), (1, pt l), (2, nt who), (3, nt ref), (9, pt b1), (11, pt b16), (12, pt q38), (13, pt b66), (14, .bool ((GV.getC who ref s.cs).isSome)), (76, .bool (!((GV.getC who ref s.cs).isSome)))] ?_
    cases hg83 : (!((GV.getC who ref s.cs).isSome))
    ·
     refine OI_eq [(0, pt v), (1, pt l), (2, nt who), (3, nt ref), (9, pt b1), (11, pt b16), (12, pt q38), (13, pt b66), (14, .bool ((GV.getC who ref s.cs).isSome)), (76, .bool false)] (by first | rfl | rw [hg83]) ?_
     refine Ose [(0, pt v), (1, pt l), (2, nt who), (3, nt ref), (9, pt b1), (11, pt b16), (12, pt q38), (13, pt b66), (14, .bool ((GV.getC who ref s.cs).isSome)), (73, .bool false)] ?_
     refine V_false rfl ?_
     refine V_skip ?_
     refine X_block ?_
     refine X_then ?_
     refine V_seq ?_
     refine Vs [(0, pt v), (1, pt l), (2, nt who), (3, nt ref), (9, pt b1), (11, pt b16), (12, pt q38), (13, pt b66), (86, .bool ((GV.getC who ref s.cs).isSome))] ?_
     refine V_eq [(0, pt v), (1, pt l), (2, nt who), (3, nt ref), (9, pt b1), (11, pt b16), (12, pt q38), (13, pt b66), (86, .bool true)] (by rw [(show (GV.getC who ref s.cs).isSome = true from by simpa using hg83)]) ?_
     refine V_true rfl ?_
     refine Vd (acts [10, 11, 14]) none_ [[5, 6, 7, 8, 9, 10, 1, 2, 3, 4, 11, 0, 12, 13, 14]] ?_
     intro w86 hk85 he87 L hL88
     have hsz89 := Keep.size hk85
     replace hb1 := hb1.k0 hk85
     replace hm55 := hm55.k0 hk85
     replace hm57 := hm57.k0 hk85
     replace hm59 := hm59.k0 hk85
     replace hb66_71 := hb66_71.k0 hk85
     replace hl := hl.keep hk85 nk
     replace hK0 := hK0.tn hk85
     replace ho41 := ho41.keep hk85 nk
     have qhb1 := hb1
     have qhm55 := hm55
     have qhm57 := hm57
     have qhm59 := hm59
     have qhb66_71 := hb66_71
     have K90 : Keep none_ w86 w86 := Keep.refl _ _
     obtain rfl := List.mem_singleton.1 hL88
     refine Ga 67 (.tmp 13) 0 (Vt.cells ((GV.getC who ref s.cs).getD Vt.zero)) (some 92) 6 qhb66_71 id (take_all (Vt.len _)) (Vt.len _) ?_
     refine Gs [9, 10, 1, 2, 3, 4, 11, 0, 12, 13, 14] [(0, pt v), (1, pt l), (2, nt who), (3, nt ref), (9, pt b1), (11, pt b16), (12, pt q38), (92, .agg (Vt.cells ((GV.getC who ref s.cs).getD Vt.zero)).toArray), (95, po_ q38 1)] ?_
     refine Ga 139 (.tmp 95) 1 [nt (((s.rc who ((q16).track))).got.v), nt (((s.rc who ((q16).track))).got.c)] (some 96) 2 qhm59 id rfl rfl ?_
     refine Gk (kl 70 #[(.tmp 92), (.tmp 96)] #[67, 139]) 70 #[.agg (Vt.cells ((GV.getC who ref s.cs).getD Vt.zero)).toArray, .agg #[nt (((s.rc who ((q16).track))).got.v), nt (((s.rc who ((q16).track))).got.c)]] (some 97) (cvGain_spec ((GV.getC who ref s.cs).getD Vt.zero) (((s.rc who ((q16).track))).got) _) ?_
     rintro _ w93 ⟨rfl, hk94⟩
     have K95 := K90.tr (Keep.ofNone hk94)
     refine ⟨_, rfl, K95, ?_⟩
     have hzK95 := Keep.size K95
     have hsz96 := Keep.size hk94
     replace hb1 := hb1.k0 hk94
     replace hm55 := hm55.k0 hk94
     replace hm57 := hm57.k0 hk94
     replace hm59 := hm59.k0 hk94
     replace hb66_71 := hb66_71.k0 hk94
     replace hl := hl.keep hk94 nk
     replace hK0 := hK0.tn hk94
     replace ho41 := ho41.keep hk94 nk
     refine Gs [4, 11, 0, 12, 13, 14] [(0, pt v), (1, pt l), (2, nt who), (3, nt ref), (9, pt b1), (11, pt b16), (12, pt q38), (90, po_ b16 1), (97, .agg (Tly.cells (gainT ((GV.getC who ref s.cs).getD Vt.zero) (((s.rc who ((q16).track))).got))).toArray)] ?_
     refine Ga 55 (.tmp 90) 1 [nt ((q16).t.a), nt ((q16).t.n), nt ((q16).t.s)] (some 91) 3 qhm57 id rfl rfl ?_
     refine Gk (kl 69 #[(.tmp 91), (.tmp 97)] #[55, 55]) 69 #[.agg #[nt ((q16).t.a), nt ((q16).t.n), nt ((q16).t.s)], .agg (Tly.cells (gainT ((GV.getC who ref s.cs).getD Vt.zero) (((s.rc who ((q16).track))).got))).toArray] (some 98) (cvSub_spec ((q16).t) (gainT ((GV.getC who ref s.cs).getD Vt.zero) (((s.rc who ((q16).track))).got)) _) ?_
     rintro _ w99 ⟨rfl, hk100⟩
     have K101 := K95.tr (Keep.ofNone hk100)
     refine ⟨_, rfl, K101, ?_⟩
     have hzK101 := Keep.size K101
     have hsz102 := Keep.size hk100
     replace hb1 := hb1.k0 hk100
     replace hm55 := hm55.k0 hk100
     replace hm57 := hm57.k0 hk100
     replace hm59 := hm59.k0 hk100
     replace hb66_71 := hb66_71.k0 hk100
     replace hl := hl.keep hk100 nk
     replace hK0 := hK0.tn hk100
     replace ho41 := ho41.keep hk100 nk
     refine Gs [14] [(0, pt v), (1, pt l), (2, nt who), (3, nt ref), (9, pt b1), (11, pt b16), (12, pt q38), (98, .agg (Tly.cells (subT ((q16).t) (gainT ((GV.getC who ref s.cs).getD Vt.zero) (((s.rc who ((q16).track))).got)))).toArray), (100, po_ b16 1)] ?_
     refine GI_final 14 (by kernel_rfl) (by kernel_rfl) ?_
     refine Otg 55 (.tmp 100) (.tmp 98) 1 (Tly.cells (subT ((q16).t) (gainT ((GV.getC who ref s.cs).getD Vt.zero) (((s.rc who ((q16).track))).got)))) hm57 (Tly.len _) (Tly.one _) ?_
     intro w103 hn106 hk104 hz105
     replace hn106 : Blk w103 b16 (PollS.cells { q16 with t := (subT ((q16).t) (gainT ((GV.getC who ref s.cs).getD Vt.zero) (((s.rc who ((q16).track))).got))) }) 133 := hn106
     have hsz107 := Keep.size hk104
     replace hb1 := hb1.keep hk104 (by show ¬ (b1 = b16); omega)
     replace hm55 := hm55.keep hk104 (by show ¬ (v = b16); omega)
     replace hm59 := hm59.keep hk104 (by show ¬ (q38 = b16); omega)
     replace hb66_71 := hb66_71.keep hk104 (by show ¬ (b66 = b16); omega)
     replace hl := hl.keep hk104 (fun q hq hs => (fun q h1 h2 => dis54 q h2 h1) q hq (by rw [show q = b16 from hs]; exact hF58))
     replace hK0 := Keep.fresh hK0 hk104 (fun i hi hs => by have hs : F40 i := (by rw [show i = b16 from hs]; exact hF58); rcases rel53 i hs with h | h; exact .inl h; (exfalso; omega))
     obtain ⟨tv109, htv109⟩ : ∃ t9 : Tly, t9 = (subT ((q16).t) (gainT ((GV.getC who ref s.cs).getD Vt.zero) (((s.rc who ((q16).track))).got))) := ⟨_, rfl⟩
     rw [← htv109] at hn106
     have ho108 := Vot.setPoll ho41 hqb16w48 hps16 hk104 (show Blk _ _ (PollS.cells { q16 with t := tv109 }) _ from hn106)
     have hs110 : (s.setP i16 { q16 with t := tv109 }).ps[i16]? = some (some { q16 with t := tv109 }) := List.getElem?_set_self (List.getElem?_eq_some_iff.1 hps16).1
     have hb16lt := hn106.lt
     refine Oe ?_
     refine V_seq ?_
     refine Vd (acts [10, 11, 12, 15]) none_ [[5, 6, 7, 8, 9, 10, 11, 1, 2, 3, 4, 12, 0, 13, 14, 15]] ?_
     intro w112 hk111 he113 L hL114
     have hsz115 := Keep.size hk111
     replace hb1 := hb1.k0 hk111
     replace hm55 := hm55.k0 hk111
     replace hm59 := hm59.k0 hk111
     replace hb66_71 := hb66_71.k0 hk111
     replace hn106 := hn106.k0 hk111
     replace hl := hl.keep hk111 nk
     replace hK0 := hK0.tn hk111
     replace ho108 := ho108.keep hk111 nk
     have qhb1 := hb1
     have qhm55 := hm55
     have qhm59 := hm59
     have qhb66_71 := hb66_71
     have qhn106 := hn106
     have K116 : Keep none_ w112 w112 := Keep.refl _ _
     obtain rfl := List.mem_singleton.1 hL114
     refine Ga 67 (.tmp 9) 0 (Vt.cells x) (some 106) 6 qhb1 id (take_all (Vt.len _)) (Vt.len _) ?_
     refine Gs [9, 10, 11, 1, 2, 3, 4, 12, 0, 13, 14, 15] [(0, pt v), (1, pt l), (2, nt who), (3, nt ref), (9, pt b1), (11, pt b16), (106, .agg (Vt.cells x).toArray), (109, po_ q38 1)] ?_
     refine Ga 139 (.tmp 109) 1 [nt (((s.rc who ((q16).track))).got.v), nt (((s.rc who ((q16).track))).got.c)] (some 110) 2 qhm59 id rfl rfl ?_
     refine Gk (kl 70 #[(.tmp 106), (.tmp 110)] #[67, 139]) 70 #[.agg (Vt.cells x).toArray, .agg #[nt (((s.rc who ((q16).track))).got.v), nt (((s.rc who ((q16).track))).got.c)]] (some 111) (cvGain_spec x (((s.rc who ((q16).track))).got) _) ?_
     rintro _ w119 ⟨rfl, hk120⟩
     have K121 := K116.tr (Keep.ofNone hk120)
     refine ⟨_, rfl, K121, ?_⟩
     have hzK121 := Keep.size K121
     have hsz122 := Keep.size hk120
     replace hb1 := hb1.k0 hk120
     replace hm55 := hm55.k0 hk120
     replace hm59 := hm59.k0 hk120
     replace hb66_71 := hb66_71.k0 hk120
     replace hn106 := hn106.k0 hk120
     replace hl := hl.keep hk120 nk
     replace hK0 := hK0.tn hk120
     replace ho108 := ho108.keep hk120 nk
     refine GI_slit (E := 55) (zv := .agg #[nt 0, nt 0, nt 0]) (sz := 3) (by_ := 24) 207 1 #[(0, (Operand.tmp 111))] [.agg (Tly.cells (gainT x (((s.rc who ((q16).track))).got))).toArray] (Tly.cells (gainT x (((s.rc who ((q16).track))).got))) (some 112) (by kernel_rfl) (by kernel_rfl) K121 (by kernel_rfl) (by kernel_rfl) (by omega) rfl (by omega) (by intro v hv; obtain rfl := List.mem_singleton.1 hv; show (Tly.cells (gainT x (((s.rc who ((q16).track))).got))).toArray.size = 3; simp [Tly.len]) (by kernel_rfl) (by show (Tly.cells (gainT x (((s.rc who ((q16).track))).got))).toArray.toList ++ [] = _; simp) ?_
     intro b123 w123 e123 hb123 k123 z123 K124
     have hsz125 := Keep.size k123
     replace hb1 := hb1.k0 k123
     replace hm55 := hm55.k0 k123
     replace hm59 := hm59.k0 k123
     replace hb66_71 := hb66_71.k0 k123
     replace hn106 := hn106.k0 k123
     replace hl := hl.keep k123 nk
     replace hK0 := hK0.tn k123
     replace ho108 := ho108.keep k123 nk
     have hb123lt := hb123.lt
     refine Gs [4, 12, 0, 13, 14, 15] [(0, pt v), (1, pt l), (2, nt who), (3, nt ref), (9, pt b1), (11, pt b16), (104, po_ b16 1), (112, sl_ b123 0 1 1)] ?_
     refine Ga 55 (.tmp 104) 1 [nt ((tv109).a), nt ((tv109).n), nt ((tv109).s)] (some 105) 3 qhn106 id rfl rfl ?_
     refine Gk (kl 71 #[(.tmp 105), (.tmp 112)] #[55, 207]) 71 #[.agg #[nt ((tv109).a), nt ((tv109).n), nt ((tv109).s)], sl_ b123 0 1 1] (some 113) (cvAdd1 b123 (Tly.mk ((tv109).a) ((tv109).n) ((tv109).s)) (gainT x (((s.rc who ((q16).track))).got)) _ _ hb123) ?_
     rintro _ w130 ⟨rfl, hk131⟩
     have K132 := K124.tr (Keep.ofNone hk131)
     refine ⟨_, rfl, K132, ?_⟩
     have hzK132 := Keep.size K132
     have hsz133 := Keep.size hk131
     replace hb1 := hb1.k0 hk131
     replace hm55 := hm55.k0 hk131
     replace hm59 := hm59.k0 hk131
     replace hb66_71 := hb66_71.k0 hk131
     replace hn106 := hn106.k0 hk131
     replace hb123 := hb123.k0 hk131
     replace hl := hl.keep hk131 nk
     replace hK0 := hK0.tn hk131
     replace ho108 := ho108.keep hk131 nk
     refine Gs [15] [(0, pt v), (1, pt l), (2, nt who), (3, nt ref), (9, pt b1), (11, pt b16), (113, .agg (Tly.cells (addT (Tly.mk ((tv109).a) ((tv109).n) ((tv109).s)) (gainT x (((s.rc who ((q16).track))).got)))).toArray), (115, po_ b16 1)] ?_
     refine GI_final 15 (by kernel_rfl) (by kernel_rfl) ?_
     refine Otg 55 (.tmp 115) (.tmp 113) 1 (Tly.cells (addT (Tly.mk ((tv109).a) ((tv109).n) ((tv109).s)) (gainT x (((s.rc who ((q16).track))).got)))) hn106 (Tly.len _) (Tly.one _) ?_
     intro w134 hn137 hk135 hz136
     replace hn137 : Blk w134 b16 (PollS.cells { q16 with t := (addT (Tly.mk ((tv109).a) ((tv109).n) ((tv109).s)) (gainT x (((s.rc who ((q16).track))).got))) }) 133 := hn137
     have hsz138 := Keep.size hk135
     replace hb1 := hb1.keep hk135 (by show ¬ (b1 = b16); omega)
     replace hm55 := hm55.keep hk135 (by show ¬ (v = b16); omega)
     replace hm59 := hm59.keep hk135 (by show ¬ (q38 = b16); omega)
     replace hb66_71 := hb66_71.keep hk135 (by show ¬ (b66 = b16); omega)
     replace hb123 := hb123.keep hk135 (by show ¬ (b123 = b16); omega)
     replace hl := hl.keep hk135 (fun q hq hs => (fun q h1 h2 => dis54 q h2 h1) q hq (by rw [show q = b16 from hs]; exact hF58))
     replace hK0 := Keep.fresh hK0 hk135 (fun i hi hs => by have hs : F40 i := (by rw [show i = b16 from hs]; exact hF58); rcases rel53 i hs with h | h; exact .inl h; (exfalso; omega))
     obtain ⟨tv140, htv140⟩ : ∃ t9 : Tly, t9 = (addT (Tly.mk ((tv109).a) ((tv109).n) ((tv109).s)) (gainT x (((s.rc who ((q16).track))).got))) := ⟨_, rfl⟩
     rw [← htv140] at hn137
     have ho139 := Vot.setPoll ho108 hqb16w48 hs110 hk135 (show Blk _ _ (PollS.cells { q16 with t := tv140 }) _ from hn137)
     have hs141 : ((s.setP i16 { q16 with t := tv109 }).setP i16 { q16 with t := tv140 }).ps[i16]? = some (some { q16 with t := tv140 }) := List.getElem?_set_self (List.getElem?_eq_some_iff.1 hs110).1
     have hb16lt := hn137.lt
     refine Oe ?_
     refine V_seq ?_
     refine Vd (acts [7]) none_ [[0, 1, 2, 3, 4, 5, 6, 7]] ?_
     intro w143 hk142 he144 L hL145
     have hsz146 := Keep.size hk142
     replace hb1 := hb1.k0 hk142
     replace hm55 := hm55.k0 hk142
     replace hm59 := hm59.k0 hk142
     replace hb66_71 := hb66_71.k0 hk142
     replace hb123 := hb123.k0 hk142
     replace hn137 := hn137.k0 hk142
     replace hl := hl.keep hk142 nk
     replace hK0 := hK0.tn hk142
     replace ho139 := ho139.keep hk142 nk
     have qhb1 := hb1
     have qhm55 := hm55
     have qhm59 := hm59
     have qhb66_71 := hb66_71
     have qhb123 := hb123
     have qhn137 := hn137
     have K147 : Keep none_ w143 w143 := Keep.refl _ _
     obtain rfl := List.mem_singleton.1 hL145
     refine Gn [3, 4, 5, 6, 7] [1, 2, 3, 9, 11, 118] ?_
     refine Gc0 119 (.tmp 118) 12 (pt P39.gv) (some 119) qhm55 (by rw [List.getElem?_append_right (by rw [List.length_map]; omega), List.length_map, hvlhm55]; rfl) ?_
     refine Gs [6, 7] [(1, pt l), (2, nt who), (9, pt b1), (11, pt b16), (119, pt P39.gv), (120, nt who), (121, nt ref)] ?_
     refine Ga 67 (.tmp 9) 0 (Vt.cells x) (some 122) 6 qhb1 id (take_all (Vt.len _)) (Vt.len _) ?_
     refine GI_final 7 (by kernel_rfl) (by kernel_rfl) ?_
     refine Ok (kl 72 #[(.tmp 119), (.tmp 120), (.tmp 121), (.tmp 122)] #[119, 3, 3, 67]) 72 #[pt P39.gv, nt who, nt ref, .agg (Vt.cells x).toArray] (some 123) (vset_spec F40 v P39 ((s.setP i16 { q16 with t := tv109 }).setP i16 { q16 with t := tv140 }) who ref x _ ho139 (by omega) (by omega) hc14 (by rw [hpr16, Int.toNat_natCast]; exact ⟨_, hs141⟩)) ?_
     rintro _ w152 ⟨rfl, ⟨F154, ho155, hfr156⟩, hk153⟩
     refine ⟨_, rfl, ?_⟩
     have hsz157 := Keep.size hk153
     replace hb1 := hb1.keep hk153 (fun hs => by have h1 := own52 _ hs; have h2 := lt51 _ hs; omega)
     replace hb66_71 := hb66_71.keep hk153 (fun hs => by have h1 := own52 _ hs; have h2 := lt51 _ hs; omega)
     replace hb123 := hb123.keep hk153 (fun hs => by have h1 := own52 _ hs; have h2 := lt51 _ hs; omega)
     replace hl := hl.keep hk153 (fun q hq hs => dis54 q hs hq)
     replace hK0 := Keep.fresh hK0 hk153 (fun i hi hs => by rcases rel53 i hs with h | h; exact .inl h; (exfalso; omega))
     have own159 : ∀ q, F154 q → 0 ≤ q ∧ q ≠ b1 ∧ q ≠ b66 ∧ q ≠ b123 := fun q hq => by rcases hfr156 q hq with h | h; (have h1 := own52 q h; have h2 := lt51 q h; omega); omega
     have lt158 := Vot.lt ho155
     have rel160 : ∀ q, F154 q → F q ∨ w.heap.size ≤ q := fun q hq => by rcases hfr156 q hq with h | h; exact rel53 q h; exact .inr (by omega)
     have dis161 : ∀ q, F154 q → ¬ G q := fun q h1 h2 => by rcases hfr156 q h1 with h | h; exact dis54 q h h2; (have h4 := hGlt q h2; omega)
     obtain ⟨hvlhm162, hm162⟩ := Vot.vblk ho155
     have hF163 := Vot.at_ ho155
     have hvlt := hm162.lt
     have hlov := lt158 _ hF163
     have hov := own159 _ hF163
     obtain ⟨hm164, hF165⟩ := Vot.pollB ho155 hqb16w48 hs141
     have hb16lt := hm164.lt
     have hlob16 := lt158 _ hF165
     have hob16 := own159 _ hF165
     obtain ⟨hF167, hm166⟩ := Vot.recN ho155 hgc43 hd32
     have hq38lt := hm166.lt
     have hloq38 := lt158 _ hF167
     have hoq38 := own159 _ hF167
     have hneb16v : b16 ≠ v := Blk.ne hm164 hm162 (by decide)
     have hneq38v : q38 ≠ v := Blk.ne hm166 hm162 (by decide)
     have hneq38b16 : q38 ≠ b16 := Blk.ne hm166 hm164 (by decide)
     refine Oe ?_
     refine V_seq ?_
     refine Vd (acts [7, 8]) none_ [[6, 7, 0, 1, 2, 3, 4, 5, 8]] ?_
     intro w169 hk168 he170 L hL171
     have hsz172 := Keep.size hk168
     replace hb1 := hb1.k0 hk168
     replace hb66_71 := hb66_71.k0 hk168
     replace hb123 := hb123.k0 hk168
     replace hm162 := hm162.k0 hk168
     replace hm164 := hm164.k0 hk168
     replace hm166 := hm166.k0 hk168
     replace hl := hl.keep hk168 nk
     replace hK0 := hK0.tn hk168
     replace ho155 := ho155.keep hk168 nk
     have qhb1 := hb1
     have qhb66_71 := hb66_71
     have qhb123 := hb123
     have qhm162 := hm162
     have qhm164 := hm164
     have qhm166 := hm166
     have K173 : Keep none_ w169 w169 := Keep.refl _ _
     obtain rfl := List.mem_singleton.1 hL171
     refine Ga 67 (.tmp 9) 0 (Vt.cells x) (some 130) 6 qhb1 id (take_all (Vt.len _)) (Vt.len _) ?_
     refine Gk (kl 67 #[(.tmp 130)] #[67]) 67 #[.agg (Vt.cells x).toArray] (some 131) (cvCapital_spec x _) ?_
     rintro _ w176 ⟨rfl, hk177⟩
     have K178 := K173.tr (Keep.ofNone hk177)
     refine ⟨_, rfl, K178, ?_⟩
     have hzK178 := Keep.size K178
     have hsz179 := Keep.size hk177
     replace hb1 := hb1.k0 hk177
     replace hb66_71 := hb66_71.k0 hk177
     replace hb123 := hb123.k0 hk177
     replace hm162 := hm162.k0 hk177
     replace hm164 := hm164.k0 hk177
     replace hm166 := hm166.k0 hk177
     replace hl := hl.keep hk177 nk
     replace hK0 := hK0.tn hk177
     replace ho155 := ho155.keep hk177 nk
     refine Gn [5, 8] [124, 125, 128, 131] ?_
     refine Gc0 3 (.tmp 128) 0 (nt ((q16).track)) (some 129) qhm164 rfl ?_
     refine GI_final 8 (by kernel_rfl) (by kernel_rfl) ?_
     refine Ok (kl 73 #[(.tmp 124), (.tmp 125), (.tmp 129), (.tmp 131)] #[32, 3, 3, 3]) 73 #[pt l, nt who, nt ((q16).track), nt (capI x)] (some 132) (raise_spec G l xs cs who ((q16).track) (capI x) _ hl hmax) ?_
     rintro _ w182 ⟨rfl, ⟨F184, ho185, hfr186⟩, hk183⟩
     refine ⟨_, rfl, ?_⟩
     have hsz187 := Keep.size hk183
     replace hb1 := hb1.keep hk183 (fun hs => by have h1 := hGo _ hs; have h2 := hGlt _ hs; omega)
     replace hb66_71 := hb66_71.keep hk183 (fun hs => by have h1 := hGo _ hs; have h2 := hGlt _ hs; omega)
     replace hb123 := hb123.keep hk183 (fun hs => by have h1 := hGo _ hs; have h2 := hGlt _ hs; omega)
     replace hK0 := Keep.fresh hK0 hk183 (fun i hi hs => by rcases hGr i hs with h | h; exact .inr h; (exfalso; omega))
     replace ho155 := ho155.keep hk183 (fun q hq hs => (fun q h1 h2 => dis161 q h2 h1) q hs hq)
     have own189 : ∀ q, F184 q → 0 ≤ q ∧ q ≠ b1 ∧ q ≠ b66 ∧ q ≠ b123 := fun q hq => by rcases hfr186 q hq with h | h; (have h1 := hGo q h; have h2 := hGlt q h; omega); omega
     have lt188 := Led.lt ho185
     have rel190 : ∀ q, F184 q → G q ∨ w.heap.size ≤ q := fun q hq => by rcases hfr186 q hq with h | h; exact hGr q h; exact .inr (by omega)
     have dis191 : ∀ q, F184 q → ¬ F154 q := fun q h1 h2 => by rcases hfr186 q h1 with h | h; exact (fun q h1 h2 => dis161 q h2 h1) q h h2; (have h4 := lt158 q h2; omega)
     obtain ⟨hvlhm192, hm192⟩ := Vot.vblk ho155
     have hF193 := Vot.at_ ho155
     have hvlt := hm192.lt
     have hlov := lt158 _ hF193
     have hov := own159 _ hF193
     obtain ⟨hm194, hF195⟩ := Vot.pollB ho155 hqb16w48 hs141
     have hb16lt := hm194.lt
     have hlob16 := lt158 _ hF195
     have hob16 := own159 _ hF195
     obtain ⟨hF197, hm196⟩ := Vot.recN ho155 hgc43 hd32
     have hq38lt := hm196.lt
     have hloq38 := lt158 _ hF197
     have hoq38 := own159 _ hF197
     have hneb16v : b16 ≠ v := Blk.ne hm194 hm192 (by decide)
     have hneq38v : q38 ≠ v := Blk.ne hm196 hm192 (by decide)
     have hneq38b16 : q38 ≠ b16 := Blk.ne hm196 hm194 (by decide)
     refine Oer ?_
     refine Ose [(10, nt 0)] ?_
     refine V_ret ?_
     have hE198 : voteE xs s who ref x = 0 := by unfold voteE; rw [if_neg (by rintro (h9 | h9); exact h9 hg8; exact h9 hc14)]; rw [hpa16]; dsimp only; rw [if_neg (fun h9 => h9 hc30)]; rw [if_neg (by rw [hd32]; decide)]; rw [if_neg hc81]; rw [if_neg (fun h9 => by rw [(show (GV.getC who ref s.cs).isSome = true from by simpa using hg83)] at h9; cases h9.1)]
     have hVT : voteT s who ref x q16 = tv140 := by unfold voteT; rw [(show (GV.getC who ref s.cs).isSome = true from by simpa using hg83), htv140, htv109]; rfl
     exact X_return (nt 0) rfl ⟨by rw [hE198], ⟨F154, F184, ⟨_, by rw [show voteS xs s who ref x = ({ (s.setP i16 { q16 with t := tv109 }).setP i16 { q16 with t := tv140 } with cs := GV.setC who ref x ((s.setP i16 { q16 with t := tv109 }).setP i16 { q16 with t := tv140 }).cs }) from by unfold voteS; rw [hE198, if_pos rfl, hpa16]; dsimp only; rw [hVT, hpr16, Int.toNat_natCast]; first | rfl | (simp only [VS.setP_setP]; rfl)]; exact ho155⟩, by rw [show voteC xs cs s who ref x = raiseC cs who q16.track (capI x) from by unfold voteC; rw [hE198, if_pos rfl, hpa16]]; exact ho185, rel160, rel190, (fun q h1 h2 => dis191 q h2 h1)⟩, hK0⟩
    refine OI_eq [(0, pt v), (1, pt l), (2, nt who), (3, nt ref), (9, pt b1), (11, pt b16), (12, pt q38), (13, pt b66), (14, .bool ((GV.getC who ref s.cs).isSome)), (76, .bool true)] (by first | rfl | rw [hg83]) ?_
    refine On 8 [0, 1, 2, 3, 9, 11, 12, 13, 14, 76, 77, 78, 81] ?_
    refine Oc 3 (.tmp 81) 0 (nt ((q16).track)) (some 82) hm57 rfl ?_
    refine Ok (kl 68 #[(.tmp 77), (.tmp 78), (.tmp 82)] #[33, 3, 3]) 68 #[pt v, nt who, nt ((q16).track)] (some 83) (count_spec F40 v P39 s who ((q16).track) _ ho41) ?_
    rintro _ w201 ⟨rfl, hk202⟩
    refine ⟨_, rfl, ?_⟩
    have hsz203 := Keep.size hk202
    replace hb1 := hb1.k0 hk202
    replace hm55 := hm55.k0 hk202
    replace hm57 := hm57.k0 hk202
    replace hm59 := hm59.k0 hk202
    replace hb66_71 := hb66_71.k0 hk202
    replace hl := hl.keep hk202 nk
    replace hK0 := hK0.tn hk202
    replace ho41 := ho41.keep hk202 nk
    refine Ose [(0, pt v), (1, pt l), (2, nt who), (3, nt ref), (9, pt b1), (11, pt b16), (12, pt q38), (13, pt b66), (14, .bool ((GV.getC who ref s.cs).isSome)), (73, .bool (decide ((((vrow s who ((q16).track)).length : Nat) : Int) ≥ 6)))] ?_
    refine V_if ((((vrow s who ((q16).track)).length : Nat) : Int) ≥ 6) (by kernel_rfl) (fun hc204 => ?_) (fun hc204 => ?_)
    ·
     refine Vs [(10, nt 3)] ?_
     refine V_ret ?_
     refine X_ret_block ?_
     refine X_ret_then ?_
     have hE205 : voteE xs s who ref x = 3 := by unfold voteE; rw [if_neg (by rintro (h9 | h9); exact h9 hg8; exact h9 hc14)]; rw [hpa16]; dsimp only; rw [if_neg (fun h9 => h9 hc30)]; rw [if_neg (by rw [hd32]; decide)]; rw [if_neg hc81]; rw [if_pos ⟨(show (GV.getC who ref s.cs).isSome = false from by simpa using hg83), hc204⟩]
     exact X_return (nt 3) rfl ⟨by rw [hE205], ⟨F40, G, ⟨_, by rw [show voteS xs s who ref x = s from by unfold voteS; rw [hE205, if_neg (by decide)]]; exact ho41⟩, by rw [show voteC xs cs s who ref x = cs from by unfold voteC; rw [hE205, if_neg (by decide)]]; exact hl, rel53, hGr, dis54⟩, hK0⟩
    refine V_skip ?_
    refine X_block ?_
    refine X_then ?_
    refine V_seq ?_
    refine Vs [(0, pt v), (1, pt l), (2, nt who), (3, nt ref), (9, pt b1), (11, pt b16), (12, pt q38), (13, pt b66), (86, .bool ((GV.getC who ref s.cs).isSome))] ?_
    refine V_eq [(0, pt v), (1, pt l), (2, nt who), (3, nt ref), (9, pt b1), (11, pt b16), (12, pt q38), (13, pt b66), (86, .bool false)] (by rw [(show (GV.getC who ref s.cs).isSome = false from by simpa using hg83)]) ?_
    refine V_false rfl ?_
    refine V_skip ?_
    refine X_then ?_
    refine V_seq ?_
    refine Vd (acts [10, 11, 12, 15]) none_ [[5, 6, 7, 8, 9, 10, 11, 1, 2, 3, 4, 12, 0, 13, 14, 15]] ?_
    intro w208 hk207 he209 L hL210
    have hsz211 := Keep.size hk207
    replace hb1 := hb1.k0 hk207
    replace hm55 := hm55.k0 hk207
    replace hm57 := hm57.k0 hk207
    replace hm59 := hm59.k0 hk207
    replace hb66_71 := hb66_71.k0 hk207
    replace hl := hl.keep hk207 nk
    replace hK0 := hK0.tn hk207
    replace ho41 := ho41.keep hk207 nk
    have qhb1 := hb1
    have qhm55 := hm55
    have qhm57 := hm57
    have qhm59 := hm59
    have qhb66_71 := hb66_71
    have K212 : Keep none_ w208 w208 := Keep.refl _ _
    obtain rfl := List.mem_singleton.1 hL210
    refine Ga 67 (.tmp 9) 0 (Vt.cells x) (some 106) 6 qhb1 id (take_all (Vt.len _)) (Vt.len _) ?_
    refine Gs [9, 10, 11, 1, 2, 3, 4, 12, 0, 13, 14, 15] [(0, pt v), (1, pt l), (2, nt who), (3, nt ref), (9, pt b1), (11, pt b16), (106, .agg (Vt.cells x).toArray), (109, po_ q38 1)] ?_
    refine Ga 139 (.tmp 109) 1 [nt (((s.rc who ((q16).track))).got.v), nt (((s.rc who ((q16).track))).got.c)] (some 110) 2 qhm59 id rfl rfl ?_
    refine Gk (kl 70 #[(.tmp 106), (.tmp 110)] #[67, 139]) 70 #[.agg (Vt.cells x).toArray, .agg #[nt (((s.rc who ((q16).track))).got.v), nt (((s.rc who ((q16).track))).got.c)]] (some 111) (cvGain_spec x (((s.rc who ((q16).track))).got) _) ?_
    rintro _ w215 ⟨rfl, hk216⟩
    have K217 := K212.tr (Keep.ofNone hk216)
    refine ⟨_, rfl, K217, ?_⟩
    have hzK217 := Keep.size K217
    have hsz218 := Keep.size hk216
    replace hb1 := hb1.k0 hk216
    replace hm55 := hm55.k0 hk216
    replace hm57 := hm57.k0 hk216
    replace hm59 := hm59.k0 hk216
    replace hb66_71 := hb66_71.k0 hk216
    replace hl := hl.keep hk216 nk
    replace hK0 := hK0.tn hk216
    replace ho41 := ho41.keep hk216 nk
    refine GI_slit (E := 55) (zv := .agg #[nt 0, nt 0, nt 0]) (sz := 3) (by_ := 24) 207 1 #[(0, (Operand.tmp 111))] [.agg (Tly.cells (gainT x (((s.rc who ((q16).track))).got))).toArray] (Tly.cells (gainT x (((s.rc who ((q16).track))).got))) (some 112) (by kernel_rfl) (by kernel_rfl) K217 (by kernel_rfl) (by kernel_rfl) (by omega) rfl (by omega) (by intro v hv; obtain rfl := List.mem_singleton.1 hv; show (Tly.cells (gainT x (((s.rc who ((q16).track))).got))).toArray.size = 3; simp [Tly.len]) (by kernel_rfl) (by show (Tly.cells (gainT x (((s.rc who ((q16).track))).got))).toArray.toList ++ [] = _; simp) ?_
    intro b219 w219 e219 hb219 k219 z219 K220
    have hsz221 := Keep.size k219
    replace hb1 := hb1.k0 k219
    replace hm55 := hm55.k0 k219
    replace hm57 := hm57.k0 k219
    replace hm59 := hm59.k0 k219
    replace hb66_71 := hb66_71.k0 k219
    replace hl := hl.keep k219 nk
    replace hK0 := hK0.tn k219
    replace ho41 := ho41.keep k219 nk
    have hb219lt := hb219.lt
    refine Gs [4, 12, 0, 13, 14, 15] [(0, pt v), (1, pt l), (2, nt who), (3, nt ref), (9, pt b1), (11, pt b16), (104, po_ b16 1), (112, sl_ b219 0 1 1)] ?_
    refine Ga 55 (.tmp 104) 1 [nt ((q16).t.a), nt ((q16).t.n), nt ((q16).t.s)] (some 105) 3 qhm57 id rfl rfl ?_
    refine Gk (kl 71 #[(.tmp 105), (.tmp 112)] #[55, 207]) 71 #[.agg #[nt ((q16).t.a), nt ((q16).t.n), nt ((q16).t.s)], sl_ b219 0 1 1] (some 113) (cvAdd1 b219 (Tly.mk ((q16).t.a) ((q16).t.n) ((q16).t.s)) (gainT x (((s.rc who ((q16).track))).got)) _ _ hb219) ?_
    rintro _ w226 ⟨rfl, hk227⟩
    have K228 := K220.tr (Keep.ofNone hk227)
    refine ⟨_, rfl, K228, ?_⟩
    have hzK228 := Keep.size K228
    have hsz229 := Keep.size hk227
    replace hb1 := hb1.k0 hk227
    replace hm55 := hm55.k0 hk227
    replace hm57 := hm57.k0 hk227
    replace hm59 := hm59.k0 hk227
    replace hb66_71 := hb66_71.k0 hk227
    replace hb219 := hb219.k0 hk227
    replace hl := hl.keep hk227 nk
    replace hK0 := hK0.tn hk227
    replace ho41 := ho41.keep hk227 nk
    refine Gs [15] [(0, pt v), (1, pt l), (2, nt who), (3, nt ref), (9, pt b1), (11, pt b16), (113, .agg (Tly.cells (addT (Tly.mk ((q16).t.a) ((q16).t.n) ((q16).t.s)) (gainT x (((s.rc who ((q16).track))).got)))).toArray), (115, po_ b16 1)] ?_
    refine GI_final 15 (by kernel_rfl) (by kernel_rfl) ?_
    refine Otg 55 (.tmp 115) (.tmp 113) 1 (Tly.cells (addT (Tly.mk ((q16).t.a) ((q16).t.n) ((q16).t.s)) (gainT x (((s.rc who ((q16).track))).got)))) hm57 (Tly.len _) (Tly.one _) ?_
    intro w230 hn233 hk231 hz232
    replace hn233 : Blk w230 b16 (PollS.cells { q16 with t := (addT (Tly.mk ((q16).t.a) ((q16).t.n) ((q16).t.s)) (gainT x (((s.rc who ((q16).track))).got))) }) 133 := hn233
    have hsz234 := Keep.size hk231
    replace hb1 := hb1.keep hk231 (by show ¬ (b1 = b16); omega)
    replace hm55 := hm55.keep hk231 (by show ¬ (v = b16); omega)
    replace hm59 := hm59.keep hk231 (by show ¬ (q38 = b16); omega)
    replace hb66_71 := hb66_71.keep hk231 (by show ¬ (b66 = b16); omega)
    replace hb219 := hb219.keep hk231 (by show ¬ (b219 = b16); omega)
    replace hl := hl.keep hk231 (fun q hq hs => (fun q h1 h2 => dis54 q h2 h1) q hq (by rw [show q = b16 from hs]; exact hF58))
    replace hK0 := Keep.fresh hK0 hk231 (fun i hi hs => by have hs : F40 i := (by rw [show i = b16 from hs]; exact hF58); rcases rel53 i hs with h | h; exact .inl h; (exfalso; omega))
    obtain ⟨tv236, htv236⟩ : ∃ t9 : Tly, t9 = (addT (Tly.mk ((q16).t.a) ((q16).t.n) ((q16).t.s)) (gainT x (((s.rc who ((q16).track))).got))) := ⟨_, rfl⟩
    rw [← htv236] at hn233
    have ho235 := Vot.setPoll ho41 hqb16w48 hps16 hk231 (show Blk _ _ (PollS.cells { q16 with t := tv236 }) _ from hn233)
    have hs237 : (s.setP i16 { q16 with t := tv236 }).ps[i16]? = some (some { q16 with t := tv236 }) := List.getElem?_set_self (List.getElem?_eq_some_iff.1 hps16).1
    have hb16lt := hn233.lt
    refine Oe ?_
    refine V_seq ?_
    refine Vd (acts [7]) none_ [[0, 1, 2, 3, 4, 5, 6, 7]] ?_
    intro w239 hk238 he240 L hL241
    have hsz242 := Keep.size hk238
    replace hb1 := hb1.k0 hk238
    replace hm55 := hm55.k0 hk238
    replace hm59 := hm59.k0 hk238
    replace hb66_71 := hb66_71.k0 hk238
    replace hb219 := hb219.k0 hk238
    replace hn233 := hn233.k0 hk238
    replace hl := hl.keep hk238 nk
    replace hK0 := hK0.tn hk238
    replace ho235 := ho235.keep hk238 nk
    have qhb1 := hb1
    have qhm55 := hm55
    have qhm59 := hm59
    have qhb66_71 := hb66_71
    have qhb219 := hb219
    have qhn233 := hn233
    have K243 : Keep none_ w239 w239 := Keep.refl _ _
    obtain rfl := List.mem_singleton.1 hL241
    refine Gn [3, 4, 5, 6, 7] [1, 2, 3, 9, 11, 118] ?_
    refine Gc0 119 (.tmp 118) 12 (pt P39.gv) (some 119) qhm55 (by rw [List.getElem?_append_right (by rw [List.length_map]; omega), List.length_map, hvlhm55]; rfl) ?_
    refine Gs [6, 7] [(1, pt l), (2, nt who), (9, pt b1), (11, pt b16), (119, pt P39.gv), (120, nt who), (121, nt ref)] ?_
    refine Ga 67 (.tmp 9) 0 (Vt.cells x) (some 122) 6 qhb1 id (take_all (Vt.len _)) (Vt.len _) ?_
    refine GI_final 7 (by kernel_rfl) (by kernel_rfl) ?_
    refine Ok (kl 72 #[(.tmp 119), (.tmp 120), (.tmp 121), (.tmp 122)] #[119, 3, 3, 67]) 72 #[pt P39.gv, nt who, nt ref, .agg (Vt.cells x).toArray] (some 123) (vset_spec F40 v P39 (s.setP i16 { q16 with t := tv236 }) who ref x _ ho235 (by omega) (by omega) hc14 (by rw [hpr16, Int.toNat_natCast]; exact ⟨_, hs237⟩)) ?_
    rintro _ w248 ⟨rfl, ⟨F250, ho251, hfr252⟩, hk249⟩
    refine ⟨_, rfl, ?_⟩
    have hsz253 := Keep.size hk249
    replace hb1 := hb1.keep hk249 (fun hs => by have h1 := own52 _ hs; have h2 := lt51 _ hs; omega)
    replace hb66_71 := hb66_71.keep hk249 (fun hs => by have h1 := own52 _ hs; have h2 := lt51 _ hs; omega)
    replace hb219 := hb219.keep hk249 (fun hs => by have h1 := own52 _ hs; have h2 := lt51 _ hs; omega)
    replace hl := hl.keep hk249 (fun q hq hs => dis54 q hs hq)
    replace hK0 := Keep.fresh hK0 hk249 (fun i hi hs => by rcases rel53 i hs with h | h; exact .inl h; (exfalso; omega))
    have own255 : ∀ q, F250 q → 0 ≤ q ∧ q ≠ b1 ∧ q ≠ b66 ∧ q ≠ b219 := fun q hq => by rcases hfr252 q hq with h | h; (have h1 := own52 q h; have h2 := lt51 q h; omega); omega
    have lt254 := Vot.lt ho251
    have rel256 : ∀ q, F250 q → F q ∨ w.heap.size ≤ q := fun q hq => by rcases hfr252 q hq with h | h; exact rel53 q h; exact .inr (by omega)
    have dis257 : ∀ q, F250 q → ¬ G q := fun q h1 h2 => by rcases hfr252 q h1 with h | h; exact dis54 q h h2; (have h4 := hGlt q h2; omega)
    obtain ⟨hvlhm258, hm258⟩ := Vot.vblk ho251
    have hF259 := Vot.at_ ho251
    have hvlt := hm258.lt
    have hlov := lt254 _ hF259
    have hov := own255 _ hF259
    obtain ⟨hm260, hF261⟩ := Vot.pollB ho251 hqb16w48 hs237
    have hb16lt := hm260.lt
    have hlob16 := lt254 _ hF261
    have hob16 := own255 _ hF261
    obtain ⟨hF263, hm262⟩ := Vot.recN ho251 hgc43 hd32
    have hq38lt := hm262.lt
    have hloq38 := lt254 _ hF263
    have hoq38 := own255 _ hF263
    have hneb16v : b16 ≠ v := Blk.ne hm260 hm258 (by decide)
    have hneq38v : q38 ≠ v := Blk.ne hm262 hm258 (by decide)
    have hneq38b16 : q38 ≠ b16 := Blk.ne hm262 hm260 (by decide)
    refine Oe ?_
    refine V_seq ?_
    refine Vd (acts [7, 8]) none_ [[6, 7, 0, 1, 2, 3, 4, 5, 8]] ?_
    intro w265 hk264 he266 L hL267
    have hsz268 := Keep.size hk264
    replace hb1 := hb1.k0 hk264
    replace hb66_71 := hb66_71.k0 hk264
    replace hb219 := hb219.k0 hk264
    replace hm258 := hm258.k0 hk264
    replace hm260 := hm260.k0 hk264
    replace hm262 := hm262.k0 hk264
    replace hl := hl.keep hk264 nk
    replace hK0 := hK0.tn hk264
    replace ho251 := ho251.keep hk264 nk
    have qhb1 := hb1
    have qhb66_71 := hb66_71
    have qhb219 := hb219
    have qhm258 := hm258
    have qhm260 := hm260
    have qhm262 := hm262
    have K269 : Keep none_ w265 w265 := Keep.refl _ _
    obtain rfl := List.mem_singleton.1 hL267
    refine Ga 67 (.tmp 9) 0 (Vt.cells x) (some 130) 6 qhb1 id (take_all (Vt.len _)) (Vt.len _) ?_
    refine Gk (kl 67 #[(.tmp 130)] #[67]) 67 #[.agg (Vt.cells x).toArray] (some 131) (cvCapital_spec x _) ?_
    rintro _ w272 ⟨rfl, hk273⟩
    have K274 := K269.tr (Keep.ofNone hk273)
    refine ⟨_, rfl, K274, ?_⟩
    have hzK274 := Keep.size K274
    have hsz275 := Keep.size hk273
    replace hb1 := hb1.k0 hk273
    replace hb66_71 := hb66_71.k0 hk273
    replace hb219 := hb219.k0 hk273
    replace hm258 := hm258.k0 hk273
    replace hm260 := hm260.k0 hk273
    replace hm262 := hm262.k0 hk273
    replace hl := hl.keep hk273 nk
    replace hK0 := hK0.tn hk273
    replace ho251 := ho251.keep hk273 nk
    refine Gn [5, 8] [124, 125, 128, 131] ?_
    refine Gc0 3 (.tmp 128) 0 (nt ((q16).track)) (some 129) qhm260 rfl ?_
    refine GI_final 8 (by kernel_rfl) (by kernel_rfl) ?_
    refine Ok (kl 73 #[(.tmp 124), (.tmp 125), (.tmp 129), (.tmp 131)] #[32, 3, 3, 3]) 73 #[pt l, nt who, nt ((q16).track), nt (capI x)] (some 132) (raise_spec G l xs cs who ((q16).track) (capI x) _ hl hmax) ?_
    rintro _ w278 ⟨rfl, ⟨F280, ho281, hfr282⟩, hk279⟩
    refine ⟨_, rfl, ?_⟩
    have hsz283 := Keep.size hk279
    replace hb1 := hb1.keep hk279 (fun hs => by have h1 := hGo _ hs; have h2 := hGlt _ hs; omega)
    replace hb66_71 := hb66_71.keep hk279 (fun hs => by have h1 := hGo _ hs; have h2 := hGlt _ hs; omega)
    replace hb219 := hb219.keep hk279 (fun hs => by have h1 := hGo _ hs; have h2 := hGlt _ hs; omega)
    replace hK0 := Keep.fresh hK0 hk279 (fun i hi hs => by rcases hGr i hs with h | h; exact .inr h; (exfalso; omega))
    replace ho251 := ho251.keep hk279 (fun q hq hs => (fun q h1 h2 => dis257 q h2 h1) q hs hq)
    have own285 : ∀ q, F280 q → 0 ≤ q ∧ q ≠ b1 ∧ q ≠ b66 ∧ q ≠ b219 := fun q hq => by rcases hfr282 q hq with h | h; (have h1 := hGo q h; have h2 := hGlt q h; omega); omega
    have lt284 := Led.lt ho281
    have rel286 : ∀ q, F280 q → G q ∨ w.heap.size ≤ q := fun q hq => by rcases hfr282 q hq with h | h; exact hGr q h; exact .inr (by omega)
    have dis287 : ∀ q, F280 q → ¬ F250 q := fun q h1 h2 => by rcases hfr282 q h1 with h | h; exact (fun q h1 h2 => dis257 q h2 h1) q h h2; (have h4 := lt254 q h2; omega)
    obtain ⟨hvlhm288, hm288⟩ := Vot.vblk ho251
    have hF289 := Vot.at_ ho251
    have hvlt := hm288.lt
    have hlov := lt254 _ hF289
    have hov := own255 _ hF289
    obtain ⟨hm290, hF291⟩ := Vot.pollB ho251 hqb16w48 hs237
    have hb16lt := hm290.lt
    have hlob16 := lt254 _ hF291
    have hob16 := own255 _ hF291
    obtain ⟨hF293, hm292⟩ := Vot.recN ho251 hgc43 hd32
    have hq38lt := hm292.lt
    have hloq38 := lt254 _ hF293
    have hoq38 := own255 _ hF293
    have hneb16v : b16 ≠ v := Blk.ne hm290 hm288 (by decide)
    have hneq38v : q38 ≠ v := Blk.ne hm292 hm288 (by decide)
    have hneq38b16 : q38 ≠ b16 := Blk.ne hm292 hm290 (by decide)
    refine Oer ?_
    refine Ose [(10, nt 0)] ?_
    refine V_ret ?_
    have hE294 : voteE xs s who ref x = 0 := by unfold voteE; rw [if_neg (by rintro (h9 | h9); exact h9 hg8; exact h9 hc14)]; rw [hpa16]; dsimp only; rw [if_neg (fun h9 => h9 hc30)]; rw [if_neg (by rw [hd32]; decide)]; rw [if_neg hc81]; rw [if_neg (fun h9 => hc204 h9.2)]
    have hVT : voteT s who ref x q16 = tv236 := by unfold voteT; rw [(show (GV.getC who ref s.cs).isSome = false from by simpa using hg83), htv236]; rfl
    exact X_return (nt 0) rfl ⟨by rw [hE294], ⟨F250, F280, ⟨_, by rw [show voteS xs s who ref x = ({ s.setP i16 { q16 with t := tv236 } with cs := GV.setC who ref x (s.setP i16 { q16 with t := tv236 }).cs }) from by unfold voteS; rw [hE294, if_pos rfl, hpa16]; dsimp only; rw [hVT, hpr16, Int.toNat_natCast]; first | rfl | (simp only [VS.setP_setP]; rfl)]; exact ho251⟩, by rw [show voteC xs cs s who ref x = raiseC cs who q16.track (capI x) from by unfold voteC; rw [hE294, if_pos rfl, hpa16]]; exact ho281, rel256, rel286, (fun q h1 h2 => dis287 q h2 h1)⟩, hK0⟩
   ·
    refine Ok (kl 65 #[(.tmp 43), (.tmp 44), (.tmp 48)] #[33, 3, 3]) 65 #[pt v, nt who, nt ((q16).track)] (some 49) (record_spec F v P s who ((q16).track) _ h (by omega) (htr _ _ (by assumption))) ?_
    rintro _ w309 ⟨q299, P300, rfl, hgc304, hpp305, hgv306, hmn307, hdl308, ⟨F301, ho302, hfr303⟩, hk310⟩
    refine ⟨_, rfl, ?_⟩
    have hsz311 := Keep.size hk310
    replace hb1 := hb1.keep hk310 (fun hs => by have h1 := hFo _ hs; have h2 := hFlt _ hs; omega)
    replace hl := hl.keep hk310 (fun q hq hs => hdis q hs hq)
    replace hK0 := Keep.fresh hK0 hk310 (fun i hi hs => by rcases hFr i hs with h | h; exact .inl h; (exfalso; omega))
    have own313 : ∀ q, F301 q → 0 ≤ q ∧ q ≠ b1 := fun q hq => by rcases hfr303 q hq with h | h; (have h1 := hFo q h; have h2 := hFlt q h; omega); omega
    have lt312 := Vot.lt ho302
    have rel314 : ∀ q, F301 q → F q ∨ w.heap.size ≤ q := fun q hq => by rcases hfr303 q hq with h | h; exact hFr q h; exact .inr (by omega)
    have dis315 : ∀ q, F301 q → ¬ G q := fun q h1 h2 => by rcases hfr303 q h1 with h | h; exact hdis q h h2; (have h4 := hGlt q h2; omega)
    have hqb16w309 := (show P300.pp[i16]? = some (some ⟨b16, 0, none⟩) from by rw [hpp305]; exact hpp16)
    have hgq299lt := lt312 _ (Vot.at_ ho302)
    obtain ⟨hvlhm316, hm316⟩ := Vot.vblk ho302
    have hF317 := Vot.at_ ho302
    have hvlt := hm316.lt
    have hlov := lt312 _ hF317
    have hov := own313 _ hF317
    obtain ⟨hm318, hF319⟩ := Vot.pollB ho302 hqb16w309 hps16
    have hb16lt := hm318.lt
    have hlob16 := lt312 _ hF319
    have hob16 := own313 _ hF319
    obtain ⟨bd322, hF321, hF323, hm320, hm324⟩ := Vot.recD ho302 hgc304 hd32
    have hbd322lt := hm324.lt
    have hlobd322 := lt312 _ hF323
    have hobd322 := own313 _ hF323
    have hq299lt := hm320.lt
    have hloq299 := lt312 _ hF321
    have hoq299 := own313 _ hF321
    have hneb16v : b16 ≠ v := Blk.ne hm318 hm316 (by decide)
    have hneq299v : q299 ≠ v := Blk.ne hm320 hm316 (by decide)
    have hneq299b16 : q299 ≠ b16 := Blk.ne hm320 hm318 (by decide)
    have hnebd322v : bd322 ≠ v := Blk.ne hm324 hm316 (by decide)
    have hnebd322b16 : bd322 ≠ b16 := Blk.ne hm324 hm318 (by decide)
    have hnebd322q299 : bd322 ≠ q299 := Blk.ne hm324 hm320 (by decide)
    refine On 8 [0, 1, 2, 3, 9, 11, 12] ?_
    refine Oer ?_
    refine On 3 [0, 1, 2, 3, 9, 11, 12, 53] ?_
    refine Oc 119 (.tmp 53) 12 (pt P300.gv) (some 54) hm316 (by rw [List.getElem?_append_right (by rw [List.length_map]; omega), List.length_map, hvlhm316]; rfl) ?_
    refine On 6 [0, 1, 2, 3, 9, 11, 12, 54, 55, 56] ?_
    refine Ok (kl 66 #[(.tmp 54), (.tmp 55), (.tmp 56)] #[119, 3, 3]) 66 #[pt P300.gv, nt who, nt ref] (some 57) (vget_spec F301 v P300 s who ref _ ho302) ?_
    rintro _ w327 ⟨rfl, hk328⟩
    refine ⟨_, rfl, ?_⟩
    have hsz329 := Keep.size hk328
    replace hb1 := hb1.k0 hk328
    replace hm316 := hm316.k0 hk328
    replace hm318 := hm318.k0 hk328
    replace hm324 := hm324.k0 hk328
    replace hm320 := hm320.k0 hk328
    replace hl := hl.keep hk328 nk
    replace hK0 := hK0.tn hk328
    replace ho302 := ho302.keep hk328 nk
    refine On 10 [0, 1, 2, 3, 9, 11, 12, 58, 59] ?_
    refine OI_alloc 67 (.agg #[nt 0, .bool false, nt 0, nt 0, nt 0, nt 0]) [nt 0, .bool false, nt 0, nt 0, nt 0, nt 0] (some 13) (by kernel_rfl) (by kernel_rfl) (by kernel_rfl) ?_
    intro b330 w330 e330 hb330 k330 z330
    have hsz331 := Keep.size k330
    replace hb1 := hb1.k0 k330
    replace hm316 := hm316.k0 k330
    replace hm318 := hm318.k0 k330
    replace hm324 := hm324.k0 k330
    replace hm320 := hm320.k0 k330
    replace hl := hl.keep k330 nk
    replace hK0 := hK0.tn k330
    replace ho302 := ho302.keep k330 nk
    have hb330lt := hb330.lt
    refine Otg 67 (.tmp 13) (.tmp 58) 0 (Vt.cells ((GV.getC who ref s.cs).getD Vt.zero)) hb330 (Vt.len _) (Vt.one _) ?_
    intro w332 hb330_335 hk333 hz334
    replace hb330_335 : Blk w332 b330 (Vt.cells ((GV.getC who ref s.cs).getD Vt.zero)) 67 := (by rwa [over_whole (by rw [Vt.len]; rfl)] at hb330_335)
    have hsz336 := Keep.size hk333
    replace hb1 := hb1.k1 hk333
    replace hm316 := hm316.k1 hk333
    replace hm318 := hm318.k1 hk333
    replace hm324 := hm324.k1 hk333
    replace hm320 := hm320.k1 hk333
    replace hl := hl.keep hk333 (fun q hq hs => by have hs : q = b330 := hs; have g0 := hGo q hq; have g1 := hGlt q hq; omega)
    replace hK0 := Keep.fr hK0 hk333
    replace ho302 := ho302.keep hk333 (fun q hq hs => by have hs : q = b330 := hs; have g0 := own313 q hq; have g1 := lt312 q hq; omega)
    refine On 13 [0, 1, 2, 3, 9, 11, 12, 13, 14] ?_
    refine Oe ?_
    refine V_seq ?_
    refine V_block ?_
    refine Vr ?_
    refine On 3 [0, 1, 2, 3, 9, 11, 12, 13, 14, 63] ?_
    refine Oc 137 (.tmp 63) 0 (pt bd322) (some 64) hm320 rfl ?_
    refine Ose [(0, pt v), (1, pt l), (2, nt who), (3, nt ref), (9, pt b1), (11, pt b16), (12, pt q299), (13, pt b330), (14, .bool ((GV.getC who ref s.cs).isSome)), (60, .bool true)] ?_
    refine V_true rfl ?_
    refine Vs [(10, nt 5)] ?_
    refine V_ret ?_
    refine X_ret_block ?_
    refine X_ret_then ?_
    have hE337 : voteE xs s who ref x = 5 := by unfold voteE; rw [if_neg (by rintro (h9 | h9); exact h9 hg8; exact h9 hc14)]; rw [hpa16]; dsimp only; rw [if_neg (fun h9 => h9 hc30)]; rw [if_pos (by rw [hd32]; rfl)]
    exact X_return (nt 5) rfl ⟨by rw [hE337], ⟨F301, G, ⟨_, by rw [show voteS xs s who ref x = s from by unfold voteS; rw [hE337, if_neg (by decide)]]; exact ho302⟩, by rw [show voteC xs cs s who ref x = cs from by unfold voteC; rw [hE337, if_neg (by decide)]]; exact hl, rel314, hGr, dis315⟩, hK0⟩
 refine OI_eq [(0, pt v), (1, pt l), (2, nt who), (3, nt ref), (9, pt b1), (26, .bool true)] (by first | simp [hg8] | rfl) ?_
 refine Ose [(0, pt v), (1, pt l), (2, nt who), (3, nt ref), (9, pt b1), (30, .bool true)] ?_
 refine V_true rfl ?_
 refine Vs [(10, nt 1)] ?_
 refine V_ret ?_
 refine X_ret_then ?_
 have hE338 : voteE xs s who ref x = 1 := by unfold voteE; rw [if_pos (.inl hg8)]
 exact X_return (nt 1) rfl ⟨by rw [hE338], ⟨F, G, ⟨_, by rw [show voteS xs s who ref x = s from by unfold voteS; rw [hE338, if_neg (by decide)]]; exact h⟩, by rw [show voteC xs cs s who ref x = cs from by unfold voteC; rw [hE338, if_neg (by decide)]]; exact hl, hFr, hGr, hdis⟩, hK0⟩
end Go.Al

namespace Go.Al
open Go Go.RowKit Go.Proofs
def VS.zero : VS := ⟨List.replicate 12 none, [], fun _ _ => RecS.zero⟩
theorem Vot.new {F1 F2 : Nat → Prop} {w : World} {v gv gr : Nat} (h1 : GV.Grd F1 w gv []) (h2 : GR.Grd F2 w gr []) (hb : Blk w v ((List.replicate 12 none).map Value.pointer ++ [pt gv, pt gr]) 127) (d12 : ∀ q, F1 q → ¬ F2 q) (n1 : ∀ q, F1 q → q ≠ v) (n2 : ∀ q, F2 q → q ≠ v) :
    Vot (fun q => F1 q ∨ F2 q ∨ q = v) w v ⟨gv, gr, List.replicate 12 none, []⟩ VS.zero := by
  refine ⟨F1, F2, fun q => q = v, ⟨⟨rfl, (fun c hc => by cases hc), (fun a t d hd => by cases hd)⟩, h1, h2, rfl, fun q hq => by rw [hq]; exact hb.lt, d12, n1, n2, rfl, hb, fun i hi => ?_, ?_, fun c hc => (by cases hc), fun a t => .inl ⟨rfl, rfl⟩, ?_⟩, fun _ h => .inl h, fun _ h => .inr (.inl h), fun _ h => .inr (.inr h), ?_⟩
  · left
    show (List.replicate 12 none)[i]? = some none ∧ (List.replicate 12 none)[i]? = some none
    rw [List.getElem?_replicate, List.getElem?_replicate, if_pos hi, if_pos hi]; exact ⟨rfl, rfl⟩
  · intro i j b hi
    have hi' : (List.replicate 12 (none : Option Addr))[i]? = some (some ⟨b, 0, none⟩) := hi
    rw [List.getElem?_replicate] at hi'
    split at hi' <;> cases hi'
  · intro a t a' t' q hq; cases hq
  · rintro q (h | h | rfl)
    · exact h1.lt q h
    · exact h2.lt q h
    · exact hb.lt
theorem TrkOk.zero : TrkOk VS.zero := by
  intro i q h
  have h' : (List.replicate 12 (none : Option PollS))[i]? = some (some q) := h
  rw [List.getElem?_replicate] at h'
  split at h' <;> cases h'
theorem TrkOk.setP {s : VS} (h : TrkOk s) {i : Nat} {q : PollS} (hq : 0 ≤ q.track ∧ q.track < 4) : TrkOk (s.setP i q) := by
  intro j q' e
  have e' : (s.ps.set i (some q))[j]? = some (some q') := e
  rw [List.getElem?_set] at e'
  split at e'
  · split at e'
    · simp only [Option.some.injEq] at e'; rw [← e']; exact hq
    · cases e'
  · exact h j q' e'
theorem TrkOk.poll {s : VS} (h : TrkOk s) {ref : Int} {q : PollS} (e : pollAt s ref = some q) : 0 ≤ q.track ∧ q.track < 4 := by
  unfold pollAt at e
  split at e
  · cases hg : s.ps[ref.toNat]? with
    | none => rw [hg] at e; cases e
    | some x => rw [hg] at e; exact h _ _ (by rw [hg]; exact congrArg some e)
  · cases e
theorem TrkOk.cs {s : VS} (h : TrkOk s) (c : List GV.Ci) : TrkOk { s with cs := c } := h
theorem TrkOk.openS {s : VS} (h : TrkOk s) (ref t : Int) : TrkOk (openS s ref t) := by
  unfold Al.openS
  split
  · rename_i he
    refine h.setP ?_
    show 0 ≤ t ∧ t < 4
    unfold openE at he
    split at he
    · cases he
    · omega
  · exact h
theorem TrkOk.closeS {s : VS} (h : TrkOk s) (ref st en : Int) : TrkOk (closeS s ref st en) := by
  unfold Al.closeS
  split
  · exact h
  · rename_i q hq
    split
    · exact h.setP (show 0 ≤ q.track ∧ q.track < 4 from h.poll hq)
    · exact h
theorem TrkOk.voteS {s : VS} (h : TrkOk s) (xs : List Acc) (who ref : Int) (x : Vt) : TrkOk (voteS xs s who ref x) := by
  unfold Al.voteS
  split
  · split
    · exact h
    · rename_i q hq; exact h.setP (show 0 ≤ q.track ∧ q.track < 4 from h.poll hq)
  · exact h
def VotT (F : Nat → Prop) (w : World) (v : Nat) (s : VS) : Prop := VotE F w v s ∧ TrkOk s
section
variable {F S : Nat → Prop} {w w' : World} {v N : Nat} {s : VS}
theorem VotT.lt (h : VotT F w v s) : ∀ q, F q → q < w.heap.size := h.1.lt
theorem VotT.at_ (h : VotT F w v s) : F v := h.1.at_
theorem VotT.keep (h : VotT F w v s) (k : Keep S w w') (hS : ∀ q, F q → ¬ S q) : VotT F w' v s := ⟨h.1.keep k hS, h.2⟩
theorem VotT.quiet (h : VotT F w v s) (k : Keep (lb N w) w w') : VotT F w' v s := ⟨h.1.quiet k, h.2⟩
theorem VotT.inv (h : VotT F w v s) : s.Inv := h.1.inv
end
set_option maxRecDepth 10000 in
theorem new_votT (w : World) : Calls Tryz.prog 27 #[] w fun e w' => ∃ v F, e = .returned (pt v) ∧ VotT F w' v VS.zero ∧ Keep none_ w w' ∧ (∀ q, F q → w.heap.size ≤ q) := by
 have hK0 : Keep none_ w w := Keep.refl _ _
 have hzhK0 := Keep.size hK0
 refine enterV Tryz.func27 rfl [] 5 rfl rfl rfl ?_
 refine Vr ?_
 refine On 1 [] ?_
 refine Oer ?_
 refine Ok (kl 57 #[] #[]) 57 #[] (some 1) (GV.new_grd _) ?_
 rintro _ w1 ⟨g3, F4, rfl, ho5, hk2, hge6⟩
 refine ⟨_, rfl, ?_⟩
 have hsz7 := Keep.size hk2
 replace hK0 := hK0.tn hk2
 have own8 : ∀ q, F4 q → w.heap.size ≤ q := fun q hq => by have h1 := hge6 q hq; omega
 have lt9 := GV.Grd.lt ho5
 have hg3lt : g3 < w1.heap.size := GV.Grd.lt ho5 _ (GV.Grd.at_ ho5)
 have hg3ge := hge6 _ (GV.Grd.at_ ho5)
 refine Ok (kl 58 #[] #[]) 58 #[] (some 2) (GR.new_grd _) ?_
 rintro _ w10 ⟨g12, F13, rfl, ho14, hk11, hge15⟩
 refine ⟨_, rfl, ?_⟩
 have hsz16 := Keep.size hk11
 replace hK0 := hK0.tn hk11
 replace ho5 := GV.Grd.keep ho5 hk11 nk
 have own17 : ∀ q, F13 q → w1.heap.size ≤ q := fun q hq => by have h1 := hge15 q hq; omega
 have lt18 := GR.Grd.lt ho14
 have dis19 : ∀ q, F13 q → ¬ F4 q := fun q h1 h2 => by have h3 := hge15 q h1; have h4 := lt9 q h2; omega
 have hg12lt : g12 < w10.heap.size := GR.Grd.lt ho14 _ (GR.Grd.at_ ho14)
 have hg12ge := hge15 _ (GR.Grd.at_ ho14)
 refine On 3 [3] ?_
 refine OI_box 127 (.tmp 3) (.agg #[.pointer none, .pointer none, .pointer none, .pointer none, .pointer none, .pointer none, .pointer none, .pointer none, .pointer none, .pointer none, .pointer none, .pointer none, pt g3, pt g12]) [.pointer none, .pointer none, .pointer none, .pointer none, .pointer none, .pointer none, .pointer none, .pointer none, .pointer none, .pointer none, .pointer none, .pointer none, pt g3, pt g12] (some 4) (by kernel_rfl) (by kernel_rfl) (by kernel_rfl) ?_
 intro b20 w20 e20 hb20 k20 z20
 have hsz21 := Keep.size k20
 replace hK0 := hK0.tn k20
 replace ho5 := GV.Grd.keep ho5 k20 nk
 replace ho14 := GR.Grd.keep ho14 k20 nk
 have hb20lt := hb20.lt
 refine Ose [(0, pt b20)] ?_
 refine V_ret ?_
 exact X_return _ rfl ⟨b20, _, rfl, ⟨⟨_, Vot.new (gv := g3) (gr := g12) ho5 ho14 hb20 (fun q h1 h2 => dis19 q h2 h1) (fun q hq => by have h1 := lt9 q hq; omega) (fun q hq => by have h1 := lt18 q hq; omega)⟩, TrkOk.zero⟩, hK0, fun q hq => by rcases hq with h | h | h; (have h1 := own8 q h; omega); (have h1 := own17 q h; omega); omega⟩
theorem vote_spec (F G : Nat → Prop) (v l : Nat) (s : VS) (xs : List Acc) (cs : List Ci) (who ref : Int) (x : Vt) (w : World) (h : VotT F w v s) (hl : Led G w l xs cs) (hdis : ∀ q, F q → ¬ G q) (hmax : cs.length < 100000) : Calls Tryz.prog 31 #[pt v, pt l, nt who, nt ref, .agg x.cells.toArray] w fun e w' => e = .returned (nt (voteE xs s who ref x)) ∧ (∃ F' G', VotT F' w' v (voteS xs s who ref x) ∧ Led G' w' l xs (voteC xs cs s who ref x) ∧ (∀ q, F' q → F q ∨ w.heap.size ≤ q) ∧ (∀ q, G' q → G q ∨ w.heap.size ≤ q) ∧ (∀ q, F' q → ¬ G' q)) ∧ Keep (fun q => F q ∨ G q) w w' := by
  obtain ⟨⟨P, h⟩, ht⟩ := h
  refine (vote_at F G v l P s xs cs who ref x w h hl hdis ht hmax).mono ?_
  rintro e w' ⟨rfl, ⟨F', G', h1, h2, h3⟩, hk⟩
  exact ⟨rfl, ⟨F', G', ⟨h1, ht.voteS _ _ _ _⟩, h2, h3⟩, hk⟩
theorem open_specT (F : Nat → Prop) (v : Nat) (s : VS) (ref t : Int) (w : World) (h : VotT F w v s) : Calls Tryz.prog 44 #[pt v, nt ref, nt t] w fun e w' => e = .returned (nt (openE s ref t)) ∧ (∃ F', VotT F' w' v (openS s ref t) ∧ (∀ q, F' q → F q ∨ w.heap.size ≤ q)) ∧ Keep F w w' := by
  obtain ⟨h, ht⟩ := h
  refine (open_spec F v s ref t w h).mono ?_
  rintro e w' ⟨rfl, ⟨F', h1, h3⟩, hk⟩
  exact ⟨rfl, ⟨F', ⟨h1, ht.openS _ _⟩, h3⟩, hk⟩
theorem close_specT (F : Nat → Prop) (v : Nat) (s : VS) (ref st en : Int) (w : World) (h : VotT F w v s) : Calls Tryz.prog 42 #[pt v, nt ref, nt st, nt en] w fun e w' => e = .returned (nt (closeE s ref st)) ∧ (∃ F', VotT F' w' v (closeS s ref st en) ∧ (∀ q, F' q → F q ∨ w.heap.size ≤ q)) ∧ Keep F w w' := by
  obtain ⟨h, ht⟩ := h
  refine (close_spec F v s ref st en w h).mono ?_
  rintro e w' ⟨rfl, ⟨F', h1, h3⟩, hk⟩
  exact ⟨rfl, ⟨F', ⟨h1, ht.closeS _ _ _⟩, h3⟩, hk⟩
end Go.Al

namespace Go.Al
open Go Go.RowKit Go.Proofs
def heldI (n lo hi : Int) : Int := imin (imax n lo) hi
def ratioI (a b : Int) : Int := if b = 0 then 0 else imin (w64 (Int.tdiv (w64 (a * 1000000000)) b)) 1000000000
def fallsC (c : Crv) : Prop := (0 ≤ c.a ∧ c.a ≤ 1000000000) ∧ (0 ≤ c.b ∧ c.b ≤ c.a) ∧ (1 ≤ c.c ∧ c.c ≤ 1000000000)
instance (c : Crv) : Decidable (fallsC c) := by unfold fallsC; infer_instance
def okCrv (c : Crv) : Prop := (c.k = 1 ∧ fallsC c ∧ c.d = 0) ∨ (c.k = 2 ∧ fallsC c ∧ 1 ≤ c.d ∧ c.d ≤ 1000000000) ∨ (c.k = 3 ∧ (0 ≤ c.a ∧ c.a ≤ 1000000000) ∧ (0 ≤ c.c ∧ c.c ≤ 1000000000) ∧ (1 ≤ c.b ∧ c.b ≤ 1000000000) ∧ c.d = 0)
instance (c : Crv) : Decidable (okCrv c) := by unfold okCrv; infer_instance
def okTrk (t : Trk) : Prop := (1 ≤ t.most ∧ t.most ≤ 12) ∧ (0 ≤ t.deposit ∧ t.deposit ≤ 1073741824) ∧ (0 ≤ t.cap ∧ t.cap ≤ 1073741824) ∧ (0 ≤ t.prepare ∧ t.prepare ≤ 1000) ∧ (0 ≤ t.confirm ∧ t.confirm ≤ 1000) ∧ (0 ≤ t.enact ∧ t.enact ≤ 1000) ∧ (1 ≤ t.decision ∧ t.decision ≤ 1000) ∧ okCrv t.app ∧ okCrv t.sup ∧ (0 ≤ t.rank ∧ t.rank ≤ 2)
instance (t : Trk) : Decidable (okTrk t) := by unfold okTrk; infer_instance
def atI (c : Crv) (x : Int) : Int :=
  if c.k = 1 then (if heldI x 0 1000000000 ≥ c.c then c.b else w64 (c.a - w64 (Int.tdiv (w64 (w64 (c.a - c.b) * heldI x 0 1000000000)) c.c)))
  else if c.k = 2 then imax (w64 (c.a - w64 (w64 (Int.tdiv (heldI x 0 1000000000) c.d) * c.c))) c.b
  else if c.k = 3 then heldI (w64 (w64 (Int.tdiv (w64 (c.a * 1000000000)) (w64 (heldI x 0 1000000000 + c.b))) - c.c)) 0 1000000000 else 0
def apprI (t : Tly) : Int := ratioI t.a (w64 (t.a + t.n))
def passB (t : Trk) (y : Tly) (iss el : Int) : Bool := decide (apprI y ≥ atI t.app (ratioI (imin el t.decision) t.decision)) && decide (ratioI y.s iss ≥ atI t.sup (ratioI (imin el t.decision) t.decision))
def Trk.zero : Trk := ⟨0, 0, 0, 0, 0, 0, ⟨0, 0, 0, 0, 0⟩, ⟨0, 0, 0, 0, 0⟩, 0, 0⟩
def trkO (ts : List Trk) (i : Int) : Option Trk := if 0 ≤ i ∧ i < ts.length then ts[i.toNat]? else none
def trkA (ts : List Trk) (i : Int) : Trk := (trkO ts i).getD Trk.zero
def getR (rs : List Rfm) (i : Int) : Option Rfm := if 0 ≤ i ∧ i < rs.length then rs[i.toNat]? else none
def getA (rs : List Rfm) (i : Int) : Rfm := (getR rs i).getD Rfm.zero
def newR (of : Int) (sum : Nat → Int) (after now who : Int) : Rfm := ⟨1, of, sum, after, now, who, true, -1, -1, -1, 0, Tly.zero⟩
def subE (xs : List Acc) (cs : List Ci) (s : VS) (ts : List Trk) (rs : List Rfm) (who of after : Int) : Int :=
  if (trkO ts of).isNone ∨ who < 0 ∨ who ≥ 10 ∨ after < 0 ∨ after > 1000 then 1 else if rs.length ≥ 12 then 3 else if (pollAt s rs.length).isSome then 5 else spendsE xs cs who 10
def subX (xs : List Acc) (cs : List Ci) (s : VS) (ts : List Trk) (rs : List Rfm) (who of after : Int) : List Acc := if subE xs cs s ts rs who of after = 0 then resX xs cs who 10 else xs
def subS (xs : List Acc) (cs : List Ci) (s : VS) (ts : List Trk) (rs : List Rfm) (who of after : Int) : VS := if subE xs cs s ts rs who of after = 0 then openS s rs.length of else s
def subR (xs : List Acc) (cs : List Ci) (s : VS) (ts : List Trk) (rs : List Rfm) (who of after : Int) (sum : Nat → Int) (now : Int) : List Rfm := if subE xs cs s ts rs who of after = 0 then rs ++ [newR of sum after now who] else rs
def depE (xs : List Acc) (cs : List Ci) (ts : List Trk) (rs : List Rfm) (who ref : Int) : Int := match getR rs ref with
  | none => 4
  | some x => if x.state ≠ 1 then 9 else if x.backer ≠ -1 then 5 else spendsE xs cs who (trkA ts x.track).deposit
def depX (xs : List Acc) (cs : List Ci) (ts : List Trk) (rs : List Rfm) (who ref : Int) : List Acc := if depE xs cs ts rs who ref = 0 then resX xs cs who (trkA ts (getA rs ref).track).deposit else xs
def depR (xs : List Acc) (cs : List Ci) (ts : List Trk) (rs : List Rfm) (who ref : Int) : List Rfm := if depE xs cs ts rs who ref = 0 then rs.set ref.toNat { getA rs ref with backer := who } else rs
def endY (s : VS) (x : Rfm) (ref st now : Int) : Rfm := { x with state := st, stop := now, t := tallyT s ref }
def endR (s : VS) (rs : List Rfm) (ref st now : Int) : List Rfm := rs.set ref.toNat (endY s (getA rs ref) ref st now)
def waitB (ts : List Trk) (of now : Int) (x : Rfm) : Bool := !(decide (x.state ≠ 1) || decide (x.track ≠ of)) && decide (x.since = -1) && (decide (x.backer ≠ -1) && decide (w64 (now - x.sub) ≥ (trkA ts of).prepare))
def decB (of : Int) (x : Rfm) : Bool := !(decide (x.state ≠ 1) || decide (x.track ≠ of)) && decide (x.since ≠ -1)
def waitL (ts : List Trk) (of now : Int) : Nat → List Rfm → List Int
  | _, [] => []
  | i, x :: l => if waitB ts of now x = true then (i : Int) :: waitL ts of now (i + 1) l else waitL ts of now (i + 1) l
def decN (of : Int) : List Rfm → Int
  | [] => 0
  | x :: l => (if decB of x = true then 1 else 0) + decN of l
def sink (key : Int → Int) (x : Int) : List Int → List Int
  | [] => [x]
  | y :: l => if key x > key y then y :: sink key x l else x :: y :: l
def sortD (key : Int → Int) (l : List Int) : List Int := (l.foldl (fun acc x => sink key x acc) []).reverse
def begL (ts : List Trk) (s : VS) (rs : List Rfm) (of now : Int) : List Int :=
  (sortD (fun r => (tallyT s r).a) (waitL ts of now 0 rs)).take (imin ((waitL ts of now 0 rs).length : Int) (imax ((trkA ts of).most - decN of rs) 0)).toNat
def setN (now : Int) (rs : List Rfm) (ref : Int) : List Rfm := rs.set ref.toNat { getA rs ref with since := now }
def begR (ts : List Trk) (s : VS) (now : Int) (rs : List Rfm) (of : Int) : List Rfm := (begL ts s rs of now).foldl (setN now) rs
def begK (ts : List Trk) (s : VS) (now : Int) (rs : List Rfm) : Nat → List Rfm
  | 0 => rs
  | k + 1 => begR ts s now (begK ts s now rs k) (k : Int)
def tillI (ts : List Trk) (x : Rfm) (y : Tly) (iss now : Int) : Int := if passB (trkA ts x.track) y iss (w64 (now - x.since)) = false then -1 else if x.till = -1 then w64 (now + (trkA ts x.track).confirm) else x.till
def decY (ts : List Trk) (x : Rfm) (y : Tly) (iss now : Int) : Rfm := if x.since = -1 then x else { x with till := tillI ts x y iss now }
def decE (ts : List Trk) (x : Rfm) (y : Tly) (iss now : Int) : Int := if x.since = -1 then (if w64 (now - x.sub) ≥ 30 then 4 else 0) else
  if tillI ts x y iss now ≠ -1 ∧ tillI ts x y iss now ≤ now then 2 else if tillI ts x y iss now = -1 ∧ w64 (now - x.since) ≥ (trkA ts x.track).decision then 3 else 0
structure SvS where
  s : VS
  rs : List Rfm
  out : List Evt
def svcStep (ts : List Trk) (iss now : Int) (i : Int) (x : Rfm) (q : SvS) : SvS :=
  if x.state ≠ 1 then q else if decE ts x (tallyT q.s i) iss now = 0 then { q with rs := q.rs.set i.toNat (decY ts x (tallyT q.s i) iss now) }
  else ⟨closeS q.s i (decE ts x (tallyT q.s i) iss now) now, q.rs.set i.toNat (endY q.s (decY ts x (tallyT q.s i) iss now) i (decE ts x (tallyT q.s i) iss now) now), q.out ++ [Evt.mk 1 i (decE ts x (tallyT q.s i) iss now)]⟩
def svcK (ts : List Trk) (iss now : Int) (r0 : List Rfm) (q : SvS) : Nat → SvS
  | 0 => q
  | k + 1 => match r0[k]? with | none => svcK ts iss now r0 q k | some x => svcStep ts iss now k x (svcK ts iss now r0 q k)
def svcQ (ts : List Trk) (xs : List Acc) (s : VS) (rs : List Rfm) (now : Int) : SvS := svcK ts (tot xs) now (begK ts s now rs ts.length) ⟨s, begK ts s now rs ts.length, []⟩ rs.length
end Go.Al
