/-
  Put together out of 9 texts: Walks of package conv. What a voting holds, and where. Walks of package voting: a poll, a record. Walks of package voting: Open, Close, Tally. Walks of package voting: an account's votes in a track. Walks of package voting: an account's votes in a track: the way. Walks of package voting: how many votes; the grid of votes; raise. Walks of package voting: prior locks; votes that won. Walks of package voting: more, or less, is delegated to an account.
-/
import Derived.Test.YtglgnmoglbbkmaaGreatVotingPriorsB3
namespace Go.Al
open Go Go.RowKit Go.Proofs
set_option maxRecDepth 10000 in
theorem cvIn_spec (n lo hi : Int) (w : World) : Calls Tryz.prog 90 #[.int .i64 n, .int .i64 lo, .int .i64 hi] w fun e w' => e = .returned (.bool (decide (lo ≤ n ∧ n ≤ hi))) ∧ w' = w := by
 refine enterV Tryz.func90 rfl [nt n, nt lo, nt hi] 15 rfl rfl rfl ?_
 refine V_pick [(0, nt n), (1, nt lo), (2, nt hi)] rfl ?_
 refine V_seq ?_
 refine V_region ?_
 refine OI_static 1 [(0, nt n), (1, nt lo), (2, nt hi)] (by kernel_rfl) ?_
 refine OI_end rfl ?_
 refine X_then ?_
 refine V_seq ?_
 refine V_region ?_
 refine OI_static 4 [(0, nt n), (2, nt hi), (10, .bool (decide (n ≥ lo)))] (by kernel_rfl) ?_
 by_cases hg1 : n ≥ lo
 ·
  refine OI_eq [(0, nt n), (2, nt hi), (10, .bool true)] (by first | simp [hg1] | rfl) ?_
  refine OI_static 9 [(6, .bool (decide (n ≤ hi)))] (by kernel_rfl) ?_
  refine OI_end rfl ?_
  refine X_then ?_
  refine V_ret ?_
  exact X_return (.bool (decide (n ≤ hi))) rfl ⟨by congr 2; simp only [Bool.decide_and]; by_cases h1 : lo ≤ n <;> simp [h1] <;> omega, rfl⟩
 ·
  refine OI_eq [(0, nt n), (2, nt hi), (10, .bool false)] (by first | simp [hg1] | rfl) ?_
  refine OI_static 9 [(6, .bool false)] (by kernel_rfl) ?_
  refine OI_end rfl ?_
  refine X_then ?_
  refine V_ret ?_
  exact X_return (.bool false) rfl ⟨by congr 2; simp only [Bool.decide_and]; by_cases h1 : lo ≤ n <;> simp [h1] <;> omega, rfl⟩

set_option maxRecDepth 10000 in
theorem isCapital_spec (A : Option Addr) (cap : Nat) (xs : List Int) (w : World) (hA : SlT w 1 intc A cap xs) (hn : xs.length ≤ 1000) : Calls Tryz.prog 89 #[.slice A xs.length cap] w fun e w' => e = .returned (.bool (decide (okC xs ∧ sumL xs ≤ 1073741824))) ∧ Keep none_ w w' := by
 have hK0 : Keep none_ w w := Keep.refl _ _
 have hzhK0 := Keep.size hK0
 refine enterV Tryz.func89 rfl [.slice A xs.length cap] 21 rfl rfl rfl ?_
 refine V_pick [(0, .slice A xs.length cap)] rfl ?_
 refine V_seq ?_
 refine V_region ?_
 refine OI_static 1 [(0, .slice A xs.length cap)] (by kernel_rfl) ?_
 refine OI_end rfl ?_
 refine X_then ?_
 refine V_seq ?_
 refine V_region ?_
 refine OI_static 1 [(0, .slice A xs.length cap), (3, nt 0)] (by kernel_rfl) ?_
 refine OI_end rfl ?_
 refine X_then ?_
 refine V_seq ?_
 refine V_seq ?_
 refine V_region ?_
 refine OI_static 3 [(3, nt 0), (6, .slice A xs.length cap), (7, nt ((xs.length : Nat) : Int)), (8, nt 0)] (by kernel_rfl) ?_
 refine OI_end rfl ?_
 refine X_then ?_
 refine V_block ?_
 refine V_pick [(3, nt 0), (6, .slice A xs.length cap), (7, nt ((xs.length : Nat) : Int)), (8, nt 0)] rfl ?_
 refine V_loop (fun k wI e => ∃ i : Nat, ∃ s : Int, (k + i = xs.length) ∧ (s = sumL (xs.take i)) ∧ (okC (xs.take i)) ∧ Keep none_ w wI ∧ e = [(3, nt s), (6, .slice A xs.length cap), (7, nt ((xs.length : Nat) : Int)), (8, nt ((i : Nat) : Int))]) xs.length ⟨0, 0, by omega, rfl, (fun _ h => by simp at h), Keep.refl _ _, rfl⟩ ?_
 rintro k2 w1 _ ⟨i, s, hki, hs, hok, hk3, rfl⟩
 have hsz4 := Keep.size hk3
 replace hA := SlT.keep0 hA hk3
 replace hK0 := Keep.tr hK0 (Keep.ofNone hk3)
 have hzhk3 := Keep.size hk3
 refine V_seq ?_
 refine V_region ?_
 refine OI_static 1 [(3, nt s), (6, .slice A xs.length cap), (7, nt ((xs.length : Nat) : Int)), (8, nt ((i : Nat) : Int)), (9, .bool (decide (((i : Nat) : Int) < ((xs.length : Nat) : Int))))] (by kernel_rfl) ?_
 refine OI_end rfl ?_
 refine X_then ?_
 refine V_seq ?_
 refine V_if (((i : Nat) : Int) < ((xs.length : Nat) : Int)) (by kernel_rfl) (fun hc5 => ?_) (fun hc5 => ?_)
 ·
  refine V_skip ?_
  refine X_then ?_
  refine V_seq ?_
  refine V_block ?_
  refine V_seq ?_
  refine V_region ?_
  obtain ⟨b6, o6, L6, T6, rfl, hat6⟩ := SlT.open_ hA (by first | omega | (simp only [List.length_map]; omega) | (simp; done) | (simp; omega))
  have hb6lt := hat6.blk.lt
  refine OI_pure (some 10) (.indexAddr 28 (.tmp 6) (.tmp 8)) (by kernel_rfl) (pure_idxN (b := b6) (o := o6) (len := xs.length) (cap := cap) (kd := .i64) (j := i) (E := 3) (sz := 1) (by_ := 8) (by kernel_rfl) (by kernel_rfl) (by kernel_rfl) (by omega)) ?_
  obtain ⟨x7, hx8⟩ : ∃ x, xs[i]? = some x := ⟨_, List.getElem?_eq_getElem (by first | omega | (simp only [List.length_map]; omega))⟩
  have hbd := sumL_bnd hok; rw [List.length_take] at hbd
  refine OI_cell 3 (.tmp 10) (o6 + i * 1) (nt x7) (some 11) (by kernel_rfl) (by kernel_rfl) hat6.blk (m := 1) (by kernel_rfl) (At.cell0 hat6 (es_at hx8) rfl) ?_
  refine OI_static 3 [(3, nt s), (5, nt x7), (6, .slice (some ⟨b6, o6, none⟩) xs.length cap), (7, nt ((xs.length : Nat) : Int)), (8, nt ((i : Nat) : Int))] (by kernel_rfl) ?_
  refine OI_end rfl ?_
  refine X_then ?_
  refine V_seq ?_
  refine V_seq ?_
  refine V_region ?_
  refine OI_static 1 [(3, nt s), (5, nt x7), (6, .slice (some ⟨b6, o6, none⟩) xs.length cap), (7, nt ((xs.length : Nat) : Int)), (8, nt ((i : Nat) : Int)), (12, nt x7)] (by kernel_rfl) ?_
  refine OI_call { callee := (Callee.value (Operand.func 90)), args := #[(Operand.tmp 12), (Operand.const (Value.int IntKind.i64 0)), (Operand.const (Value.int IntKind.i64 1073741824))], argTypes := #[3, 3, 3] } 90 #[nt x7, nt 0, nt 1073741824] (some 13) (by kernel_rfl) (by kernel_rfl) (by kernel_rfl) (cvIn_spec x7 0 1073741824 _) ?_
  rintro _ w1 ⟨rfl, rfl⟩
  refine ⟨_, rfl, ?_⟩
  refine OI_static 3 [(3, nt s), (5, nt x7), (6, .slice (some ⟨b6, o6, none⟩) xs.length cap), (7, nt ((xs.length : Nat) : Int)), (8, nt ((i : Nat) : Int)), (14, .bool (!(decide ((0 : Int) ≤ x7 ∧ x7 ≤ 1073741824))))] (by kernel_rfl) ?_
  refine OI_end rfl ?_
  refine X_then ?_
  refine V_not ((0 : Int) ≤ x7 ∧ x7 ≤ 1073741824) (by kernel_rfl) (fun hc10 => ?_) (fun hc10 => ?_)
  ·
   refine V_seq ?_
   refine V_region ?_
   refine OI_static 1 [(2, .bool false)] (by kernel_rfl) ?_
   refine OI_end rfl ?_
   refine X_then ?_
   refine V_ret ?_
   refine X_ret_then ?_
   refine X_ret_block ?_
   refine X_ret_then ?_
   refine X_ret_then ?_
   refine X_ret_block ?_
   refine X_ret_then ?_
   exact X_return _ rfl ⟨by rw [decide_eq_false (fun hh => hc10 (hh.1 _ (List.mem_of_getElem? hx8)))], hK0⟩
  ·
   refine V_skip ?_
   refine X_then ?_
   refine V_region ?_
   have hw11 : IntKind.i64.wrap (s + x7) = s + x7 := (wrap64_id (by omega) (by omega)).trans (by omega)
   refine OI_static 3 [(6, .slice (some ⟨b6, o6, none⟩) xs.length cap), (7, nt ((xs.length : Nat) : Int)), (8, nt ((i : Nat) : Int)), (17, nt (IntKind.i64.wrap (s + x7)))] (by kernel_rfl) ?_
   refine OI_eq [(6, .slice (some ⟨b6, o6, none⟩) xs.length cap), (7, nt ((xs.length : Nat) : Int)), (8, nt ((i : Nat) : Int)), (17, nt (s + x7))] (by rw [hw11]) ?_
   refine OI_static 4 [(3, nt (s + x7)), (6, .slice (some ⟨b6, o6, none⟩) xs.length cap), (7, nt ((xs.length : Nat) : Int)), (8, nt ((i : Nat) : Int))] (by kernel_rfl) ?_
   refine OI_end rfl ?_
   refine X_block ?_
   refine X_then ?_
   refine V_region ?_
   have hw12 : IntKind.i64.wrap (((i : Nat) : Int) + 1) = ((i + 1 : Nat) : Int) := (wrap64_id (by omega) (by omega)).trans (by omega)
   refine OI_static 1 [(3, nt (s + x7)), (6, .slice (some ⟨b6, o6, none⟩) xs.length cap), (7, nt ((xs.length : Nat) : Int)), (18, nt (IntKind.i64.wrap (((i : Nat) : Int) + 1)))] (by kernel_rfl) ?_
   refine OI_eq [(3, nt (s + x7)), (6, .slice (some ⟨b6, o6, none⟩) xs.length cap), (7, nt ((xs.length : Nat) : Int)), (18, nt ((i + 1 : Nat) : Int))] (by rw [hw12]) ?_
   refine OI_static 2 [(3, nt (s + x7)), (6, .slice (some ⟨b6, o6, none⟩) xs.length cap), (7, nt ((xs.length : Nat) : Int)), (8, nt ((i + 1 : Nat) : Int))] (by kernel_rfl) ?_
   refine OI_end rfl ?_
   exact V_again (k2 - 1) (by omega) [(3, nt (s + x7)), (6, .slice (some ⟨b6, o6, none⟩) xs.length cap), (7, nt ((xs.length : Nat) : Int)), (8, nt ((i + 1 : Nat) : Int))] rfl ⟨i + 1, s + x7, by omega, by rw [sumL_step hx8, hs], okC_step hx8 hok hc10, hk3, rfl⟩
 ·
  refine V_exit ?_
  refine X_exit_then ?_
  refine X_exit_then ?_
  refine X_exit_here ?_
  refine X_then ?_
  refine V_seq ?_
  refine V_region ?_
  refine OI_static 3 [(2, .bool (decide (s ≤ 1073741824)))] (by kernel_rfl) ?_
  refine OI_end rfl ?_
  refine X_then ?_
  refine V_ret ?_
  have he : i = xs.length := by omega
  rw [he, List.take_length] at hs hok
  exact X_return (.bool (decide (s ≤ 1073741824))) rfl ⟨by rw [hs]; congr 2; rw [decide_eq_decide]; exact ⟨fun h => ⟨hok, h⟩, fun h => h.2⟩, hK0⟩

theorem isCapital3 (b : Nat) (T : TypeId) (a n s : Int) (w : World) (hb : Blk w b [.int .i64 a, .int .i64 n, .int .i64 s] T) : Calls Tryz.prog 89 #[.slice (some ⟨b, 0, none⟩) 3 3] w fun e w' => e = .returned (.bool (decide (0 ≤ a ∧ a ≤ 1073741824 ∧ 0 ≤ n ∧ n ≤ 1073741824 ∧ 0 ≤ s ∧ s ≤ 1073741824 ∧ a + n + s ≤ 1073741824))) ∧ Keep none_ w w' := by
  rw [← decide_eq_decide.2 (okC3 a n s)]
  exact isCapital_spec _ 3 [a, n, s] w (slt_blk hb (fun _ => rfl) rfl) (by simp)

set_option maxRecDepth 10000 in
theorem cvIs_spec (x : Vt) (w : World) : Calls Tryz.prog 53 #[.agg x.cells.toArray] w fun e w' => e = .returned (.bool (decide (okV x))) ∧ Keep none_ w w' := by
 have hK0 : Keep none_ w w := Keep.refl _ _
 have hzhK0 := Keep.size hK0
 refine enterV Tryz.func53 rfl [.agg (Vt.cells x).toArray] 54 rfl rfl rfl ?_
 refine V_pick [(0, .agg (Vt.cells x).toArray)] rfl ?_
 refine V_seq ?_
 refine V_region ?_
 refine OI_box 23 (.tmp 0) (.agg (Vt.cells x).toArray) (Vt.cells x) (some 1) (by kernel_rfl) (by kernel_rfl) rfl ?_
 intro b1 w1 e1 hb1 k1 z1
 have hsz2 := Keep.size k1
 replace hK0 := Keep.tr hK0 (Keep.ofNone k1)
 have hb1lt := hb1.lt
 refine OI_static 2 [(1, pt b1)] (by kernel_rfl) ?_
 refine OI_end rfl ?_
 refine X_then ?_
 refine V_seq ?_
 refine V_seq ?_
 refine V_region ?_
 refine OI_static 1 [(1, pt b1), (3, .pointer (some ⟨b1, 3, none⟩))] (by kernel_rfl) ?_
 refine OI_cell 3 (.tmp 3) 3 (nt x.a) (some 4) (by kernel_rfl) (by kernel_rfl) hb1 (m := 1) (by kernel_rfl) rfl ?_
 refine OI_static 3 [(1, pt b1), (4, nt x.a), (5, .pointer (some ⟨b1, 4, none⟩))] (by kernel_rfl) ?_
 refine OI_cell 3 (.tmp 5) 4 (nt x.n) (some 6) (by kernel_rfl) (by kernel_rfl) hb1 (m := 1) (by kernel_rfl) rfl ?_
 refine OI_static 5 [(1, pt b1), (4, nt x.a), (6, nt x.n), (7, .pointer (some ⟨b1, 5, none⟩))] (by kernel_rfl) ?_
 refine OI_cell 3 (.tmp 7) 5 (nt x.s) (some 8) (by kernel_rfl) (by kernel_rfl) hb1 (m := 1) (by kernel_rfl) rfl ?_
 refine OI_slit (E := 3) (zv := nt 0) (sz := 1) (by_ := 8) 28 3 #[(0, (Operand.tmp 4)), (1, (Operand.tmp 6)), (2, (Operand.tmp 8))] [nt x.a, nt x.n, nt x.s] [nt x.a, nt x.n, nt x.s] (some 9) (by kernel_rfl) (by kernel_rfl) (by kernel_rfl) (by omega) rfl (by omega) (by intro v hv; simp only [List.mem_cons, List.not_mem_nil, or_false] at hv; rcases hv with rfl | rfl | rfl <;> rfl) (by kernel_rfl) rfl ?_
 intro b3 w3 e3 hb3 k3 z3
 have hsz4 := Keep.size k3
 replace hb1 := hb1.keep k3 (fun f => f)
 replace hK0 := Keep.tr hK0 (Keep.ofNone k3)
 have hb3lt := hb3.lt
 refine OI_call { callee := (Callee.value (Operand.func 89)), args := #[(Operand.tmp 9)], argTypes := #[28] } 89 #[.slice (some ⟨b3, 0, none⟩) 3 3] (some 10) (by kernel_rfl) (by kernel_rfl) (by kernel_rfl) (isCapital3 b3 _ x.a x.n x.s _ hb3) ?_
 rintro _ w5 ⟨rfl, hk6⟩
 refine ⟨_, rfl, ?_⟩
 have hsz7 := Keep.size hk6
 replace hb1 := hb1.keep hk6 (fun f => f)
 replace hb3 := hb3.keep hk6 (fun f => f)
 replace hK0 := Keep.tr hK0 (Keep.ofNone hk6)
 refine OI_static 9 [(1, pt b1), (11, .bool (!(decide (0 ≤ x.a ∧ x.a ≤ 1073741824 ∧ 0 ≤ x.n ∧ x.n ≤ 1073741824 ∧ 0 ≤ x.s ∧ x.s ≤ 1073741824 ∧ x.a + x.n + x.s ≤ 1073741824))))] (by kernel_rfl) ?_
 refine OI_end rfl ?_
 refine X_then ?_
 refine V_not (0 ≤ x.a ∧ x.a ≤ 1073741824 ∧ 0 ≤ x.n ∧ x.n ≤ 1073741824 ∧ 0 ≤ x.s ∧ x.s ≤ 1073741824 ∧ x.a + x.n + x.s ≤ 1073741824) (by kernel_rfl) (fun hc8 => ?_) (fun hc8 => ?_)
 ·
  refine V_seq ?_
  refine V_region ?_
  refine OI_static 1 [(2, .bool false)] (by kernel_rfl) ?_
  refine OI_end rfl ?_
  refine X_then ?_
  refine V_ret ?_
  refine X_ret_then ?_
  exact X_return (.bool false) rfl ⟨by congr 2; first | (apply Eq.symm; simp only [decide_eq_true_eq, decide_eq_false_iff_not]; unfold okV; simp_all <;> omega) | (rw [decide_eq_decide]; unfold okV; simp_all <;> omega), hK0⟩
 ·
  refine V_skip ?_
  refine X_then ?_
  refine V_seq ?_
  refine V_seq ?_
  refine V_region ?_
  refine OI_static 1 [(1, pt b1), (12, pt b1)] (by kernel_rfl) ?_
  refine OI_cell 3 (.tmp 12) 0 (nt x.kind) (some 13) (by kernel_rfl) (by kernel_rfl) hb1 (m := 1) (by kernel_rfl) rfl ?_
  refine OI_end rfl ?_
  refine X_then ?_
  refine V_block ?_
  refine V_seq ?_
  refine V_region ?_
  refine OI_static 2 [(1, pt b1), (13, nt x.kind), (14, .bool (decide (x.kind = 1)))] (by kernel_rfl) ?_
  refine OI_end rfl ?_
  refine X_then ?_
  refine V_if (x.kind = 1) (by kernel_rfl) (fun hc9 => ?_) (fun hc9 => ?_)
  ·
   refine V_seq ?_
   refine V_region ?_
   refine OI_static 1 [(1, pt b1), (16, .pointer (some ⟨b1, 2, none⟩))] (by kernel_rfl) ?_
   refine OI_cell 3 (.tmp 16) 2 (nt x.level) (some 17) (by kernel_rfl) (by kernel_rfl) hb1 (m := 1) (by kernel_rfl) rfl ?_
   refine OI_call { callee := (Callee.value (Operand.func 90)), args := #[(Operand.tmp 17), (Operand.const (Value.int IntKind.i64 0)), (Operand.const (Value.int IntKind.i64 6))], argTypes := #[3, 3, 3] } 90 #[nt x.level, nt 0, nt 6] (some 18) (by kernel_rfl) (by kernel_rfl) (by kernel_rfl) (cvIn_spec x.level 0 6 _) ?_
   rintro _ w5 ⟨rfl, rfl⟩
   refine ⟨_, rfl, ?_⟩
   refine OI_static 4 [(1, pt b1), (19, .bool (decide ((0 : Int) ≤ x.level ∧ x.level ≤ 6)))] (by kernel_rfl) ?_
   by_cases hg13 : (0 : Int) ≤ x.level ∧ x.level ≤ 6
   ·
    refine OI_eq [(1, pt b1), (19, .bool true)] (by first | simp [hg13] | rfl) ?_
    refine OI_static 5 [(1, pt b1), (19, .bool true), (20, .pointer (some ⟨b1, 4, none⟩))] (by kernel_rfl) ?_
    refine OI_cell 3 (.tmp 20) 4 (nt x.n) (some 21) (by kernel_rfl) (by kernel_rfl) hb1 (m := 1) (by kernel_rfl) rfl ?_
    refine OI_static 9 [(1, pt b1), (24, .bool (decide (x.n = 0)))] (by kernel_rfl) ?_
    by_cases hg14 : x.n = 0
    ·
     refine OI_eq [(1, pt b1), (24, .bool true)] (by first | simp [hg14] | rfl) ?_
     refine OI_static 10 [(24, .bool true), (25, .pointer (some ⟨b1, 5, none⟩))] (by kernel_rfl) ?_
     refine OI_cell 3 (.tmp 25) 5 (nt x.s) (some 26) (by kernel_rfl) (by kernel_rfl) hb1 (m := 1) (by kernel_rfl) rfl ?_
     refine OI_static 14 [(2, .bool (decide (x.s = 0)))] (by kernel_rfl) ?_
     refine OI_end rfl ?_
     refine X_then ?_
     refine V_ret ?_
     refine X_ret_block ?_
     refine X_ret_then ?_
     exact X_return (.bool (decide (x.s = 0))) rfl ⟨by congr 2; first | (apply Eq.symm; simp only [decide_eq_true_eq, decide_eq_false_iff_not]; unfold okV; simp_all <;> omega) | (rw [decide_eq_decide]; unfold okV; simp_all <;> omega), hK0⟩
    ·
     refine OI_eq [(1, pt b1), (24, .bool false)] (by first | simp [hg14] | rfl) ?_
     refine OI_static 14 [(2, .bool false)] (by kernel_rfl) ?_
     refine OI_end rfl ?_
     refine X_then ?_
     refine V_ret ?_
     refine X_ret_block ?_
     refine X_ret_then ?_
     exact X_return (.bool false) rfl ⟨by congr 2; first | (apply Eq.symm; simp only [decide_eq_true_eq, decide_eq_false_iff_not]; unfold okV; simp_all <;> omega) | (rw [decide_eq_decide]; unfold okV; simp_all <;> omega), hK0⟩
   ·
    refine OI_eq [(1, pt b1), (19, .bool false)] (by first | simp [hg13] | rfl) ?_
    refine OI_static 14 [(2, .bool false)] (by kernel_rfl) ?_
    refine OI_end rfl ?_
    refine X_then ?_
    refine V_ret ?_
    refine X_ret_block ?_
    refine X_ret_then ?_
    exact X_return (.bool false) rfl ⟨by congr 2; first | (apply Eq.symm; simp only [decide_eq_true_eq, decide_eq_false_iff_not]; unfold okV; simp_all <;> omega) | (rw [decide_eq_decide]; unfold okV; simp_all <;> omega), hK0⟩
  ·
   refine V_seq ?_
   refine V_region ?_
   refine OI_static 2 [(1, pt b1), (13, nt x.kind), (29, .bool (decide (x.kind = 2)))] (by kernel_rfl) ?_
   refine OI_end rfl ?_
   refine X_then ?_
   refine V_if (x.kind = 2) (by kernel_rfl) (fun hc15 => ?_) (fun hc15 => ?_)
   ·
    refine V_seq ?_
    refine V_region ?_
    refine OI_static 1 [(1, pt b1), (31, .pointer (some ⟨b1, 1, none⟩))] (by kernel_rfl) ?_
    refine OI_cell 4 (.tmp 31) 1 (.bool x.aye) (some 32) (by kernel_rfl) (by kernel_rfl) hb1 (m := 1) (by kernel_rfl) rfl ?_
    refine OI_static 4 [(1, pt b1), (34, .bool (!x.aye))] (by kernel_rfl) ?_
    cases hg16 : (!x.aye)
    ·
     refine OI_eq [(1, pt b1), (34, .bool false)] (by first | rfl | rw [hg16]) ?_
     refine OI_static 14 [(2, .bool false)] (by kernel_rfl) ?_
     refine OI_end rfl ?_
     refine X_then ?_
     refine V_ret ?_
     refine X_ret_block ?_
     refine X_ret_then ?_
     exact X_return (.bool false) rfl ⟨by congr 2; first | (apply Eq.symm; simp only [decide_eq_true_eq, decide_eq_false_iff_not]; unfold okV; simp_all <;> omega) | (rw [decide_eq_decide]; unfold okV; simp_all <;> omega), hK0⟩
    ·
     refine OI_eq [(1, pt b1), (34, .bool true)] (by first | rfl | rw [hg16]) ?_
     refine OI_static 5 [(1, pt b1), (34, .bool true), (35, .pointer (some ⟨b1, 2, none⟩))] (by kernel_rfl) ?_
     refine OI_cell 3 (.tmp 35) 2 (nt x.level) (some 36) (by kernel_rfl) (by kernel_rfl) hb1 (m := 1) (by kernel_rfl) rfl ?_
     refine OI_static 9 [(1, pt b1), (39, .bool (decide (x.level = 0)))] (by kernel_rfl) ?_
     by_cases hg17 : x.level = 0
     ·
      refine OI_eq [(1, pt b1), (39, .bool true)] (by first | simp [hg17] | rfl) ?_
      refine OI_static 10 [(39, .bool true), (40, .pointer (some ⟨b1, 5, none⟩))] (by kernel_rfl) ?_
      refine OI_cell 3 (.tmp 40) 5 (nt x.s) (some 41) (by kernel_rfl) (by kernel_rfl) hb1 (m := 1) (by kernel_rfl) rfl ?_
      refine OI_static 14 [(2, .bool (decide (x.s = 0)))] (by kernel_rfl) ?_
      refine OI_end rfl ?_
      refine X_then ?_
      refine V_ret ?_
      refine X_ret_block ?_
      refine X_ret_then ?_
      exact X_return (.bool (decide (x.s = 0))) rfl ⟨by congr 2; first | (apply Eq.symm; simp only [decide_eq_true_eq, decide_eq_false_iff_not]; unfold okV; simp_all <;> omega) | (rw [decide_eq_decide]; unfold okV; simp_all <;> omega), hK0⟩
     ·
      refine OI_eq [(1, pt b1), (39, .bool false)] (by first | simp [hg17] | rfl) ?_
      refine OI_static 14 [(2, .bool false)] (by kernel_rfl) ?_
      refine OI_end rfl ?_
      refine X_then ?_
      refine V_ret ?_
      refine X_ret_block ?_
      refine X_ret_then ?_
      exact X_return (.bool false) rfl ⟨by congr 2; first | (apply Eq.symm; simp only [decide_eq_true_eq, decide_eq_false_iff_not]; unfold okV; simp_all <;> omega) | (rw [decide_eq_decide]; unfold okV; simp_all <;> omega), hK0⟩
   ·
    refine V_seq ?_
    refine V_region ?_
    refine OI_static 2 [(1, pt b1), (44, .bool (decide (x.kind = 3)))] (by kernel_rfl) ?_
    refine OI_end rfl ?_
    refine X_then ?_
    refine V_if (x.kind = 3) (by kernel_rfl) (fun hc18 => ?_) (fun hc18 => ?_)
    ·
     refine V_seq ?_
     refine V_region ?_
     refine OI_static 1 [(1, pt b1), (46, .pointer (some ⟨b1, 1, none⟩))] (by kernel_rfl) ?_
     refine OI_cell 4 (.tmp 46) 1 (.bool x.aye) (some 47) (by kernel_rfl) (by kernel_rfl) hb1 (m := 1) (by kernel_rfl) rfl ?_
     refine OI_static 4 [(1, pt b1), (49, .bool (!x.aye))] (by kernel_rfl) ?_
     cases hg19 : (!x.aye)
     ·
      refine OI_eq [(1, pt b1), (49, .bool false)] (by first | rfl | rw [hg19]) ?_
      refine OI_static 9 [(2, .bool false)] (by kernel_rfl) ?_
      refine OI_end rfl ?_
      refine X_then ?_
      refine V_ret ?_
      refine X_ret_block ?_
      refine X_ret_then ?_
      exact X_return (.bool false) rfl ⟨by congr 2; first | (apply Eq.symm; simp only [decide_eq_true_eq, decide_eq_false_iff_not]; unfold okV; simp_all <;> omega) | (rw [decide_eq_decide]; unfold okV; simp_all <;> omega), hK0⟩
     ·
      refine OI_eq [(1, pt b1), (49, .bool true)] (by first | rfl | rw [hg19]) ?_
      refine OI_static 5 [(49, .bool true), (50, .pointer (some ⟨b1, 2, none⟩))] (by kernel_rfl) ?_
      refine OI_cell 3 (.tmp 50) 2 (nt x.level) (some 51) (by kernel_rfl) (by kernel_rfl) hb1 (m := 1) (by kernel_rfl) rfl ?_
      refine OI_static 9 [(2, .bool (decide (x.level = 0)))] (by kernel_rfl) ?_
      refine OI_end rfl ?_
      refine X_then ?_
      refine V_ret ?_
      refine X_ret_block ?_
      refine X_ret_then ?_
      exact X_return (.bool (decide (x.level = 0))) rfl ⟨by congr 2; first | (apply Eq.symm; simp only [decide_eq_true_eq, decide_eq_false_iff_not]; unfold okV; simp_all <;> omega) | (rw [decide_eq_decide]; unfold okV; simp_all <;> omega), hK0⟩
    ·
     refine V_skip ?_
     refine X_block ?_
     refine X_then ?_
     refine V_seq ?_
     refine V_region ?_
     refine OI_static 1 [(2, .bool false)] (by kernel_rfl) ?_
     refine OI_end rfl ?_
     refine X_then ?_
     refine V_ret ?_
     exact X_return (.bool false) rfl ⟨by congr 2; first | (apply Eq.symm; simp only [decide_eq_true_eq, decide_eq_false_iff_not]; unfold okV; simp_all <;> omega) | (rw [decide_eq_decide]; unfold okV; simp_all <;> omega), hK0⟩

set_option maxRecDepth 10000 in
theorem cvCapital_spec (x : Vt) (w : World) : Calls Tryz.prog 55 #[.agg x.cells.toArray] w fun e w' => e = .returned (.int .i64 (capI x)) ∧ Keep none_ w w' := by
 have hK0 : Keep none_ w w := Keep.refl _ _
 have hzhK0 := Keep.size hK0
 refine enterV Tryz.func55 rfl [.agg (Vt.cells x).toArray] 11 rfl rfl rfl ?_
 refine V_pick [(0, .agg (Vt.cells x).toArray)] rfl ?_
 refine V_seq ?_
 refine V_region ?_
 refine OI_box 23 (.tmp 0) (.agg (Vt.cells x).toArray) (Vt.cells x) (some 1) (by kernel_rfl) (by kernel_rfl) rfl ?_
 intro b1 w1 e1 hb1 k1 z1
 have hsz2 := Keep.size k1
 replace hK0 := Keep.tr hK0 (Keep.ofNone k1)
 have hb1lt := hb1.lt
 refine OI_static 2 [(1, pt b1)] (by kernel_rfl) ?_
 refine OI_end rfl ?_
 refine X_then ?_
 refine V_seq ?_
 refine V_region ?_
 refine OI_static 1 [(1, pt b1), (3, .pointer (some ⟨b1, 3, none⟩))] (by kernel_rfl) ?_
 refine OI_cell 3 (.tmp 3) 3 (nt x.a) (some 4) (by kernel_rfl) (by kernel_rfl) hb1 (m := 1) (by kernel_rfl) rfl ?_
 refine OI_static 3 [(1, pt b1), (4, nt x.a), (5, .pointer (some ⟨b1, 4, none⟩))] (by kernel_rfl) ?_
 refine OI_cell 3 (.tmp 5) 4 (nt x.n) (some 6) (by kernel_rfl) (by kernel_rfl) hb1 (m := 1) (by kernel_rfl) rfl ?_
 refine OI_static 6 [(7, nt (IntKind.i64.wrap (x.a + x.n))), (8, .pointer (some ⟨b1, 5, none⟩))] (by kernel_rfl) ?_
 refine OI_cell 3 (.tmp 8) 5 (nt x.s) (some 9) (by kernel_rfl) (by kernel_rfl) hb1 (m := 1) (by kernel_rfl) rfl ?_
 refine OI_static 9 [(2, nt (IntKind.i64.wrap ((IntKind.i64.wrap (x.a + x.n)) + x.s)))] (by kernel_rfl) ?_
 refine OI_end rfl ?_
 refine X_then ?_
 refine V_ret ?_
 exact X_return (nt (IntKind.i64.wrap ((IntKind.i64.wrap (x.a + x.n)) + x.s))) rfl ⟨rfl, hK0⟩

set_option maxRecDepth 10000 in
theorem cvVotes_spec (n level : Int) (w : World) : Calls Tryz.prog 51 #[.int .i64 n, .int .i64 level] w fun e w' => e = .returned (.int .i64 (cvVotes n level)) ∧ w' = w := by
 refine enterV Tryz.func51 rfl [nt n, nt level] 12 rfl rfl rfl ?_
 refine V_pick [(0, nt n), (1, nt level)] rfl ?_
 refine V_seq ?_
 refine V_region ?_
 refine OI_static 1 [(0, nt n), (1, nt level)] (by kernel_rfl) ?_
 refine OI_end rfl ?_
 refine X_then ?_
 refine V_seq ?_
 refine V_seq ?_
 refine V_region ?_
 refine OI_static 2 [(0, nt n), (1, nt level), (6, .bool (decide (level = 0)))] (by kernel_rfl) ?_
 refine OI_end rfl ?_
 refine X_then ?_
 refine V_if (level = 0) (by kernel_rfl) (fun hc1 => ?_) (fun hc1 => ?_)
 ·
  refine V_seq ?_
  refine V_region ?_
  refine OI_static 3 [(4, nt (IntKind.i64.wrap (Int.tdiv n 10)))] (by kernel_rfl) ?_
  refine OI_end rfl ?_
  refine X_then ?_
  refine V_ret ?_
  refine X_ret_then ?_
  exact X_return (nt (IntKind.i64.wrap (Int.tdiv n 10))) rfl ⟨by unfold cvVotes; simp [*], rfl⟩
 ·
  refine V_skip ?_
  refine X_then ?_
  refine V_seq ?_
  refine V_region ?_
  refine OI_static 4 [(4, nt (IntKind.i64.wrap (n * level)))] (by kernel_rfl) ?_
  refine OI_end rfl ?_
  refine X_then ?_
  refine V_ret ?_
  exact X_return (nt (IntKind.i64.wrap (n * level))) rfl ⟨by unfold cvVotes; simp [*], rfl⟩

set_option maxRecDepth 10000 in
theorem cvPeriod_0 (n : Int) (w : World) : Calls Tryz.prog 63 #[.int .i64 0, .int .i64 n] w fun e w' => e = .returned (.int .i64 (cvPeriod 0 n)) ∧ w' = w := by
 refine enterV Tryz.func63 rfl [nt 0, nt n] 11 rfl rfl rfl ?_
 refine V_pick [(0, nt 0), (1, nt n)] rfl ?_
 refine V_seq ?_
 refine V_region ?_
 refine OI_static 1 [(0, nt 0), (1, nt n)] (by kernel_rfl) ?_
 refine OI_end rfl ?_
 refine X_then ?_
 refine V_seq ?_
 refine V_seq ?_
 refine V_region ?_
 refine OI_static 2 [(0, nt 0), (1, nt n), (6, .bool true)] (by kernel_rfl) ?_
 refine OI_end rfl ?_
 refine X_then ?_
 refine V_true rfl ?_
 refine V_seq ?_
 refine V_region ?_
 refine OI_static 1 [(4, nt 0)] (by kernel_rfl) ?_
 refine OI_end rfl ?_
 refine X_then ?_
 refine V_ret ?_
 refine X_ret_then ?_
 exact X_return (nt 0) rfl ⟨rfl, rfl⟩

set_option maxRecDepth 10000 in
theorem cvPeriod_1 (n : Int) (w : World) : Calls Tryz.prog 63 #[.int .i64 1, .int .i64 n] w fun e w' => e = .returned (.int .i64 (cvPeriod 1 n)) ∧ w' = w := by
 refine enterV Tryz.func63 rfl [nt 1, nt n] 11 rfl rfl rfl ?_
 refine V_pick [(0, nt 1), (1, nt n)] rfl ?_
 refine V_seq ?_
 refine V_region ?_
 refine OI_static 1 [(0, nt 1), (1, nt n)] (by kernel_rfl) ?_
 refine OI_end rfl ?_
 refine X_then ?_
 refine V_seq ?_
 refine V_seq ?_
 refine V_region ?_
 refine OI_static 2 [(0, nt 1), (1, nt n), (6, .bool false)] (by kernel_rfl) ?_
 refine OI_end rfl ?_
 refine X_then ?_
 refine V_false rfl ?_
 refine V_skip ?_
 refine X_then ?_
 refine V_seq ?_
 refine V_region ?_
 refine OI_static 5 [(4, nt (IntKind.i64.wrap (n * 2 ^ 0)))] (by kernel_rfl) ?_
 refine OI_end rfl ?_
 refine X_then ?_
 refine V_ret ?_
 exact X_return (nt (IntKind.i64.wrap (n * 2 ^ 0))) rfl ⟨rfl, rfl⟩

set_option maxRecDepth 10000 in
theorem cvPeriod_2 (n : Int) (w : World) : Calls Tryz.prog 63 #[.int .i64 2, .int .i64 n] w fun e w' => e = .returned (.int .i64 (cvPeriod 2 n)) ∧ w' = w := by
 refine enterV Tryz.func63 rfl [nt 2, nt n] 11 rfl rfl rfl ?_
 refine V_pick [(0, nt 2), (1, nt n)] rfl ?_
 refine V_seq ?_
 refine V_region ?_
 refine OI_static 1 [(0, nt 2), (1, nt n)] (by kernel_rfl) ?_
 refine OI_end rfl ?_
 refine X_then ?_
 refine V_seq ?_
 refine V_seq ?_
 refine V_region ?_
 refine OI_static 2 [(0, nt 2), (1, nt n), (6, .bool false)] (by kernel_rfl) ?_
 refine OI_end rfl ?_
 refine X_then ?_
 refine V_false rfl ?_
 refine V_skip ?_
 refine X_then ?_
 refine V_seq ?_
 refine V_region ?_
 refine OI_static 5 [(4, nt (IntKind.i64.wrap (n * 2 ^ 1)))] (by kernel_rfl) ?_
 refine OI_end rfl ?_
 refine X_then ?_
 refine V_ret ?_
 exact X_return (nt (IntKind.i64.wrap (n * 2 ^ 1))) rfl ⟨rfl, rfl⟩

set_option maxRecDepth 10000 in
theorem cvPeriod_3 (n : Int) (w : World) : Calls Tryz.prog 63 #[.int .i64 3, .int .i64 n] w fun e w' => e = .returned (.int .i64 (cvPeriod 3 n)) ∧ w' = w := by
 refine enterV Tryz.func63 rfl [nt 3, nt n] 11 rfl rfl rfl ?_
 refine V_pick [(0, nt 3), (1, nt n)] rfl ?_
 refine V_seq ?_
 refine V_region ?_
 refine OI_static 1 [(0, nt 3), (1, nt n)] (by kernel_rfl) ?_
 refine OI_end rfl ?_
 refine X_then ?_
 refine V_seq ?_
 refine V_seq ?_
 refine V_region ?_
 refine OI_static 2 [(0, nt 3), (1, nt n), (6, .bool false)] (by kernel_rfl) ?_
 refine OI_end rfl ?_
 refine X_then ?_
 refine V_false rfl ?_
 refine V_skip ?_
 refine X_then ?_
 refine V_seq ?_
 refine V_region ?_
 refine OI_static 5 [(4, nt (IntKind.i64.wrap (n * 2 ^ 2)))] (by kernel_rfl) ?_
 refine OI_end rfl ?_
 refine X_then ?_
 refine V_ret ?_
 exact X_return (nt (IntKind.i64.wrap (n * 2 ^ 2))) rfl ⟨rfl, rfl⟩

set_option maxRecDepth 10000 in
theorem cvPeriod_4 (n : Int) (w : World) : Calls Tryz.prog 63 #[.int .i64 4, .int .i64 n] w fun e w' => e = .returned (.int .i64 (cvPeriod 4 n)) ∧ w' = w := by
 refine enterV Tryz.func63 rfl [nt 4, nt n] 11 rfl rfl rfl ?_
 refine V_pick [(0, nt 4), (1, nt n)] rfl ?_
 refine V_seq ?_
 refine V_region ?_
 refine OI_static 1 [(0, nt 4), (1, nt n)] (by kernel_rfl) ?_
 refine OI_end rfl ?_
 refine X_then ?_
 refine V_seq ?_
 refine V_seq ?_
 refine V_region ?_
 refine OI_static 2 [(0, nt 4), (1, nt n), (6, .bool false)] (by kernel_rfl) ?_
 refine OI_end rfl ?_
 refine X_then ?_
 refine V_false rfl ?_
 refine V_skip ?_
 refine X_then ?_
 refine V_seq ?_
 refine V_region ?_
 refine OI_static 5 [(4, nt (IntKind.i64.wrap (n * 2 ^ 3)))] (by kernel_rfl) ?_
 refine OI_end rfl ?_
 refine X_then ?_
 refine V_ret ?_
 exact X_return (nt (IntKind.i64.wrap (n * 2 ^ 3))) rfl ⟨rfl, rfl⟩

set_option maxRecDepth 10000 in
theorem cvPeriod_5 (n : Int) (w : World) : Calls Tryz.prog 63 #[.int .i64 5, .int .i64 n] w fun e w' => e = .returned (.int .i64 (cvPeriod 5 n)) ∧ w' = w := by
 refine enterV Tryz.func63 rfl [nt 5, nt n] 11 rfl rfl rfl ?_
 refine V_pick [(0, nt 5), (1, nt n)] rfl ?_
 refine V_seq ?_
 refine V_region ?_
 refine OI_static 1 [(0, nt 5), (1, nt n)] (by kernel_rfl) ?_
 refine OI_end rfl ?_
 refine X_then ?_
 refine V_seq ?_
 refine V_seq ?_
 refine V_region ?_
 refine OI_static 2 [(0, nt 5), (1, nt n), (6, .bool false)] (by kernel_rfl) ?_
 refine OI_end rfl ?_
 refine X_then ?_
 refine V_false rfl ?_
 refine V_skip ?_
 refine X_then ?_
 refine V_seq ?_
 refine V_region ?_
 refine OI_static 5 [(4, nt (IntKind.i64.wrap (n * 2 ^ 4)))] (by kernel_rfl) ?_
 refine OI_end rfl ?_
 refine X_then ?_
 refine V_ret ?_
 exact X_return (nt (IntKind.i64.wrap (n * 2 ^ 4))) rfl ⟨rfl, rfl⟩

set_option maxRecDepth 10000 in
theorem cvPeriod_6 (n : Int) (w : World) : Calls Tryz.prog 63 #[.int .i64 6, .int .i64 n] w fun e w' => e = .returned (.int .i64 (cvPeriod 6 n)) ∧ w' = w := by
 refine enterV Tryz.func63 rfl [nt 6, nt n] 11 rfl rfl rfl ?_
 refine V_pick [(0, nt 6), (1, nt n)] rfl ?_
 refine V_seq ?_
 refine V_region ?_
 refine OI_static 1 [(0, nt 6), (1, nt n)] (by kernel_rfl) ?_
 refine OI_end rfl ?_
 refine X_then ?_
 refine V_seq ?_
 refine V_seq ?_
 refine V_region ?_
 refine OI_static 2 [(0, nt 6), (1, nt n), (6, .bool false)] (by kernel_rfl) ?_
 refine OI_end rfl ?_
 refine X_then ?_
 refine V_false rfl ?_
 refine V_skip ?_
 refine X_then ?_
 refine V_seq ?_
 refine V_region ?_
 refine OI_static 5 [(4, nt (IntKind.i64.wrap (n * 2 ^ 5)))] (by kernel_rfl) ?_
 refine OI_end rfl ?_
 refine X_then ?_
 refine V_ret ?_
 exact X_return (nt (IntKind.i64.wrap (n * 2 ^ 5))) rfl ⟨rfl, rfl⟩

theorem cvPeriod_spec (level n : Int) (w : World) (h : 0 ≤ level ∧ level ≤ 6) : Calls Tryz.prog 63 #[.int .i64 level, .int .i64 n] w fun e w' => e = .returned (.int .i64 (cvPeriod level n)) ∧ w' = w := by
  rcases (by omega : level = 0 ∨ level = 1 ∨ level = 2 ∨ level = 3 ∨ level = 4 ∨ level = 5 ∨ level = 6) with rfl | rfl | rfl | rfl | rfl | rfl | rfl
  · exact cvPeriod_0 n w
  · exact cvPeriod_1 n w
  · exact cvPeriod_2 n w
  · exact cvPeriod_3 n w
  · exact cvPeriod_4 n w
  · exact cvPeriod_5 n w
  · exact cvPeriod_6 n w

set_option maxRecDepth 10000 in
theorem cvGain_spec (x : Vt) (g : Wgt) (w : World) : Calls Tryz.prog 57 #[.agg x.cells.toArray, .agg g.cells.toArray] w fun e w' => e = .returned (.agg (gainT x g).cells.toArray) ∧ Keep none_ w w' := by
 have hK0 : Keep none_ w w := Keep.refl _ _
 have hzhK0 := Keep.size hK0
 refine enterM Tryz.func57 rfl [.agg (Vt.cells x).toArray, .agg (Wgt.cells g).toArray] 40 rfl rfl rfl ?_
 refine V_pick [(0, .agg (Vt.cells x).toArray), (1, .agg (Wgt.cells g).toArray)] rfl ?_
 refine V_seq ?_
 refine V_region ?_
 refine OI_box 23 (.tmp 0) (.agg (Vt.cells x).toArray) (Vt.cells x) (some 2) (by kernel_rfl) (by kernel_rfl) rfl ?_
 intro b1 w1 e1 hb1 k1 z1
 have hsz2 := Keep.size k1
 replace hK0 := Keep.tr hK0 (Keep.ofNone k1)
 have hb1lt := hb1.lt
 refine OI_box 54 (.tmp 1) (.agg (Wgt.cells g).toArray) (Wgt.cells g) (some 3) (by kernel_rfl) (by kernel_rfl) rfl ?_
 intro b3 w3 e3 hb3 k3 z3
 have hsz4 := Keep.size k3
 replace hb1 := hb1.keep k3 (fun f => f)
 replace hK0 := Keep.tr hK0 (Keep.ofNone k3)
 have hb3lt := hb3.lt
 refine OI_alloc 43 (.agg #[nt 0, nt 0, nt 0]) [nt 0, nt 0, nt 0] (some 4) (by kernel_rfl) (by kernel_rfl) (by kernel_rfl) ?_
 intro b5 w5 e5 hb5 k5 z5
 have hsz6 := Keep.size k5
 replace hb1 := hb1.keep k5 (fun f => f)
 replace hb3 := hb3.keep k5 (fun f => f)
 replace hK0 := Keep.tr hK0 (Keep.ofNone k5)
 have hb5lt := hb5.lt
 refine OI_end rfl ?_
 refine X_then ?_
 refine V_seq ?_
 refine V_seq ?_
 refine V_region ?_
 refine OI_static 1 [(2, pt b1), (3, pt b3), (4, pt b5), (6, pt b1)] (by kernel_rfl) ?_
 refine OI_cell 3 (.tmp 6) 0 (nt x.kind) (some 7) (by kernel_rfl) (by kernel_rfl) hb1 (m := 1) (by kernel_rfl) rfl ?_
 refine OI_static 3 [(2, pt b1), (3, pt b3), (4, pt b5), (8, .bool (!(decide (x.kind = 1))))] (by kernel_rfl) ?_
 refine OI_end rfl ?_
 refine X_then ?_
 refine V_not (x.kind = 1) (by kernel_rfl) (fun hc7 => ?_) (fun hc7 => ?_)
 ·
  refine V_seq ?_
  refine V_draws (acts [2, 5, 12]) none_ [[0, 1, 2, 3, 4, 5, 6, 7, 8, 9, 10, 11, 12]] (by kernel_rfl) (by repeat first | exact (by first | exact sure_postM | exact sure_rQ2 | exact sure_no) | refine sure_then ?_ | refine sure_block ?_ | refine sure_join ?_) (by kernel_rfl) ?_
  intro w9 hk8 he10 L hL11
  have hsz12 := Keep.size hk8
  replace hb1 := hb1.keep hk8 (fun f => f)
  replace hb3 := hb3.keep hk8 (fun f => f)
  replace hb5 := hb5.keep hk8 (fun f => f)
  replace hK0 := Keep.tr hK0 (Keep.ofNone hk8)
  have qhb1 := hb1
  have qhb3 := hb3
  have qhb5 := hb5
  have K13 : Keep none_ w9 w9 := Keep.refl _ _
  obtain rfl := List.mem_singleton.1 hL11
  refine GI_static [1, 2, 3, 4, 5, 6, 7, 8, 9, 10, 11, 12] [(2, pt b1), (4, pt b5), (9, .pointer (some ⟨b1, 3, none⟩))] (by kernel_rfl) ?_
  refine GI_cell 3 (.tmp 9) 3 (nt x.a) (some 10) (by kernel_rfl) (by kernel_rfl) (by kernel_rfl) qhb1 (fun f => f) (m := 1) (by kernel_rfl) rfl ?_
  refine GI_call { callee := (Callee.value (Operand.func 51)), args := #[(Operand.tmp 10), (Operand.const (Value.int IntKind.i64 0))], argTypes := #[3, 3] } 51 #[nt x.a, nt 0] (some 11) (by kernel_rfl) (by kernel_rfl) (by kernel_rfl) (by kernel_rfl) (cvVotes_spec x.a 0 _) ?_
  rintro _ w9 ⟨rfl, rfl⟩
  refine ⟨_, rfl, K13, ?_⟩
  refine GI_static [4, 5, 6, 7, 8, 9, 10, 11, 12] [(2, pt b1), (4, pt b5), (11, nt (cvVotes x.a 0)), (12, .pointer (some ⟨b1, 4, none⟩))] (by kernel_rfl) ?_
  refine GI_cell 3 (.tmp 12) 4 (nt x.n) (some 13) (by kernel_rfl) (by kernel_rfl) (by kernel_rfl) qhb1 (fun f => f) (m := 1) (by kernel_rfl) rfl ?_
  refine GI_call { callee := (Callee.value (Operand.func 51)), args := #[(Operand.tmp 13), (Operand.const (Value.int IntKind.i64 0))], argTypes := #[3, 3] } 51 #[nt x.n, nt 0] (some 14) (by kernel_rfl) (by kernel_rfl) (by kernel_rfl) (by kernel_rfl) (cvVotes_spec x.n 0 _) ?_
  rintro _ w9 ⟨rfl, rfl⟩
  refine ⟨_, rfl, K13, ?_⟩
  refine GI_static [7, 8, 9, 10, 11, 12] [(2, pt b1), (4, pt b5), (11, nt (cvVotes x.a 0)), (14, nt (cvVotes x.n 0)), (15, .pointer (some ⟨b1, 3, none⟩))] (by kernel_rfl) ?_
  refine GI_cell 3 (.tmp 15) 3 (nt x.a) (some 16) (by kernel_rfl) (by kernel_rfl) (by kernel_rfl) qhb1 (fun f => f) (m := 1) (by kernel_rfl) rfl ?_
  refine GI_static [9, 10, 11, 12] [(4, pt b5), (11, nt (cvVotes x.a 0)), (14, nt (cvVotes x.n 0)), (16, nt x.a), (17, .pointer (some ⟨b1, 5, none⟩))] (by kernel_rfl) ?_
  refine GI_cell 3 (.tmp 17) 5 (nt x.s) (some 18) (by kernel_rfl) (by kernel_rfl) (by kernel_rfl) qhb1 (fun f => f) (m := 1) (by kernel_rfl) rfl ?_
  refine GI_static [12] [(4, pt b5), (20, .agg #[nt (cvVotes x.a 0), nt (cvVotes x.n 0), nt (IntKind.i64.wrap (x.a + x.s))])] (by kernel_rfl) ?_
  refine GI_final 12 (by kernel_rfl) (by kernel_rfl) ?_
  refine OI_set (m := 3) (kd := true) 43 (.tmp 4) (.tmp 20) 0 (.agg #[nt (cvVotes x.a 0), nt (cvVotes x.n 0), nt (IntKind.i64.wrap (x.a + x.s))]) [nt (cvVotes x.a 0), nt (cvVotes x.n 0), nt (IntKind.i64.wrap (x.a + x.s))] none (by kernel_rfl) (by kernel_rfl) (by kernel_rfl) hb5 (by kernel_rfl) (by kernel_rfl) (by kernel_rfl) (Nat.le_of_ble_eq_true (by kernel_rfl)) (by simp [Value.oneCell']) ?_
  intro w20 hb5_23 hk21 hz22
  replace hb5_23 : Blk w20 b5 [nt (cvVotes x.a 0), nt (cvVotes x.n 0), nt (IntKind.i64.wrap (x.a + x.s))] 43 := hb5_23
  have hsz24 := Keep.size hk21
  replace hb1 := hb1.keep hk21 (by show ¬ (_ = _); omega)
  replace hb3 := hb3.keep hk21 (by show ¬ (_ = _); omega)
  replace hK0 := Keep.fresh hK0 hk21 (by intro i hi hs; first | exact hs | exact Or.inl hs | exact Or.inr hs | (exfalso; have hs2 : i = b5 := hs; omega))
  refine OI_end rfl ?_
  refine X_then ?_
  refine V_ret ?_
  refine X_ret_then ?_
  exact leave0 (.agg [nt (cvVotes x.a 0), nt (cvVotes x.n 0), nt (IntKind.i64.wrap (x.a + x.s))].toArray) (.inl rfl) (res_agg1 (m := 3) rfl rfl (by kernel_rfl) hb5_23 rfl) ⟨by unfold gainT; simp_all [Tly.cells], hK0⟩
 ·
  refine V_skip ?_
  refine X_then ?_
  refine V_seq ?_
  refine V_draws (acts [4]) none_ [[0, 1, 2, 3, 4, 5, 6, 7, 8]] (by kernel_rfl) (by repeat first | exact (by first | exact sure_postM | exact sure_rQ2 | exact sure_no) | refine sure_then ?_ | refine sure_block ?_ | refine sure_join ?_) (by kernel_rfl) ?_
  intro w26 hk25 he27 L hL28
  have hsz29 := Keep.size hk25
  replace hb1 := hb1.keep hk25 (fun f => f)
  replace hb3 := hb3.keep hk25 (fun f => f)
  replace hb5 := hb5.keep hk25 (fun f => f)
  replace hK0 := Keep.tr hK0 (Keep.ofNone hk25)
  have qhb1 := hb1
  have qhb3 := hb3
  have qhb5 := hb5
  have K30 : Keep none_ w26 w26 := Keep.refl _ _
  obtain rfl := List.mem_singleton.1 hL28
  refine GI_static [1, 2, 3, 4, 5, 6, 7, 8] [(2, pt b1), (3, pt b3), (4, pt b5), (21, .pointer (some ⟨b1, 3, none⟩))] (by kernel_rfl) ?_
  refine GI_cell 3 (.tmp 21) 3 (nt x.a) (some 22) (by kernel_rfl) (by kernel_rfl) (by kernel_rfl) qhb1 (fun f => f) (m := 1) (by kernel_rfl) rfl ?_
  refine GI_static [3, 4, 5, 6, 7, 8] [(2, pt b1), (3, pt b3), (4, pt b5), (22, nt x.a), (23, .pointer (some ⟨b1, 2, none⟩))] (by kernel_rfl) ?_
  refine GI_cell 3 (.tmp 23) 2 (nt x.level) (some 24) (by kernel_rfl) (by kernel_rfl) (by kernel_rfl) qhb1 (fun f => f) (m := 1) (by kernel_rfl) rfl ?_
  refine GI_call { callee := (Callee.value (Operand.func 51)), args := #[(Operand.tmp 22), (Operand.tmp 24)], argTypes := #[3, 3] } 51 #[nt x.a, nt x.level] (some 25) (by kernel_rfl) (by kernel_rfl) (by kernel_rfl) (by kernel_rfl) (cvVotes_spec x.a x.level _) ?_
  rintro _ w26 ⟨rfl, rfl⟩
  refine ⟨_, rfl, K30, ?_⟩
  refine GI_static [6, 7, 8] [(2, pt b1), (3, pt b3), (4, pt b5), (25, nt (cvVotes x.a x.level)), (26, pt b3)] (by kernel_rfl) ?_
  refine GI_cell 3 (.tmp 26) 0 (nt g.v) (some 27) (by kernel_rfl) (by kernel_rfl) (by kernel_rfl) qhb3 (fun f => f) (m := 1) (by kernel_rfl) rfl ?_
  refine GI_static [] [(2, pt b1), (3, pt b3), (4, pt b5), (5, nt (IntKind.i64.wrap ((cvVotes x.a x.level) + g.v)))] (by kernel_rfl) ?_
  refine GI_end ?_
  refine X_then ?_
  refine V_seq ?_
  refine V_seq ?_
  refine V_region ?_
  refine OI_static 1 [(2, pt b1), (3, pt b3), (4, pt b5), (5, nt (IntKind.i64.wrap ((cvVotes x.a x.level) + g.v))), (29, .pointer (some ⟨b1, 1, none⟩))] (by kernel_rfl) ?_
  refine OI_cell 4 (.tmp 29) 1 (.bool x.aye) (some 30) (by kernel_rfl) (by kernel_rfl) hb1 (m := 1) (by kernel_rfl) rfl ?_
  refine OI_end rfl ?_
  refine X_then ?_
  refine V_ifb (x.aye) (by kernel_rfl) (fun hc34 => ?_) (fun hc34 => ?_)
  ·
   refine V_seq ?_
   refine V_region ?_
   refine OI_static 2 [(3, pt b3), (4, pt b5), (31, nt (IntKind.i64.wrap ((cvVotes x.a x.level) + g.v))), (32, .pointer (some ⟨b1, 3, none⟩))] (by kernel_rfl) ?_
   refine OI_cell 3 (.tmp 32) 3 (nt x.a) (some 33) (by kernel_rfl) (by kernel_rfl) hb1 (m := 1) (by kernel_rfl) rfl ?_
   refine OI_static 4 [(4, pt b5), (31, nt (IntKind.i64.wrap ((cvVotes x.a x.level) + g.v))), (33, nt x.a), (34, .pointer (some ⟨b3, 1, none⟩))] (by kernel_rfl) ?_
   refine OI_cell 3 (.tmp 34) 1 (nt g.c) (some 35) (by kernel_rfl) (by kernel_rfl) hb3 (m := 1) (by kernel_rfl) rfl ?_
   refine OI_static 7 [(4, pt b5), (37, .agg #[nt (IntKind.i64.wrap ((cvVotes x.a x.level) + g.v)), nt 0, nt (IntKind.i64.wrap (x.a + g.c))])] (by kernel_rfl) ?_
   refine OI_set (m := 3) (kd := true) 43 (.tmp 4) (.tmp 37) 0 (.agg #[nt (IntKind.i64.wrap ((cvVotes x.a x.level) + g.v)), nt 0, nt (IntKind.i64.wrap (x.a + g.c))]) [nt (IntKind.i64.wrap ((cvVotes x.a x.level) + g.v)), nt 0, nt (IntKind.i64.wrap (x.a + g.c))] none (by kernel_rfl) (by kernel_rfl) (by kernel_rfl) hb5 (by kernel_rfl) (by kernel_rfl) (by kernel_rfl) (Nat.le_of_ble_eq_true (by kernel_rfl)) (by simp [Value.oneCell']) ?_
   intro w35 hb5_38 hk36 hz37
   replace hb5_38 : Blk w35 b5 [nt (IntKind.i64.wrap ((cvVotes x.a x.level) + g.v)), nt 0, nt (IntKind.i64.wrap (x.a + g.c))] 43 := hb5_38
   have hsz39 := Keep.size hk36
   replace hb1 := hb1.keep hk36 (by show ¬ (_ = _); omega)
   replace hb3 := hb3.keep hk36 (by show ¬ (_ = _); omega)
   replace hK0 := Keep.fresh hK0 hk36 (by intro i hi hs; first | exact hs | exact Or.inl hs | exact Or.inr hs | (exfalso; have hs2 : i = b5 := hs; omega))
   refine OI_end rfl ?_
   refine X_then ?_
   refine V_ret ?_
   refine X_ret_then ?_
   exact leave0 (.agg [nt (IntKind.i64.wrap ((cvVotes x.a x.level) + g.v)), nt 0, nt (IntKind.i64.wrap (x.a + g.c))].toArray) (.inl rfl) (res_agg1 (m := 3) rfl rfl (by kernel_rfl) hb5_38 rfl) ⟨by unfold gainT; simp_all [Tly.cells], hK0⟩
  ·
   refine V_skip ?_
   refine X_then ?_
   refine V_seq ?_
   refine V_region ?_
   refine OI_static 2 [(4, pt b5), (39, .agg #[nt 0, nt (IntKind.i64.wrap ((cvVotes x.a x.level) + g.v)), nt 0])] (by kernel_rfl) ?_
   refine OI_set (m := 3) (kd := true) 43 (.tmp 4) (.tmp 39) 0 (.agg #[nt 0, nt (IntKind.i64.wrap ((cvVotes x.a x.level) + g.v)), nt 0]) [nt 0, nt (IntKind.i64.wrap ((cvVotes x.a x.level) + g.v)), nt 0] none (by kernel_rfl) (by kernel_rfl) (by kernel_rfl) hb5 (by kernel_rfl) (by kernel_rfl) (by kernel_rfl) (Nat.le_of_ble_eq_true (by kernel_rfl)) (by simp [Value.oneCell']) ?_
   intro w40 hb5_43 hk41 hz42
   replace hb5_43 : Blk w40 b5 [nt 0, nt (IntKind.i64.wrap ((cvVotes x.a x.level) + g.v)), nt 0] 43 := hb5_43
   have hsz44 := Keep.size hk41
   replace hb1 := hb1.keep hk41 (by show ¬ (_ = _); omega)
   replace hb3 := hb3.keep hk41 (by show ¬ (_ = _); omega)
   replace hK0 := Keep.fresh hK0 hk41 (by intro i hi hs; first | exact hs | exact Or.inl hs | exact Or.inr hs | (exfalso; have hs2 : i = b5 := hs; omega))
   refine OI_end rfl ?_
   refine X_then ?_
   refine V_ret ?_
   exact leave0 (.agg [nt 0, nt (IntKind.i64.wrap ((cvVotes x.a x.level) + g.v)), nt 0].toArray) (.inl rfl) (res_agg1 (m := 3) rfl rfl (by kernel_rfl) hb5_43 rfl) ⟨by unfold gainT; simp_all [Tly.cells], hK0⟩

set_option maxRecDepth 10000 in
theorem cvAdd_spec (A : Option Addr) (cap : Nat) (t : Tly) (xs : List Tly) (w : World) (hA : SlT w 3 Tly.cells A cap xs) (hn : xs.length ≤ 1000) : Calls Tryz.prog 58 #[.agg t.cells.toArray, .slice A xs.length cap] w fun e w' => e = .returned (.agg (addL t xs).cells.toArray) ∧ Keep none_ w w' := by
 have hAlt := SlT.lt hA
 have hK0 : Keep none_ w w := Keep.refl _ _
 have hzhK0 := Keep.size hK0
 refine enterM Tryz.func58 rfl [.agg (Tly.cells t).toArray, .slice A xs.length cap] 33 rfl rfl rfl ?_
 refine V_pick [(0, .agg (Tly.cells t).toArray), (1, .slice A xs.length cap)] rfl ?_
 refine V_seq ?_
 refine V_region ?_
 refine OI_box 43 (.tmp 0) (.agg (Tly.cells t).toArray) (Tly.cells t) (some 2) (by kernel_rfl) (by kernel_rfl) rfl ?_
 intro b1 w1 e1 hb1 k1 z1
 have hsz2 := Keep.size k1
 replace hA := SlT.keep0 hA k1
 replace hK0 := Keep.tr hK0 (Keep.ofNone k1)
 have hb1lt := hb1.lt
 refine OI_alloc 43 (.agg #[nt 0, nt 0, nt 0]) [nt 0, nt 0, nt 0] (some 4) (by kernel_rfl) (by kernel_rfl) (by kernel_rfl) ?_
 intro b3 w3 e3 hb3 k3 z3
 have hsz4 := Keep.size k3
 replace hb1 := hb1.keep k3 (fun f => f)
 replace hA := SlT.keep0 hA k3
 replace hK0 := Keep.tr hK0 (Keep.ofNone k3)
 have hb3lt := hb3.lt
 refine OI_end rfl ?_
 refine X_then ?_
 refine V_seq ?_
 refine V_seq ?_
 refine V_region ?_
 refine OI_static 3 [(2, pt b1), (4, pt b3), (7, .slice A xs.length cap), (8, nt ((xs.length : Nat) : Int)), (9, nt 0)] (by kernel_rfl) ?_
 refine OI_end rfl ?_
 refine X_then ?_
 refine V_block ?_
 refine V_pick [(2, pt b1), (4, pt b3), (7, .slice A xs.length cap), (8, nt ((xs.length : Nat) : Int)), (9, nt 0)] rfl ?_
 refine V_loop (fun k wI e => ∃ i : Nat, (k + i = xs.length) ∧ (Blk wI b1 [nt ((addL t (xs.take i)).a), nt ((addL t (xs.take i)).n), nt ((addL t (xs.take i)).s)] 43) ∧ Keep (only b1) w3 wI ∧ e = [(2, pt b1), (4, pt b3), (7, .slice A xs.length cap), (8, nt ((xs.length : Nat) : Int)), (9, nt ((i : Nat) : Int))]) xs.length ⟨0, by omega, hb1, Keep.refl _ _, rfl⟩ ?_
 rintro k6 w5 _ ⟨i, hki, hb2, hk7, rfl⟩
 have hsz8 := Keep.size hk7
 replace hb3 := hb3.keep hk7 (by show ¬ (_ = _); omega)
 replace hA := SlT.keep hA hk7 (fun q hq hs => by have hs : q = b1 := hs; have g1 := hAlt q hq; omega)
 replace hK0 := Keep.fresh hK0 hk7 (by intro i hi hs; first | exact hs | exact Or.inl hs | exact Or.inr hs | (exfalso; have hs2 : i = b1 := hs; omega))
 have hzhk7 := Keep.size hk7
 have hb1lt := hb2.lt
 refine V_seq ?_
 refine V_region ?_
 refine OI_static 1 [(2, pt b1), (4, pt b3), (7, .slice A xs.length cap), (8, nt ((xs.length : Nat) : Int)), (9, nt ((i : Nat) : Int)), (10, .bool (decide (((i : Nat) : Int) < ((xs.length : Nat) : Int))))] (by kernel_rfl) ?_
 refine OI_end rfl ?_
 refine X_then ?_
 refine V_seq ?_
 refine V_if (((i : Nat) : Int) < ((xs.length : Nat) : Int)) (by kernel_rfl) (fun hc9 => ?_) (fun hc9 => ?_)
 ·
  refine V_skip ?_
  refine X_then ?_
  refine V_seq ?_
  refine V_block ?_
  refine V_seq ?_
  refine V_region ?_
  obtain ⟨b10, o10, L10, T10, rfl, hat10⟩ := SlT.open_ hA (by first | omega | (simp only [List.length_map]; omega) | (simp; done) | (simp; omega))
  have hb10lt := hat10.blk.lt
  have hob11 := hAlt b10 ⟨_, rfl, rfl⟩
  refine OI_pure (some 11) (.indexAddr 153 (.tmp 7) (.tmp 9)) (by kernel_rfl) (pure_idxN (b := b10) (o := o10) (len := xs.length) (cap := cap) (kd := .i64) (j := i) (E := 43) (sz := 3) (by_ := 24) (by kernel_rfl) (by kernel_rfl) (by kernel_rfl) (by omega)) ?_
  obtain ⟨x12, hx13⟩ : ∃ x, xs[i]? = some x := ⟨_, List.getElem?_eq_getElem (by first | omega | (simp only [List.length_map]; omega))⟩
  refine OI_agg 43 (.tmp 11) (o10 + i * 3) (Tly.cells x12) (some 12) (by kernel_rfl) (by kernel_rfl) hat10.blk (m := 3) (by kernel_rfl) (At.elem' hat10 (es_at hx13)) (At.len hat10 (es_at hx13)) ?_
  refine OI_alloc 43 (.agg #[nt 0, nt 0, nt 0]) [nt 0, nt 0, nt 0] (some 6) (by kernel_rfl) (by kernel_rfl) (by kernel_rfl) ?_
  intro b14 w14 e14 hb14 k14 z14
  have hsz15 := Keep.size k14
  replace hb2 := hb2.keep k14 (fun f => f)
  replace hb3 := hb3.keep k14 (fun f => f)
  replace hat10 := hat10.keep k14 (fun f => f)
  replace hK0 := Keep.tr hK0 (Keep.ofNone k14)
  replace hk7 := Keep.tr hk7 (Keep.ofNone k14)
  have hb14lt := hb14.lt
  refine OI_set (m := 3) (kd := true) 43 (.tmp 6) (.tmp 12) 0 (.agg (Tly.cells x12).toArray) (Tly.cells x12) none (by kernel_rfl) (by kernel_rfl) (by kernel_rfl) hb14 (by kernel_rfl) rfl (Tly.len _) (Nat.le_of_ble_eq_true (by kernel_rfl)) (Tly.one _) ?_
  intro w16 hb14_19 hk17 hz18
  replace hb14_19 : Blk w16 b14 (Tly.cells x12) 43 := (by rwa [over_whole (by rw [Tly.len]; rfl)] at hb14_19)
  have hsz20 := Keep.size hk17
  replace hb2 := hb2.keep hk17 (by show ¬ (_ = _); omega)
  replace hb3 := hb3.keep hk17 (by show ¬ (_ = _); omega)
  replace hat10 := hat10.keep hk17 (by show ¬ (_ = _); omega)
  replace hK0 := Keep.fresh hK0 hk17 (by intro i hi hs; first | exact hs | exact Or.inl hs | exact Or.inr hs | (exfalso; have hs2 : i = b14 := hs; omega))
  replace hk7 := Keep.fresh hk7 hk17 (by intro i hi hs; first | exact hs | exact Or.inl hs | exact Or.inr hs | (exfalso; have hs2 : i = b14 := hs; omega))
  refine OI_end rfl ?_
  refine X_then ?_
  refine V_seq ?_
  refine V_region ?_
  refine OI_static 1 [(2, pt b1), (4, pt b3), (6, pt b14), (7, .slice (some ⟨b10, o10, none⟩) xs.length cap), (8, nt ((xs.length : Nat) : Int)), (9, nt ((i : Nat) : Int)), (13, pt b1)] (by kernel_rfl) ?_
  refine OI_cell 3 (.tmp 13) 0 (nt ((addL t (xs.take i)).a)) (some 14) (by kernel_rfl) (by kernel_rfl) hb2 (m := 1) (by kernel_rfl) rfl ?_
  refine OI_static 3 [(2, pt b1), (4, pt b3), (6, pt b14), (7, .slice (some ⟨b10, o10, none⟩) xs.length cap), (8, nt ((xs.length : Nat) : Int)), (9, nt ((i : Nat) : Int)), (14, nt ((addL t (xs.take i)).a)), (15, pt b14)] (by kernel_rfl) ?_
  refine OI_cell 3 (.tmp 15) 0 (nt x12.a) (some 16) (by kernel_rfl) (by kernel_rfl) hb14_19 (m := 1) (by kernel_rfl) rfl ?_
  refine OI_static 6 [(2, pt b1), (4, pt b3), (6, pt b14), (7, .slice (some ⟨b10, o10, none⟩) xs.length cap), (8, nt ((xs.length : Nat) : Int)), (9, nt ((i : Nat) : Int)), (17, nt (IntKind.i64.wrap (((addL t (xs.take i)).a) + x12.a))), (18, pt b1)] (by kernel_rfl) ?_
  refine OI_set (m := 1) (kd := false) 3 (.tmp 18) (.tmp 17) 0 (nt (IntKind.i64.wrap (((addL t (xs.take i)).a) + x12.a))) [nt (IntKind.i64.wrap (((addL t (xs.take i)).a) + x12.a))] none (by kernel_rfl) (by kernel_rfl) (by kernel_rfl) hb2 (by kernel_rfl) (by kernel_rfl) (by kernel_rfl) (Nat.le_of_ble_eq_true (by kernel_rfl)) (by simp [Value.oneCell']) ?_
  intro w21 hb1_24 hk22 hz23
  replace hb1_24 : Blk w21 b1 [nt (IntKind.i64.wrap (((addL t (xs.take i)).a) + x12.a)), nt ((addL t (xs.take i)).n), nt ((addL t (xs.take i)).s)] 43 := hb1_24
  have hsz25 := Keep.size hk22
  replace hb3 := hb3.keep hk22 (by show ¬ (_ = _); omega)
  replace hb14_19 := hb14_19.keep hk22 (by show ¬ (_ = _); omega)
  replace hat10 := hat10.keep hk22 (by show ¬ (_ = _); omega)
  replace hK0 := Keep.fresh hK0 hk22 (by intro i hi hs; first | exact hs | exact Or.inl hs | exact Or.inr hs | (exfalso; have hs2 : i = b1 := hs; omega))
  replace hk7 := Keep.fresh hk7 hk22 (by intro i hi hs; first | exact hs | exact Or.inl hs | exact Or.inr hs | (exfalso; have hs2 : i = b1 := hs; omega))
  refine OI_end rfl ?_
  refine X_then ?_
  refine V_seq ?_
  refine V_region ?_
  refine OI_static 1 [(2, pt b1), (4, pt b3), (6, pt b14), (7, .slice (some ⟨b10, o10, none⟩) xs.length cap), (8, nt ((xs.length : Nat) : Int)), (9, nt ((i : Nat) : Int)), (19, .pointer (some ⟨b1, 1, none⟩))] (by kernel_rfl) ?_
  refine OI_cell 3 (.tmp 19) 1 (nt ((addL t (xs.take i)).n)) (some 20) (by kernel_rfl) (by kernel_rfl) hb1_24 (m := 1) (by kernel_rfl) rfl ?_
  refine OI_static 3 [(2, pt b1), (4, pt b3), (6, pt b14), (7, .slice (some ⟨b10, o10, none⟩) xs.length cap), (8, nt ((xs.length : Nat) : Int)), (9, nt ((i : Nat) : Int)), (20, nt ((addL t (xs.take i)).n)), (21, .pointer (some ⟨b14, 1, none⟩))] (by kernel_rfl) ?_
  refine OI_cell 3 (.tmp 21) 1 (nt x12.n) (some 22) (by kernel_rfl) (by kernel_rfl) hb14_19 (m := 1) (by kernel_rfl) rfl ?_
  refine OI_static 6 [(2, pt b1), (4, pt b3), (6, pt b14), (7, .slice (some ⟨b10, o10, none⟩) xs.length cap), (8, nt ((xs.length : Nat) : Int)), (9, nt ((i : Nat) : Int)), (23, nt (IntKind.i64.wrap (((addL t (xs.take i)).n) + x12.n))), (24, .pointer (some ⟨b1, 1, none⟩))] (by kernel_rfl) ?_
  refine OI_set (m := 1) (kd := false) 3 (.tmp 24) (.tmp 23) 1 (nt (IntKind.i64.wrap (((addL t (xs.take i)).n) + x12.n))) [nt (IntKind.i64.wrap (((addL t (xs.take i)).n) + x12.n))] none (by kernel_rfl) (by kernel_rfl) (by kernel_rfl) hb1_24 (by kernel_rfl) (by kernel_rfl) (by kernel_rfl) (Nat.le_of_ble_eq_true (by kernel_rfl)) (by simp [Value.oneCell']) ?_
  intro w26 hb1_29 hk27 hz28
  replace hb1_29 : Blk w26 b1 [nt (IntKind.i64.wrap (((addL t (xs.take i)).a) + x12.a)), nt (IntKind.i64.wrap (((addL t (xs.take i)).n) + x12.n)), nt ((addL t (xs.take i)).s)] 43 := hb1_29
  have hsz30 := Keep.size hk27
  replace hb3 := hb3.keep hk27 (by show ¬ (_ = _); omega)
  replace hb14_19 := hb14_19.keep hk27 (by show ¬ (_ = _); omega)
  replace hat10 := hat10.keep hk27 (by show ¬ (_ = _); omega)
  replace hK0 := Keep.fresh hK0 hk27 (by intro i hi hs; first | exact hs | exact Or.inl hs | exact Or.inr hs | (exfalso; have hs2 : i = b1 := hs; omega))
  replace hk7 := Keep.fresh hk7 hk27 (by intro i hi hs; first | exact hs | exact Or.inl hs | exact Or.inr hs | (exfalso; have hs2 : i = b1 := hs; omega))
  refine OI_end rfl ?_
  refine X_then ?_
  refine V_region ?_
  refine OI_static 1 [(2, pt b1), (4, pt b3), (6, pt b14), (7, .slice (some ⟨b10, o10, none⟩) xs.length cap), (8, nt ((xs.length : Nat) : Int)), (9, nt ((i : Nat) : Int)), (25, .pointer (some ⟨b1, 2, none⟩))] (by kernel_rfl) ?_
  refine OI_cell 3 (.tmp 25) 2 (nt ((addL t (xs.take i)).s)) (some 26) (by kernel_rfl) (by kernel_rfl) hb1_29 (m := 1) (by kernel_rfl) rfl ?_
  refine OI_static 3 [(2, pt b1), (4, pt b3), (7, .slice (some ⟨b10, o10, none⟩) xs.length cap), (8, nt ((xs.length : Nat) : Int)), (9, nt ((i : Nat) : Int)), (26, nt ((addL t (xs.take i)).s)), (27, .pointer (some ⟨b14, 2, none⟩))] (by kernel_rfl) ?_
  refine OI_cell 3 (.tmp 27) 2 (nt x12.s) (some 28) (by kernel_rfl) (by kernel_rfl) hb14_19 (m := 1) (by kernel_rfl) rfl ?_
  refine OI_static 6 [(2, pt b1), (4, pt b3), (7, .slice (some ⟨b10, o10, none⟩) xs.length cap), (8, nt ((xs.length : Nat) : Int)), (9, nt ((i : Nat) : Int)), (29, nt (IntKind.i64.wrap (((addL t (xs.take i)).s) + x12.s))), (30, .pointer (some ⟨b1, 2, none⟩))] (by kernel_rfl) ?_
  refine OI_set (m := 1) (kd := false) 3 (.tmp 30) (.tmp 29) 2 (nt (IntKind.i64.wrap (((addL t (xs.take i)).s) + x12.s))) [nt (IntKind.i64.wrap (((addL t (xs.take i)).s) + x12.s))] none (by kernel_rfl) (by kernel_rfl) (by kernel_rfl) hb1_29 (by kernel_rfl) (by kernel_rfl) (by kernel_rfl) (Nat.le_of_ble_eq_true (by kernel_rfl)) (by simp [Value.oneCell']) ?_
  intro w31 hb1_34 hk32 hz33
  replace hb1_34 : Blk w31 b1 [nt (IntKind.i64.wrap (((addL t (xs.take i)).a) + x12.a)), nt (IntKind.i64.wrap (((addL t (xs.take i)).n) + x12.n)), nt (IntKind.i64.wrap (((addL t (xs.take i)).s) + x12.s))] 43 := hb1_34
  have hsz35 := Keep.size hk32
  replace hb3 := hb3.keep hk32 (by show ¬ (_ = _); omega)
  replace hb14_19 := hb14_19.keep hk32 (by show ¬ (_ = _); omega)
  replace hat10 := hat10.keep hk32 (by show ¬ (_ = _); omega)
  replace hK0 := Keep.fresh hK0 hk32 (by intro i hi hs; first | exact hs | exact Or.inl hs | exact Or.inr hs | (exfalso; have hs2 : i = b1 := hs; omega))
  replace hk7 := Keep.fresh hk7 hk32 (by intro i hi hs; first | exact hs | exact Or.inl hs | exact Or.inr hs | (exfalso; have hs2 : i = b1 := hs; omega))
  refine OI_end rfl ?_
  refine X_block ?_
  refine X_then ?_
  refine V_region ?_
  have hw36 : IntKind.i64.wrap (((i : Nat) : Int) + 1) = ((i + 1 : Nat) : Int) := (wrap64_id (by omega) (by omega)).trans (by omega)
  refine OI_static 1 [(2, pt b1), (4, pt b3), (7, .slice (some ⟨b10, o10, none⟩) xs.length cap), (8, nt ((xs.length : Nat) : Int)), (31, nt (IntKind.i64.wrap (((i : Nat) : Int) + 1)))] (by kernel_rfl) ?_
  refine OI_eq [(2, pt b1), (4, pt b3), (7, .slice (some ⟨b10, o10, none⟩) xs.length cap), (8, nt ((xs.length : Nat) : Int)), (31, nt ((i + 1 : Nat) : Int))] (by rw [hw36]) ?_
  refine OI_static 2 [(2, pt b1), (4, pt b3), (7, .slice (some ⟨b10, o10, none⟩) xs.length cap), (8, nt ((xs.length : Nat) : Int)), (9, nt ((i + 1 : Nat) : Int))] (by kernel_rfl) ?_
  refine OI_end rfl ?_
  exact V_again (k6 - 1) (by omega) [(2, pt b1), (4, pt b3), (7, .slice (some ⟨b10, o10, none⟩) xs.length cap), (8, nt ((xs.length : Nat) : Int)), (9, nt ((i + 1 : Nat) : Int))] rfl ⟨i + 1, by omega, by rw [addL_step hx13]; exact hb1_34, hk7, rfl⟩
 ·
  refine V_exit ?_
  refine X_exit_then ?_
  refine X_exit_then ?_
  refine X_exit_here ?_
  refine X_then ?_
  refine V_seq ?_
  refine V_region ?_
  refine OI_agg 43 (.tmp 2) 0 [nt ((addL t (xs.take i)).a), nt ((addL t (xs.take i)).n), nt ((addL t (xs.take i)).s)] (some 32) (by kernel_rfl) (by kernel_rfl) hb2 (m := 3) (by kernel_rfl) rfl rfl ?_
  refine OI_set (m := 3) (kd := true) 43 (.tmp 4) (.tmp 32) 0 (.agg #[nt ((addL t (xs.take i)).a), nt ((addL t (xs.take i)).n), nt ((addL t (xs.take i)).s)]) [nt ((addL t (xs.take i)).a), nt ((addL t (xs.take i)).n), nt ((addL t (xs.take i)).s)] none (by kernel_rfl) (by kernel_rfl) (by kernel_rfl) hb3 (by kernel_rfl) (by kernel_rfl) (by kernel_rfl) (Nat.le_of_ble_eq_true (by kernel_rfl)) (by simp [Value.oneCell']) ?_
  intro w37 hb3_40 hk38 hz39
  replace hb3_40 : Blk w37 b3 [nt ((addL t (xs.take i)).a), nt ((addL t (xs.take i)).n), nt ((addL t (xs.take i)).s)] 43 := hb3_40
  have hsz41 := Keep.size hk38
  replace hb2 := hb2.keep hk38 (by show ¬ (_ = _); omega)
  replace hA := SlT.keep hA hk38 (fun q hq hs => by have hs : q = b3 := hs; have g1 := hAlt q hq; omega)
  replace hK0 := Keep.fresh hK0 hk38 (by intro i hi hs; first | exact hs | exact Or.inl hs | exact Or.inr hs | (exfalso; have hs2 : i = b3 := hs; omega))
  refine OI_end rfl ?_
  refine X_then ?_
  refine V_ret ?_
  have he : i = xs.length := by omega
  exact leave0 (.agg [nt ((addL t (xs.take i)).a), nt ((addL t (xs.take i)).n), nt ((addL t (xs.take i)).s)].toArray) (.inl rfl) (res_agg1 (m := 3) rfl rfl (by kernel_rfl) hb3_40 rfl) ⟨by rw [he, List.take_length]; rfl, hK0⟩

theorem cvAdd1 (b : Nat) (t g : Tly) (T : TypeId) (w : World) (hb : Blk w b g.cells T) : Calls Tryz.prog 58 #[.agg t.cells.toArray, .slice (some ⟨b, 0, none⟩) 1 1] w fun e w' => e = .returned (.agg (addT t g).cells.toArray) ∧ Keep none_ w w' := cvAdd_spec _ 1 t [g] w (slt_blk hb (fun _ => rfl) rfl) (by simp)

set_option maxRecDepth 10000 in
theorem cvSub_spec (t g : Tly) (w : World) : Calls Tryz.prog 56 #[.agg t.cells.toArray, .agg g.cells.toArray] w fun e w' => e = .returned (.agg (subT t g).cells.toArray) ∧ Keep none_ w w' := by
 have hK0 : Keep none_ w w := Keep.refl _ _
 have hzhK0 := Keep.size hK0
 refine enterM Tryz.func56 rfl [.agg (Tly.cells t).toArray, .agg (Tly.cells g).toArray] 18 rfl rfl rfl ?_
 refine V_pick [(0, .agg (Tly.cells t).toArray), (1, .agg (Tly.cells g).toArray)] rfl ?_
 refine V_seq ?_
 refine V_region ?_
 refine OI_box 43 (.tmp 0) (.agg (Tly.cells t).toArray) (Tly.cells t) (some 2) (by kernel_rfl) (by kernel_rfl) rfl ?_
 intro b1 w1 e1 hb1 k1 z1
 have hsz2 := Keep.size k1
 replace hK0 := Keep.tr hK0 (Keep.ofNone k1)
 have hb1lt := hb1.lt
 refine OI_box 43 (.tmp 1) (.agg (Tly.cells g).toArray) (Tly.cells g) (some 3) (by kernel_rfl) (by kernel_rfl) rfl ?_
 intro b3 w3 e3 hb3 k3 z3
 have hsz4 := Keep.size k3
 replace hb1 := hb1.keep k3 (fun f => f)
 replace hK0 := Keep.tr hK0 (Keep.ofNone k3)
 have hb3lt := hb3.lt
 refine OI_alloc 43 (.agg #[nt 0, nt 0, nt 0]) [nt 0, nt 0, nt 0] (some 4) (by kernel_rfl) (by kernel_rfl) (by kernel_rfl) ?_
 intro b5 w5 e5 hb5 k5 z5
 have hsz6 := Keep.size k5
 replace hb1 := hb1.keep k5 (fun f => f)
 replace hb3 := hb3.keep k5 (fun f => f)
 replace hK0 := Keep.tr hK0 (Keep.ofNone k5)
 have hb5lt := hb5.lt
 refine OI_end rfl ?_
 refine X_then ?_
 refine V_seq ?_
 refine V_region ?_
 refine OI_agg 43 (.tmp 2) 0 (Tly.cells t) (some 5) (by kernel_rfl) (by kernel_rfl) hb1 (m := 3) (by kernel_rfl) (take_all (Tly.len _)) (Tly.len _) ?_
 refine OI_static 2 [(3, pt b3), (4, pt b5), (5, .agg (Tly.cells t).toArray), (6, pt b3)] (by kernel_rfl) ?_
 refine OI_cell 3 (.tmp 6) 0 (nt g.a) (some 7) (by kernel_rfl) (by kernel_rfl) hb3 (m := 1) (by kernel_rfl) rfl ?_
 refine OI_static 5 [(3, pt b3), (4, pt b5), (5, .agg (Tly.cells t).toArray), (8, nt (IntKind.i64.wrap (0 - g.a))), (9, .pointer (some ⟨b3, 1, none⟩))] (by kernel_rfl) ?_
 refine OI_cell 3 (.tmp 9) 1 (nt g.n) (some 10) (by kernel_rfl) (by kernel_rfl) hb3 (m := 1) (by kernel_rfl) rfl ?_
 refine OI_static 8 [(4, pt b5), (5, .agg (Tly.cells t).toArray), (8, nt (IntKind.i64.wrap (0 - g.a))), (11, nt (IntKind.i64.wrap (0 - g.n))), (12, .pointer (some ⟨b3, 2, none⟩))] (by kernel_rfl) ?_
 refine OI_cell 3 (.tmp 12) 2 (nt g.s) (some 13) (by kernel_rfl) (by kernel_rfl) hb3 (m := 1) (by kernel_rfl) rfl ?_
 refine OI_static 11 [(4, pt b5), (5, .agg (Tly.cells t).toArray), (15, .agg #[nt (IntKind.i64.wrap (0 - g.a)), nt (IntKind.i64.wrap (0 - g.n)), nt (IntKind.i64.wrap (0 - g.s))])] (by kernel_rfl) ?_
 refine OI_slit (E := 43) (zv := .agg #[nt 0, nt 0, nt 0]) (sz := 3) (by_ := 24) 153 1 #[(0, (Operand.tmp 15))] [.agg #[nt (IntKind.i64.wrap (0 - g.a)), nt (IntKind.i64.wrap (0 - g.n)), nt (IntKind.i64.wrap (0 - g.s))]] [nt (IntKind.i64.wrap (0 - g.a)), nt (IntKind.i64.wrap (0 - g.n)), nt (IntKind.i64.wrap (0 - g.s))] (some 16) (by kernel_rfl) (by kernel_rfl) (by kernel_rfl) (by omega) rfl (by omega) (by intro v hv; simp only [List.mem_cons, List.not_mem_nil, or_false] at hv; rcases hv with rfl <;> rfl) (by kernel_rfl) rfl ?_
 intro b7 w7 e7 hb7 k7 z7
 have hsz8 := Keep.size k7
 replace hb1 := hb1.keep k7 (fun f => f)
 replace hb3 := hb3.keep k7 (fun f => f)
 replace hb5 := hb5.keep k7 (fun f => f)
 replace hK0 := Keep.tr hK0 (Keep.ofNone k7)
 have hb7lt := hb7.lt
 refine OI_call { callee := (Callee.value (Operand.func 58)), args := #[(Operand.tmp 5), (Operand.tmp 16)], argTypes := #[43, 153] } 58 #[.agg (Tly.cells t).toArray, .slice (some ⟨b7, 0, none⟩) 1 1] (some 17) (by kernel_rfl) (by kernel_rfl) (by kernel_rfl) (cvAdd1 b7 t (Tly.mk (IntKind.i64.wrap (0 - g.a)) (IntKind.i64.wrap (0 - g.n)) (IntKind.i64.wrap (0 - g.s))) _ _ hb7) ?_
 rintro _ w9 ⟨rfl, hk10⟩
 refine ⟨_, rfl, ?_⟩
 have hsz11 := Keep.size hk10
 replace hb1 := hb1.keep hk10 (fun f => f)
 replace hb3 := hb3.keep hk10 (fun f => f)
 replace hb5 := hb5.keep hk10 (fun f => f)
 replace hb7 := hb7.keep hk10 (fun f => f)
 replace hK0 := Keep.tr hK0 (Keep.ofNone hk10)
 refine OI_set (m := 3) (kd := true) 43 (.tmp 4) (.tmp 17) 0 (.agg (Tly.cells (addT t (Tly.mk (IntKind.i64.wrap (0 - g.a)) (IntKind.i64.wrap (0 - g.n)) (IntKind.i64.wrap (0 - g.s))))).toArray) (Tly.cells (addT t (Tly.mk (IntKind.i64.wrap (0 - g.a)) (IntKind.i64.wrap (0 - g.n)) (IntKind.i64.wrap (0 - g.s))))) none (by kernel_rfl) (by kernel_rfl) (by kernel_rfl) hb5 (by kernel_rfl) rfl (Tly.len _) (Nat.le_of_ble_eq_true (by kernel_rfl)) (Tly.one _) ?_
 intro w12 hb5_15 hk13 hz14
 replace hb5_15 : Blk w12 b5 (Tly.cells (addT t (Tly.mk (IntKind.i64.wrap (0 - g.a)) (IntKind.i64.wrap (0 - g.n)) (IntKind.i64.wrap (0 - g.s))))) 43 := (by rwa [over_whole (by rw [Tly.len]; rfl)] at hb5_15)
 have hsz16 := Keep.size hk13
 replace hb1 := hb1.keep hk13 (by show ¬ (_ = _); omega)
 replace hb3 := hb3.keep hk13 (by show ¬ (_ = _); omega)
 replace hb7 := hb7.keep hk13 (by show ¬ (_ = _); omega)
 replace hK0 := Keep.fresh hK0 hk13 (by intro i hi hs; first | exact hs | exact Or.inl hs | exact Or.inr hs | (exfalso; have hs2 : i = b5 := hs; omega))
 refine OI_end rfl ?_
 refine X_then ?_
 refine V_ret ?_
 exact leave0 (.agg (Tly.cells (addT t (Tly.mk (IntKind.i64.wrap (0 - g.a)) (IntKind.i64.wrap (0 - g.n)) (IntKind.i64.wrap (0 - g.s))))).toArray) (.inl rfl) (res_agg1 (m := 3) rfl rfl (by kernel_rfl) hb5_15 rfl) ⟨rfl, hK0⟩
end Go.Al


namespace Go.Al
open Go Go.RowKit Go.Proofs
/-! ### Polls, records -/
theorem Blk.ne {w : World} {a b : Nat} {L L' : List Value} {t t' : TypeId} (h : Blk w a L t) (h' : Blk w b L' t') (ht : t ≠ t') : a ≠ b := fun e => ht (by subst e; exact (h.inj h').2)
structure PollS where
  track : Int
  t : Tly
  state : Int
  stop : Int
def PollS.cells (p : PollS) : List Value := [.int .i64 p.track, .int .i64 p.t.a, .int .i64 p.t.n, .int .i64 p.t.s, .int .i64 p.state, .int .i64 p.stop]
structure DelS where
  to : Int
  level : Int
  n : Int
def DelS.cells (d : DelS) : List Value := [.int .i64 d.to, .int .i64 d.level, .int .i64 d.n]
structure RecS where
  d : Option DelS
  got : Wgt
  till : Int
  n : Int
def RecS.zero : RecS := ⟨none, ⟨0, 0⟩, 0, 0⟩
def RecS.cells (dp : Option Addr) (r : RecS) : List Value := [.pointer dp, .int .i64 r.got.v, .int .i64 r.got.c, .int .i64 r.till, .int .i64 r.n]
structure VS where
  ps : List (Option PollS)
  cs : List GV.Ci
  rc : Int → Int → RecS
structure VP where
  gv : Nat
  gr : Nat
  pp : List (Option Addr)
  rs : List GR.Ci
def okD (r : RecS) : Prop := ∀ d, r.d = some d → (0 ≤ d.to ∧ d.to < 10) ∧ (0 ≤ d.level ∧ d.level ≤ 6) ∧ (0 ≤ d.n ∧ d.n ≤ 1073741824)
structure VS.Inv (s : VS) : Prop where
  len : s.ps.length = 12
  votes : ∀ c ∈ s.cs, (0 ≤ c.a ∧ c.a < 10) ∧ (0 ≤ c.b ∧ c.b < 12) ∧ okV c.v ∧ ∃ p, s.ps[c.b.toNat]? = some (some p)
  dels : ∀ a t, okD (s.rc a t)
def updR (rc : Int → Int → RecS) (a t : Int) (r : RecS) : Int → Int → RecS := fun x y => if x = a ∧ y = t then r else rc x y
def VS.setP (s : VS) (i : Nat) (p : PollS) : VS := { s with ps := s.ps.set i (some p) }
def VS.setR (s : VS) (a t : Int) (r : RecS) : VS := { s with rc := updR s.rc a t r }
def RecB (M : Nat → Prop) (w : World) (q : Nat) (r : RecS) : Prop := ∃ dp, Blk w q (RecS.cells dp r) 99 ∧ (r.d = none → dp = none) ∧ (∀ d, r.d = some d → ∃ b, dp = some ⟨b, 0, none⟩ ∧ Blk w b d.cells 101 ∧ M b)
structure VotX (F1 F2 M : Nat → Prop) (w : World) (v : Nat) (P : VP) (s : VS) : Prop where
  inv : s.Inv
  gv : GV.Grd F1 w P.gv s.cs
  gr : GR.Grd F2 w P.gr P.rs
  mv : M v
  lt : ∀ q, M q → q < w.heap.size
  d12 : ∀ q, F1 q → ¬ F2 q
  d1 : ∀ q, F1 q → ¬ M q
  d2 : ∀ q, F2 q → ¬ M q
  len : P.pp.length = 12
  blk : Blk w v (P.pp.map Value.pointer ++ [.pointer (some ⟨P.gv, 0, none⟩), .pointer (some ⟨P.gr, 0, none⟩)]) 94
  polls : ∀ i : Nat, i < 12 → (P.pp[i]? = some none ∧ s.ps[i]? = some none) ∨ ∃ b p, P.pp[i]? = some (some ⟨b, 0, none⟩) ∧ s.ps[i]? = some (some p) ∧ Blk w b p.cells 89 ∧ M b
  pinj : ∀ (i j b : Nat), P.pp[i]? = some (some ⟨b, 0, none⟩) → P.pp[j]? = some (some ⟨b, 0, none⟩) → i = j
  keys : ∀ c ∈ P.rs, (0 ≤ c.a ∧ c.a < 10) ∧ (0 ≤ c.b ∧ c.b < 4)
  recs : ∀ a t, (GR.getC a t P.rs = none ∧ s.rc a t = RecS.zero) ∨ ∃ q, GR.getC a t P.rs = some (some ⟨q, 0, none⟩) ∧ RecB M w q (s.rc a t) ∧ M q
  rinj : ∀ (a t a' t' : Int) (q : Nat), GR.getC a t P.rs = some (some ⟨q, 0, none⟩) → GR.getC a' t' P.rs = some (some ⟨q, 0, none⟩) → a = a' ∧ t = t'
/-- The voting at v, its parts at P, holds s; all of its blocks lie in F. -/
def Vot (F : Nat → Prop) (w : World) (v : Nat) (P : VP) (s : VS) : Prop := ∃ F1 F2 M, VotX F1 F2 M w v P s ∧ (∀ q, F1 q → F q) ∧ (∀ q, F2 q → F q) ∧ (∀ q, M q → F q) ∧ (∀ q, F q → q < w.heap.size)
theorem Vot.lt {F : Nat → Prop} {w : World} {v : Nat} {P : VP} {s : VS} (h : Vot F w v P s) : ∀ q, F q → q < w.heap.size := by
  obtain ⟨_, _, _, _, _, _, _, h⟩ := h; exact h
theorem Vot.at_ {F : Nat → Prop} {w : World} {v : Nat} {P : VP} {s : VS} (h : Vot F w v P s) : F v := by
  obtain ⟨_, _, _, h, _, _, h3, _⟩ := h; exact h3 _ h.mv
theorem Vot.inv {F : Nat → Prop} {w : World} {v : Nat} {P : VP} {s : VS} (h : Vot F w v P s) : s.Inv := by
  obtain ⟨_, _, _, h, _⟩ := h; exact h.inv
theorem RecB.keep {S M : Nat → Prop} {w w' : World} {q : Nat} {r : RecS} (h : RecB M w q r) (k : Keep S w w') (h1 : ¬ S q) (h2 : ∀ b, M b → ¬ S b) : RecB M w' q r := by
  obtain ⟨dp, hb, hn, hs⟩ := h
  refine ⟨dp, hb.keep k h1, hn, fun d hd => ?_⟩
  obtain ⟨b, e, hb', hM⟩ := hs d hd
  exact ⟨b, e, hb'.keep k (h2 b hM), hM⟩
theorem RecB.quiet {M : Nat → Prop} {N : Nat} {w w' : World} {q : Nat} {r : RecS} (h : RecB M w q r) (k : Keep (lb N w) w w') : RecB M w' q r := by
  obtain ⟨dp, hb, hn, hs⟩ := h
  refine ⟨dp, hb.quiet k, hn, fun d hd => ?_⟩
  obtain ⟨b, e, hb', hM⟩ := hs d hd
  exact ⟨b, e, hb'.quiet k, hM⟩
theorem RecB.mono {M M' : Nat → Prop} {w : World} {q : Nat} {r : RecS} (h : RecB M w q r) (hM : ∀ b, M b → M' b) : RecB M' w q r := by
  obtain ⟨dp, hb, hn, hs⟩ := h
  refine ⟨dp, hb, hn, fun d hd => ?_⟩
  obtain ⟨b, e, hb', h⟩ := hs d hd
  exact ⟨b, e, hb', hM b h⟩
/-- One block of another kind, or another record, has changed. -/
theorem RecB.keep1 {M : Nat → Prop} {w w' : World} {q b : Nat} {r : RecS} (h : RecB M w q r) (k : Keep (only b) w w') {L : List Value} {t : TypeId} (hb : Blk w b L t) (hq : q ≠ b) (ht : t ≠ 101) : RecB M w' q r := by
  obtain ⟨dp, hb', hn, hs⟩ := h
  refine ⟨dp, hb'.keep k hq, hn, fun d hd => ?_⟩
  obtain ⟨c, e, hc, hM⟩ := hs d hd
  exact ⟨c, e, hc.keep k (Blk.ne hc hb (fun e => ht e.symm)), hM⟩
theorem VotX.keepM {F1 F2 M F1' F2' M' : Nat → Prop} {w w' : World} {v : Nat} {P : VP} {s : VS} (h : VotX F1 F2 M w v P s) (S : Nat → Prop) (k : Keep S w w') (hS : ∀ q, M q → ¬ S q) {cs : List GV.Ci} (hi : ({ s with cs := cs } : VS).Inv) (hM : ∀ q, M q → M' q) (hlt : ∀ q, M' q → q < w'.heap.size)
    (h1 : GV.Grd F1' w' P.gv cs) (h2 : GR.Grd F2' w' P.gr P.rs) (d12 : ∀ q, F1' q → ¬ F2' q) (d1 : ∀ q, F1' q → ¬ M' q) (d2 : ∀ q, F2' q → ¬ M' q) : VotX F1' F2' M' w' v P { s with cs := cs } where
  inv := hi
  gv := h1
  gr := h2
  mv := hM _ h.mv
  lt := hlt
  d12 := d12
  d1 := d1
  d2 := d2
  len := h.len
  blk := h.blk.keep k (hS _ h.mv)
  polls := fun i hi => by
    rcases h.polls i hi with h | ⟨b, p, e1, e2, hb, hm⟩
    · exact .inl h
    · exact .inr ⟨b, p, e1, e2, hb.keep k (hS _ hm), hM _ hm⟩
  pinj := h.pinj
  keys := h.keys
  recs := fun a t => by
    rcases h.recs a t with h | ⟨q, e, hr, hm⟩
    · exact .inl h
    · exact .inr ⟨q, e, (hr.keep k (hS _ hm) hS).mono hM, hM _ hm⟩
  rinj := h.rinj
theorem Vot.keep {S F : Nat → Prop} {w w' : World} {v : Nat} {P : VP} {s : VS} (h : Vot F w v P s) (k : Keep S w w') (hS : ∀ q, F q → ¬ S q) : Vot F w' v P s := by
  obtain ⟨F1, F2, M, h, h1, h2, h3, h4⟩ := h
  exact ⟨F1, F2, M, h.keepM S k (fun q hq => hS q (h3 q hq)) h.inv (fun _ h => h) (fun q hq => Nat.lt_of_lt_of_le (h.lt q hq) k.size) (h.gv.keep k (fun q hq => hS q (h1 q hq))) (h.gr.keep k (fun q hq => hS q (h2 q hq))) h.d12 h.d1 h.d2, h1, h2, h3, fun q hq => Nat.lt_of_lt_of_le (h4 q hq) k.size⟩
theorem Vot.quiet {N : Nat} {F : Nat → Prop} {w w' : World} {v : Nat} {P : VP} {s : VS} (h : Vot F w v P s) (k : Keep (lb N w) w w') : Vot F w' v P s := by
  obtain ⟨F1, F2, M, h, h1, h2, h3, h4⟩ := h
  refine ⟨F1, F2, M, ⟨h.inv, h.gv.quiet k, h.gr.quiet k, h.mv, fun q hq => Nat.lt_of_lt_of_le (h.lt q hq) k.size, h.d12, h.d1, h.d2, h.len, h.blk.quiet k, fun i hi => ?_, h.pinj, h.keys, fun a t => ?_, h.rinj⟩, h1, h2, h3, fun q hq => Nat.lt_of_lt_of_le (h4 q hq) k.size⟩
  · rcases h.polls i hi with h | ⟨b, p, e1, e2, hb, hm⟩
    · exact .inl h
    · exact .inr ⟨b, p, e1, e2, hb.quiet k, hm⟩
  · rcases h.recs a t with h | ⟨q, e, hr, hm⟩
    · exact .inl h
    · exact .inr ⟨q, e, hr.quiet k, hm⟩
/-- A poll that is there. -/
theorem Vot.poll {F : Nat → Prop} {w : World} {v : Nat} {P : VP} {s : VS} (h : Vot F w v P s) {i : Nat} {b : Nat} (e : P.pp[i]? = some (some ⟨b, 0, none⟩)) : ∃ p, s.ps[i]? = some (some p) ∧ Blk w b p.cells 89 ∧ F b := by
  obtain ⟨F1, F2, M, h, h1, h2, h3, h4⟩ := h
  have hi : i < 12 := by rw [← h.len]; exact (List.getElem?_eq_some_iff.1 e).1
  rcases h.polls i hi with ⟨e1, _⟩ | ⟨b', p, e1, e2, hb, hm⟩
  · rw [e] at e1; cases e1
  · rw [e] at e1; cases e1; exact ⟨p, e2, hb, h3 _ hm⟩
theorem Vot.pollB {F : Nat → Prop} {w : World} {v : Nat} {P : VP} {s : VS} (h : Vot F w v P s) {i b : Nat} {p : PollS} (e : P.pp[i]? = some (some ⟨b, 0, none⟩)) (e2 : s.ps[i]? = some (some p)) : Blk w b p.cells 89 ∧ F b := by
  obtain ⟨p', h1, h2⟩ := h.poll e
  rw [e2] at h1; cases h1; exact h2
theorem Vot.recB {F : Nat → Prop} {w : World} {v : Nat} {P : VP} {s : VS} (h : Vot F w v P s) {a t : Int} {q : Nat} (e : GR.getC a t P.rs = some (some ⟨q, 0, none⟩)) : RecB F w q (s.rc a t) ∧ F q := by
  obtain ⟨F1, F2, M, h, h1, h2, h3, h4⟩ := h
  rcases h.recs a t with ⟨e1, _⟩ | ⟨q', e1, hr, hm⟩
  · rw [e] at e1; cases e1
  · rw [e] at e1; cases e1; exact ⟨hr.mono h3, h3 _ hm⟩
theorem Vot.vblk {F : Nat → Prop} {w : World} {v : Nat} {P : VP} {s : VS} (h : Vot F w v P s) : P.pp.length = 12 ∧ Blk w v (P.pp.map Value.pointer ++ [.pointer (some ⟨P.gv, 0, none⟩), .pointer (some ⟨P.gr, 0, none⟩)]) 94 := by
  obtain ⟨_, _, _, h, _⟩ := h; exact ⟨h.len, h.blk⟩
/-- A poll has become another. -/
theorem VotX.setPoll {F1 F2 M : Nat → Prop} {w w' : World} {v : Nat} {P : VP} {s : VS} (h : VotX F1 F2 M w v P s) {i b : Nat} {p p' : PollS} (e : P.pp[i]? = some (some ⟨b, 0, none⟩)) (e2 : s.ps[i]? = some (some p)) (k : Keep (only b) w w') (hb' : Blk w' b p'.cells 89) : VotX F1 F2 M w' v P (s.setP i p') ∧ M b := by
  have hi : i < 12 := by rw [← h.len]; exact (List.getElem?_eq_some_iff.1 e).1
  have hMb : M b ∧ Blk w b p.cells 89 := by
    rcases h.polls i hi with ⟨e1, _⟩ | ⟨b', p, e1, e3, hb, hm⟩
    · rw [e] at e1; cases e1
    · rw [e] at e1; cases e1; rw [e2] at e3; cases e3; exact ⟨hm, hb⟩
  obtain ⟨hM, hB⟩ := hMb
  have hil : i < s.ps.length := (List.getElem?_eq_some_iff.1 e2).1
  refine ⟨⟨⟨by show (s.ps.set i (some p')).length = 12; rw [List.length_set]; exact h.inv.len, fun c hc => ?_, h.inv.dels⟩, h.gv.keep k (fun q hq hs => h.d1 q hq (by rw [show q = b from hs]; exact hM)), h.gr.keep k (fun q hq hs => h.d2 q hq (by rw [show q = b from hs]; exact hM)), h.mv, fun q hq => Nat.lt_of_lt_of_le (h.lt q hq) k.size, h.d12, h.d1, h.d2, h.len, h.blk.keep k (Blk.ne h.blk hB (by decide)), fun j hj => ?_, h.pinj, h.keys, fun a t => ?_, h.rinj⟩, hM⟩
  · obtain ⟨g1, g2, g3, p0, g4⟩ := h.inv.votes c hc
    refine ⟨g1, g2, g3, ?_⟩
    show ∃ p, (s.ps.set i (some p'))[c.b.toNat]? = some (some p)
    by_cases he : i = c.b.toNat
    · exact ⟨p', by rw [← he, List.getElem?_set_self hil]⟩
    · exact ⟨p0, by rw [List.getElem?_set_ne he]; exact g4⟩
  · show (P.pp[j]? = some none ∧ (s.ps.set i (some p'))[j]? = some none) ∨ ∃ b p, P.pp[j]? = some (some ⟨b, 0, none⟩) ∧ (s.ps.set i (some p'))[j]? = some (some p) ∧ Blk w' b p.cells 89 ∧ M b
    by_cases he : i = j
    · subst he
      exact .inr ⟨b, p', e, by rw [List.getElem?_set_self hil], hb', hM⟩
    · rw [List.getElem?_set_ne he]
      rcases h.polls j hj with hh | ⟨b2, p2, f1, f2, hb2, hm2⟩
      · exact .inl hh
      · exact .inr ⟨b2, p2, f1, f2, hb2.keep k (fun hs => he (h.pinj i j b e (by rw [f1, show b2 = b from hs]))), hm2⟩
  · rcases h.recs a t with hh | ⟨q, e1, hr, hm⟩
    · exact .inl hh
    · refine .inr ⟨q, e1, hr.keep1 k hB ?_ (by decide), hm⟩
      obtain ⟨_, hq, _⟩ := hr
      exact Blk.ne hq hB (by decide)
theorem Vot.setPoll {F : Nat → Prop} {w w' : World} {v : Nat} {P : VP} {s : VS} (h : Vot F w v P s) {i b : Nat} {p p' : PollS} (e : P.pp[i]? = some (some ⟨b, 0, none⟩)) (e2 : s.ps[i]? = some (some p)) (k : Keep (only b) w w') (hb' : Blk w' b p'.cells 89) : Vot F w' v P (s.setP i p') := by
  obtain ⟨F1, F2, M, h, h1, h2, h3, h4⟩ := h
  exact ⟨F1, F2, M, (h.setPoll e e2 k hb').1, h1, h2, h3, fun q hq => Nat.lt_of_lt_of_le (h4 q hq) k.size⟩
theorem VotX.newR {F1 F2 M M' : Nat → Prop} {w w' : World} {v : Nat} {P : VP} {s : VS} (h : VotX F1 F2 M w v P s) {a t : Int} {q : Nat} {r' : RecS} {L : List Value} (e : GR.getC a t P.rs = some (some ⟨q, 0, none⟩)) (hbq : Blk w q L 99) (k : Keep (only q) w w') (hr : RecB M' w' q r') (hd : okD r')
    (hM : ∀ x, M x → M' x) (hlt : ∀ x, M' x → x < w'.heap.size) (d1 : ∀ x, F1 x → ¬ M' x) (d2 : ∀ x, F2 x → ¬ M' x) : VotX F1 F2 M' w' v P (s.setR a t r') := by
  have hq : M q := by
    rcases h.recs a t with ⟨e1, _⟩ | ⟨q', e1, _, hm⟩
    · rw [e] at e1; cases e1
    · rw [e] at e1; cases e1; exact hm
  refine ⟨⟨h.inv.len, h.inv.votes, fun x y => ?_⟩, h.gv.keep k (fun x hx hs => h.d1 x hx (by rw [show x = q from hs]; exact hq)), h.gr.keep k (fun x hx hs => h.d2 x hx (by rw [show x = q from hs]; exact hq)), hM _ h.mv, hlt, h.d12, d1, d2, h.len, h.blk.keep k (Blk.ne h.blk hbq (by decide)), fun i hi => ?_, h.pinj, h.keys, fun x y => ?_, h.rinj⟩
  · show okD (updR s.rc a t r' x y)
    unfold updR
    split
    · exact hd
    · exact h.inv.dels x y
  · rcases h.polls i hi with hh | ⟨b2, p2, f1, f2, hb2, hm2⟩
    · exact .inl hh
    · exact .inr ⟨b2, p2, f1, f2, hb2.keep k (Blk.ne hb2 hbq (by decide)), hM _ hm2⟩
  · show (GR.getC x y P.rs = none ∧ updR s.rc a t r' x y = RecS.zero) ∨ ∃ q, GR.getC x y P.rs = some (some ⟨q, 0, none⟩) ∧ RecB _ w' q (updR s.rc a t r' x y) ∧ _
    unfold updR
    by_cases he : x = a ∧ y = t
    · rw [if_pos he]
      exact .inr ⟨q, by rw [he.1, he.2]; exact e, hr, hM _ hq⟩
    · rw [if_neg he]
      rcases h.recs x y with hh | ⟨q2, e1, hr2, hm⟩
      · exact .inl hh
      · exact .inr ⟨q2, e1, (hr2.keep1 k hbq (fun hs => he (h.rinj x y a t q (by rw [e1, hs]) e)) (by decide)).mono hM, hM _ hm⟩
/-- A record has become another; its delegation stays, or goes. -/
theorem Vot.setRec {F : Nat → Prop} {w w' : World} {v : Nat} {P : VP} {s : VS} (h : Vot F w v P s) {a t : Int} {q : Nat} {r' : RecS} {dp dp' : Option Addr} (e : GR.getC a t P.rs = some (some ⟨q, 0, none⟩)) (hb : Blk w q (RecS.cells dp (s.rc a t)) 99) (k : Keep (only q) w w') (hb' : Blk w' q (RecS.cells dp' r') 99)
    (hd : (dp' = dp ∧ r'.d = (s.rc a t).d) ∨ (dp' = none ∧ r'.d = none)) : Vot F w' v P (s.setR a t r') := by
  obtain ⟨F1, F2, M, h, h1, h2, h3, h4⟩ := h
  have hr : RecB M w q (s.rc a t) := by
    rcases h.recs a t with ⟨e1, _⟩ | ⟨q', e1, hr, hm⟩
    · rw [e] at e1; cases e1
    · rw [e] at e1; cases e1; exact hr
  refine ⟨F1, F2, M, h.newR e hb k ?_ ?_ (fun _ h => h) (fun x hx => Nat.lt_of_lt_of_le (h.lt x hx) k.size) h.d1 h.d2, h1, h2, h3, fun x hx => Nat.lt_of_lt_of_le (h4 x hx) k.size⟩
  · rcases hd with ⟨rfl, hd⟩ | ⟨rfl, hd⟩
    · obtain ⟨dp0, g1, g2, g3⟩ := hr
      obtain rfl : dp0 = dp' := by
        have := (g1.inj hb).1
        simp only [RecS.cells, List.cons.injEq, Value.pointer.injEq] at this
        exact this.1
      refine ⟨dp0, hb', fun hn => g2 (by rw [← hd]; exact hn), fun d hd2 => ?_⟩
      obtain ⟨b, e1, e2, e3⟩ := g3 d (by rw [← hd]; exact hd2)
      exact ⟨b, e1, e2.keep k (Blk.ne e2 hb (by decide)), e3⟩
    · exact ⟨none, hb', fun _ => rfl, fun d hd2 => by rw [hd] at hd2; cases hd2⟩
  · rcases hd with ⟨_, hd⟩ | ⟨_, hd⟩
    · intro d hd2; exact h.inv.dels a t d (by rw [← hd]; exact hd2)
    · intro d hd2; rw [hd] at hd2; cases hd2
/-- A record has a delegation, newly laid. -/
theorem Vot.setDel {F : Nat → Prop} {w w' : World} {v : Nat} {P : VP} {s : VS} (h : Vot F w v P s) {a t : Int} {q b0 : Nat} {r' : RecS} {d : DelS} {L : List Value} (e : GR.getC a t P.rs = some (some ⟨q, 0, none⟩)) (hb : Blk w q L 99) (hb0 : Blk w b0 d.cells 101) (hF0 : ¬ F b0) (k : Keep (only q) w w') (hb' : Blk w' q (RecS.cells (some ⟨b0, 0, none⟩) r') 99)
    (hd : r'.d = some d) (hok : okD r') : Vot (fun x => F x ∨ x = b0) w' v P (s.setR a t r') := by
  obtain ⟨F1, F2, M, h, h1, h2, h3, h4⟩ := h
  have hb1 := hb0.keep k (Blk.ne hb0 hb (by decide))
  refine ⟨F1, F2, fun x => M x ∨ x = b0, h.newR e hb k ⟨_, hb', (fun hn => by rw [hd] at hn; cases hn), fun d2 hd2 => ?_⟩ hok (fun _ h => .inl h) ?_ ?_ ?_, fun x hx => .inl (h1 x hx), fun x hx => .inl (h2 x hx), ?_, ?_⟩
  · rw [hd] at hd2; cases hd2
    exact ⟨b0, rfl, hb1, .inr rfl⟩
  · rintro x (hx | rfl)
    · exact Nat.lt_of_lt_of_le (h.lt x hx) k.size
    · exact hb1.lt
  · rintro x hx (hm | rfl)
    · exact h.d1 x hx hm
    · exact hF0 (h1 _ hx)
  · rintro x hx (hm | rfl)
    · exact h.d2 x hx hm
    · exact hF0 (h2 _ hx)
  · rintro x (hx | hx)
    · exact .inl (h3 x hx)
    · exact .inr hx
  · rintro x (hx | rfl)
    · exact Nat.lt_of_lt_of_le (h4 x hx) k.size
    · exact hb1.lt
theorem Vot.recX {F : Nat → Prop} {w : World} {v : Nat} {P : VP} {s : VS} (h : Vot F w v P s) {a t : Int} {q : Nat} (e : GR.getC a t P.rs = some (some ⟨q, 0, none⟩)) : F q ∧ ((s.rc a t).d = none ∧ Blk w q (RecS.cells none (s.rc a t)) 99 ∨ ∃ d b, (s.rc a t).d = some d ∧ Blk w q (RecS.cells (some ⟨b, 0, none⟩) (s.rc a t)) 99 ∧ Blk w b d.cells 101 ∧ F b) := by
  obtain ⟨⟨dp, g1, g2, g3⟩, hF⟩ := h.recB e
  refine ⟨hF, ?_⟩
  cases hd : (s.rc a t).d with
  | none => rw [g2 hd] at g1; exact .inl ⟨rfl, g1⟩
  | some d =>
    obtain ⟨b, rfl, e2, e3⟩ := g3 d hd
    exact .inr ⟨d, b, rfl, g1, e2, e3⟩
def pollAt (s : VS) (ref : Int) : Option PollS := if 0 ≤ ref ∧ ref < 12 then (s.ps[ref.toNat]?).join else none
theorem Vot.pollcase {F : Nat → Prop} {w : World} {v : Nat} {P : VP} {s : VS} (h : Vot F w v P s) (ref : Int) : (pollAt s ref = none ∧ (¬ (0 ≤ ref ∧ ref < 12) ∨ ∃ i : Nat, ref = (i : Int) ∧ i < 12 ∧ P.pp[i]? = some none)) ∨ ∃ (i b : Nat) (p : PollS), ref = (i : Int) ∧ i < 12 ∧ P.pp[i]? = some (some ⟨b, 0, none⟩) ∧ s.ps[i]? = some (some p) ∧ pollAt s ref = some p := by
  obtain ⟨F1, F2, M, h, _⟩ := h
  by_cases hr : 0 ≤ ref ∧ ref < 12
  · obtain ⟨i, rfl⟩ : ∃ i : Nat, ref = i := ⟨ref.toNat, by omega⟩
    rcases h.polls i (by omega) with ⟨e1, e2⟩ | ⟨b, p, e1, e2, _⟩
    · exact .inl ⟨by unfold pollAt; rw [if_pos hr, Int.toNat_natCast, e2]; rfl, .inr ⟨i, rfl, by omega, e1⟩⟩
    · exact .inr ⟨i, b, p, rfl, by omega, e1, e2, by unfold pollAt; rw [if_pos hr, Int.toNat_natCast, e2]; rfl⟩
  · exact .inl ⟨by unfold pollAt; rw [if_neg hr], .inl hr⟩
/-- A new poll. -/
theorem over_pp {pp : List (Option Addr)} {tl : List Value} {i : Nat} {x : Option Addr} (hi : i < pp.length) : over (pp.map Value.pointer ++ tl) (0 + i * 1) [.pointer x] = (pp.set i x).map Value.pointer ++ tl := by
  have e : 0 + i * 1 = ([] : List Value).length + i := by simp
  have h1 := over_mid (X := []) (Y := pp.map Value.pointer) (Z := tl) (k := i) (v := .pointer x) (by simpa using hi)
  rw [e]
  simp only [List.nil_append] at h1 ⊢
  rw [h1]
  congr 1
  unfold over
  rw [List.map_set, List.set_eq_take_append_cons_drop, if_pos (by simpa using hi)]
  simp
theorem Vot.addPoll {F : Nat → Prop} {w w' : World} {v : Nat} {P : VP} {s : VS} (h : Vot F w v P s) {i b : Nat} {p : PollS} (hi : i < 12) (e : P.pp[i]? = some none) (k : Keep (only v) w w') (hv : Blk w' v ((P.pp.set i (some ⟨b, 0, none⟩)).map Value.pointer ++ [.pointer (some ⟨P.gv, 0, none⟩), .pointer (some ⟨P.gr, 0, none⟩)]) 94) (hb : Blk w' b p.cells 89) (hge : w.heap.size ≤ b) :
    ∃ F', Vot F' w' v { P with pp := P.pp.set i (some ⟨b, 0, none⟩) } (s.setP i p) ∧ ∀ q, F' q → F q ∨ w.heap.size ≤ q := by
  obtain ⟨F1, F2, M, h, h1, h2, h3, h4⟩ := h
  have hsz := k.size
  have hbv := hb.lt
  have hil : i < s.ps.length := by rw [h.inv.len]; exact hi
  have hpl : i < P.pp.length := by rw [h.len]; exact hi
  have kS : ∀ x, x < w.heap.size → x ≠ v → ¬ only v x := fun x _ hx hs => hx hs
  refine ⟨fun x => F x ∨ x = b, ⟨F1, F2, fun x => M x ∨ x = b, ⟨⟨by show (s.ps.set i (some p)).length = 12; rw [List.length_set]; exact h.inv.len, fun c hc => ?_, h.inv.dels⟩, h.gv.keep k (fun x hx hs => h.d1 x hx (by rw [show x = v from hs]; exact h.mv)), h.gr.keep k (fun x hx hs => h.d2 x hx (by rw [show x = v from hs]; exact h.mv)), .inl h.mv, ?_, h.d12, ?_, ?_, by show (P.pp.set i _).length = 12; rw [List.length_set]; exact h.len, hv, fun j hj => ?_, ?_, h.keys, fun a t => ?_, h.rinj⟩, fun x hx => .inl (h1 x hx), fun x hx => .inl (h2 x hx), fun x hx => hx.imp (h3 x) id, ?_⟩, fun q hq => hq.imp id (fun e => by rw [e]; exact hge)⟩
  · obtain ⟨g1, g2, g3, p0, g4⟩ := h.inv.votes c hc
    refine ⟨g1, g2, g3, ?_⟩
    show ∃ p', (s.ps.set i (some p))[c.b.toNat]? = some (some p')
    by_cases he : i = c.b.toNat
    · exact ⟨p, by rw [← he, List.getElem?_set_self hil]⟩
    · exact ⟨p0, by rw [List.getElem?_set_ne he]; exact g4⟩
  · rintro x (hx | rfl)
    · exact Nat.lt_of_lt_of_le (h.lt x hx) hsz
    · exact hbv
  · rintro x hx (hm | rfl)
    · exact h.d1 x hx hm
    · have := h.gv.lt _ hx; omega
  · rintro x hx (hm | rfl)
    · exact h.d2 x hx hm
    · have := h.gr.lt _ hx; omega
  · show ((P.pp.set i (some ⟨b, 0, none⟩))[j]? = some none ∧ (s.ps.set i (some p))[j]? = some none) ∨ ∃ b' p', (P.pp.set i (some ⟨b, 0, none⟩))[j]? = some (some ⟨b', 0, none⟩) ∧ (s.ps.set i (some p))[j]? = some (some p') ∧ Blk w' b' p'.cells 89 ∧ (M b' ∨ b' = b)
    by_cases he : i = j
    · subst he
      exact .inr ⟨b, p, by rw [List.getElem?_set_self hpl], by rw [List.getElem?_set_self hil], hb, .inr rfl⟩
    · rw [List.getElem?_set_ne he, List.getElem?_set_ne he]
      rcases h.polls j hj with hh | ⟨b2, p2, f1, f2, hb2, hm2⟩
      · exact .inl hh
      · exact .inr ⟨b2, p2, f1, f2, hb2.keep k (Blk.ne hb2 h.blk (by decide)), .inl hm2⟩
  · show ∀ (j j' c : Nat), (P.pp.set i (some ⟨b, 0, none⟩))[j]? = some (some ⟨c, 0, none⟩) → (P.pp.set i (some ⟨b, 0, none⟩))[j']? = some (some ⟨c, 0, none⟩) → j = j'
    have hold : ∀ (j c : Nat), P.pp[j]? = some (some ⟨c, 0, none⟩) → c < w.heap.size := by
      intro j c hjc
      have hj : j < 12 := by rw [← h.len]; exact (List.getElem?_eq_some_iff.1 hjc).1
      rcases h.polls j hj with ⟨f1, _⟩ | ⟨b2, p2, f1, f2, hb2, hm2⟩
      · rw [hjc] at f1; cases f1
      · rw [hjc] at f1; cases f1; exact hb2.lt
    intro j j' c hj hj'
    by_cases e1 : i = j <;> by_cases e2 : i = j'
    · exact e1.symm.trans e2
    · subst e1
      rw [List.getElem?_set_self hpl] at hj; cases hj
      rw [List.getElem?_set_ne e2] at hj'
      have := hold _ _ hj'; omega
    · subst e2
      rw [List.getElem?_set_self hpl] at hj'; cases hj'
      rw [List.getElem?_set_ne e1] at hj
      have := hold _ _ hj; omega
    · rw [List.getElem?_set_ne e1] at hj
      rw [List.getElem?_set_ne e2] at hj'
      exact h.pinj _ _ _ hj hj'
  · rcases h.recs a t with hh | ⟨q, e1, hr, hm⟩
    · exact .inl hh
    · refine .inr ⟨q, e1, (hr.keep1 k h.blk ?_ (by decide)).mono (fun _ h => .inl h), .inl hm⟩
      obtain ⟨_, hq, _⟩ := hr
      exact Blk.ne hq h.blk (by decide)
  · rintro x (hx | rfl)
    · exact Nat.lt_of_lt_of_le (h4 x hx) hsz
    · exact hbv
theorem GR.getC_set (a b : Int) (x : Option Addr) : ∀ (cs : List GR.Ci), GR.Srt cs → ∀ a' b', GR.getC a' b' (GR.setC a b x cs) = if a' = a ∧ b' = b then some x else GR.getC a' b' cs
  | [], _, a', b' => by
    simp only [GR.setC, GR.getC]
    by_cases h : a' = a ∧ b' = b
    · rw [if_pos ⟨h.1.symm, h.2.symm⟩, if_pos h]
    · rw [if_neg (fun e => h ⟨e.1.symm, e.2.symm⟩), if_neg h]
  | c :: l, hs, a', b' => by
    have hs2 := List.pairwise_cons.1 hs
    have ih := GR.getC_set a b x l hs2.2 a' b'
    simp only [GR.setC]
    split
    · rename_i he
      simp only [GR.getC]
      by_cases h : a' = a ∧ b' = b
      · rw [if_pos ⟨h.1.symm, h.2.symm⟩, if_pos h]
      · rw [if_neg (fun e => h ⟨e.1.symm, e.2.symm⟩), if_neg h, if_neg (fun e => h ⟨by omega, by omega⟩)]
    · rename_i he
      split
      · simp only [GR.getC]
        rw [ih]
        by_cases h : a' = a ∧ b' = b
        · rw [if_pos h, if_pos h, if_neg (fun e => he ⟨by omega, by omega⟩)]
        · rw [if_neg h, if_neg h]
      · simp only [GR.getC]
        by_cases h : a' = a ∧ b' = b
        · rw [if_pos ⟨h.1.symm, h.2.symm⟩, if_pos h]
        · rw [if_neg (fun e => h ⟨e.1.symm, e.2.symm⟩), if_neg h]
/-- A new record. -/
theorem Vot.addRec {F F2 F2' M F1 : Nat → Prop} {w w' : World} {v b : Nat} {P : VP} {s : VS} (h : VotX F1 F2 M w v P s) (h1 : ∀ q, F1 q → F q) (h2 : ∀ q, F2 q → F q) (h3 : ∀ q, M q → F q) (h4 : ∀ q, F q → q < w.heap.size) {a t : Int} (ha : 0 ≤ a ∧ a < 10) (ht : 0 ≤ t ∧ t < 4) (e : GR.getC a t P.rs = none) (k : Keep F2 w w')
    (hG : GR.Grd F2' w' P.gr (GR.setC a t (some ⟨b, 0, none⟩) P.rs)) (hfr : ∀ q, F2' q → F2 q ∨ w.heap.size ≤ q) (hb : Blk w' b (RecS.cells none RecS.zero) 99) (hge : w.heap.size ≤ b) (hbF : ¬ F2' b) :
    ∃ F', Vot F' w' v { P with rs := GR.setC a t (some ⟨b, 0, none⟩) P.rs } s ∧ (∀ q, F' q → F q ∨ w.heap.size ≤ q) := by
  have hsz := k.size
  have hkM : ∀ x, M x → ¬ F2 x := fun x hx hf => h.d2 x hf hx
  have hset := GR.getC_set a t (some ⟨b, 0, none⟩) P.rs h.gr.1
  have hz : s.rc a t = RecS.zero := by
    rcases h.recs a t with hh | ⟨q, e1, _⟩
    · exact hh.2
    · rw [e] at e1; cases e1
  refine ⟨fun x => F x ∨ F2' x ∨ x = b, ⟨F1, F2', fun x => M x ∨ x = b, ⟨h.inv, h.gv.keep k (fun x hx hs => h.d12 x hx hs), hG, .inl h.mv, ?_, ?_, ?_, ?_, h.len, h.blk.keep k (hkM _ h.mv), fun j hj => ?_, h.pinj, ?_, fun x y => ?_, ?_⟩, fun x hx => .inl (h1 x hx), fun x hx => .inr (.inl hx), fun x hx => hx.elim (fun hx => .inl (h3 x hx)) (fun hx => .inr (.inr hx)), ?_⟩, ?_⟩
  · rintro x (hx | rfl)
    · exact Nat.lt_of_lt_of_le (h.lt x hx) hsz
    · exact hb.lt
  · intro x hx hx2
    rcases hfr x hx2 with hh | hh
    · exact h.d12 x hx hh
    · have := h.gv.lt x hx; omega
  · rintro x hx (hm | rfl)
    · exact h.d1 x hx hm
    · have := h.gv.lt _ hx; omega
  · rintro x hx (hm | rfl)
    · rcases hfr x hx with hh | hh
      · exact h.d2 x hh hm
      · have := h.lt x hm; omega
    · exact hbF hx
  · rcases h.polls j hj with hh | ⟨b2, p2, f1, f2, hb2, hm2⟩
    · exact .inl hh
    · exact .inr ⟨b2, p2, f1, f2, hb2.keep k (hkM _ hm2), .inl hm2⟩
  · intro c hc
    rcases GR.setC_mem hc with hh | hh
    · rw [hh.1, hh.2]; exact ⟨ha, ht⟩
    · exact h.keys c hh
  · show (GR.getC x y (GR.setC a t (some ⟨b, 0, none⟩) P.rs) = none ∧ _) ∨ ∃ q, GR.getC x y (GR.setC a t (some ⟨b, 0, none⟩) P.rs) = some (some ⟨q, 0, none⟩) ∧ RecB _ w' q (s.rc x y) ∧ _
    rw [hset]
    by_cases he : x = a ∧ y = t
    · rw [if_pos he, he.1, he.2, hz]
      exact .inr ⟨b, rfl, ⟨none, hb, fun _ => rfl, fun d hd => by cases hd⟩, .inr rfl⟩
    · rw [if_neg he]
      rcases h.recs x y with hh | ⟨q, e1, hr, hm⟩
      · exact .inl hh
      · exact .inr ⟨q, e1, (hr.keep k (hkM _ hm) hkM).mono (fun _ h => .inl h), .inl hm⟩
  · show ∀ (x y x' y' : Int) (q : Nat), GR.getC x y (GR.setC a t (some ⟨b, 0, none⟩) P.rs) = some (some ⟨q, 0, none⟩) → GR.getC x' y' (GR.setC a t (some ⟨b, 0, none⟩) P.rs) = some (some ⟨q, 0, none⟩) → x = x' ∧ y = y'
    have hold : ∀ (x y : Int) (q : Nat), GR.getC x y P.rs = some (some ⟨q, 0, none⟩) → q < w.heap.size := by
      intro x y q hq
      rcases h.recs x y with ⟨f1, _⟩ | ⟨q2, f1, hr, hm⟩
      · rw [hq] at f1; cases f1
      · rw [hq] at f1; cases f1; exact h.lt _ hm
    intro x y x' y' q
    rw [hset, hset]
    by_cases e1 : x = a ∧ y = t <;> by_cases e2 : x' = a ∧ y' = t
    · intro _ _; exact ⟨by omega, by omega⟩
    · rw [if_pos e1, if_neg e2]
      intro hq hq'; cases hq
      have := hold _ _ _ hq'; omega
    · rw [if_neg e1, if_pos e2]
      intro hq hq'; cases hq'
      have := hold _ _ _ hq; omega
    · rw [if_neg e1, if_neg e2]
      exact h.rinj x y x' y' q
  · rintro x (hx | hx | rfl)
    · exact Nat.lt_of_lt_of_le (h4 x hx) hsz
    · exact hG.lt x hx
    · exact hb.lt
  · rintro x (hx | hx | rfl)
    · exact .inl hx
    · exact (hfr x hx).imp (h2 x) id
    · exact .inr hge
/-- The votes have become others. -/
theorem Vot.setCs {F F1 F2 M F1' : Nat → Prop} {w w' : World} {v : Nat} {P : VP} {s : VS} {cs : List GV.Ci} (h : VotX F1 F2 M w v P s) (h1 : ∀ q, F1 q → F q) (h2 : ∀ q, F2 q → F q) (h3 : ∀ q, M q → F q) (h4 : ∀ q, F q → q < w.heap.size) (k : Keep F1 w w') (hG : GV.Grd F1' w' P.gv cs) (hfr : ∀ q, F1' q → F1 q ∨ w.heap.size ≤ q) (hi : ({ s with cs := cs } : VS).Inv) :
    ∃ F', Vot F' w' v P { s with cs := cs } ∧ (∀ q, F' q → F q ∨ w.heap.size ≤ q) := by
  have hsz := k.size
  refine ⟨fun x => F x ∨ F1' x, ⟨F1', F2, M, h.keepM F1 k (fun x hx hf => h.d1 x hf hx) hi (fun _ h => h) (fun x hx => Nat.lt_of_lt_of_le (h.lt x hx) hsz) hG (h.gr.keep k (fun x hx hf => h.d12 x hf hx)) ?_ ?_ h.d2, fun x hx => .inr hx, fun x hx => .inl (h2 x hx), fun x hx => .inl (h3 x hx), ?_⟩, ?_⟩
  · intro x hx hx2
    rcases hfr x hx with hh | hh
    · exact h.d12 x hh hx2
    · have := h.gr.lt x hx2; omega
  · intro x hx hm
    rcases hfr x hx with hh | hh
    · exact h.d1 x hh hm
    · have := h.lt x hm; omega
  · rintro x (hx | hx)
    · exact Nat.lt_of_lt_of_le (h4 x hx) hsz
    · exact hG.lt x hx
  · rintro x (hx | hx)
    · exact .inl hx
    · exact (hfr x hx).imp (h1 x) id
end Go.Al


namespace Go.Al
open Go Go.RowKit Go.Proofs
set_option maxRecDepth 10000 in
theorem vIn_spec (n lo hi : Int) (w : World) : Calls Tryz.prog 44 #[.int .i64 n, .int .i64 lo, .int .i64 hi] w fun e w' => e = .returned (.bool (decide (lo ≤ n ∧ n ≤ hi))) ∧ w' = w := by
 refine enterV Tryz.func44 rfl [nt n, nt lo, nt hi] 15 rfl rfl rfl ?_
 refine V_pick [(0, nt n), (1, nt lo), (2, nt hi)] rfl ?_
 refine V_seq ?_
 refine V_region ?_
 refine OI_static 1 [(0, nt n), (1, nt lo), (2, nt hi)] (by kernel_rfl) ?_
 refine OI_end rfl ?_
 refine X_then ?_
 refine V_seq ?_
 refine V_region ?_
 refine OI_static 4 [(0, nt n), (2, nt hi), (10, .bool (decide (n ≥ lo)))] (by kernel_rfl) ?_
 by_cases hg1 : n ≥ lo
 ·
  refine OI_eq [(0, nt n), (2, nt hi), (10, .bool true)] (by first | simp [hg1] | rfl) ?_
  refine OI_static 9 [(6, .bool (decide (n ≤ hi)))] (by kernel_rfl) ?_
  refine OI_end rfl ?_
  refine X_then ?_
  refine V_ret ?_
  exact X_return (.bool (decide (n ≤ hi))) rfl ⟨by congr 2; simp only [Bool.decide_and]; by_cases h1 : lo ≤ n <;> simp [h1] <;> omega, rfl⟩
 ·
  refine OI_eq [(0, nt n), (2, nt hi), (10, .bool false)] (by first | simp [hg1] | rfl) ?_
  refine OI_static 9 [(6, .bool false)] (by kernel_rfl) ?_
  refine OI_end rfl ?_
  refine X_then ?_
  refine V_ret ?_
  exact X_return (.bool false) rfl ⟨by congr 2; simp only [Bool.decide_and]; by_cases h1 : lo ≤ n <;> simp [h1] <;> omega, rfl⟩

set_option maxRecDepth 10000 in
theorem isAcc_spec (n : Int) (w : World) : Calls Tryz.prog 47 #[.int .i64 n] w fun e w' => e = .returned (.bool (decide (0 ≤ n ∧ n ≤ 9))) ∧ w' = w := by
 refine enterV Tryz.func47 rfl [nt n] 5 rfl rfl rfl ?_
 refine V_pick [(0, nt n)] rfl ?_
 refine V_seq ?_
 refine V_region ?_
 refine OI_static 1 [(0, nt n)] (by kernel_rfl) ?_
 refine OI_end rfl ?_
 refine X_then ?_
 refine V_seq ?_
 refine V_region ?_
 refine OI_static 1 [(3, nt n)] (by kernel_rfl) ?_
 refine OI_call { callee := (Callee.value (Operand.func 44)), args := #[(Operand.tmp 3), (Operand.const (Value.int IntKind.i64 0)), (Operand.const (Value.int IntKind.i64 9))], argTypes := #[3, 3, 3] } 44 #[nt n, nt 0, nt 9] (some 4) (by kernel_rfl) (by kernel_rfl) (by kernel_rfl) (vIn_spec n 0 9 _) ?_
 rintro _ w ⟨rfl, rfl⟩
 refine ⟨_, rfl, ?_⟩
 refine OI_static 3 [(2, .bool (decide ((0 : Int) ≤ n ∧ n ≤ 9)))] (by kernel_rfl) ?_
 refine OI_end rfl ?_
 refine X_then ?_
 refine V_ret ?_
 exact X_return (.bool (decide ((0 : Int) ≤ n ∧ n ≤ 9))) rfl ⟨rfl, rfl⟩

set_option maxRecDepth 10000 in
theorem isTrk_spec (n : Int) (w : World) : Calls Tryz.prog 45 #[.int .i64 n] w fun e w' => e = .returned (.bool (decide (0 ≤ n ∧ n ≤ 3))) ∧ w' = w := by
 refine enterV Tryz.func45 rfl [nt n] 5 rfl rfl rfl ?_
 refine V_pick [(0, nt n)] rfl ?_
 refine V_seq ?_
 refine V_region ?_
 refine OI_static 1 [(0, nt n)] (by kernel_rfl) ?_
 refine OI_end rfl ?_
 refine X_then ?_
 refine V_seq ?_
 refine V_region ?_
 refine OI_static 1 [(3, nt n)] (by kernel_rfl) ?_
 refine OI_call { callee := (Callee.value (Operand.func 44)), args := #[(Operand.tmp 3), (Operand.const (Value.int IntKind.i64 0)), (Operand.const (Value.int IntKind.i64 3))], argTypes := #[3, 3, 3] } 44 #[nt n, nt 0, nt 3] (some 4) (by kernel_rfl) (by kernel_rfl) (by kernel_rfl) (vIn_spec n 0 3 _) ?_
 rintro _ w ⟨rfl, rfl⟩
 refine ⟨_, rfl, ?_⟩
 refine OI_static 3 [(2, .bool (decide ((0 : Int) ≤ n ∧ n ≤ 3)))] (by kernel_rfl) ?_
 refine OI_end rfl ?_
 refine X_then ?_
 refine V_ret ?_
 exact X_return (.bool (decide ((0 : Int) ≤ n ∧ n ≤ 3))) rfl ⟨rfl, rfl⟩

set_option maxRecDepth 10000 in
theorem pollfn_at (v gv gr i : Nat) (pp : List (Option Addr)) (x : Option Addr) (w : World) (hv : Blk w v (pp.map Value.pointer ++ [.pointer (some ⟨gv, 0, none⟩), .pointer (some ⟨gr, 0, none⟩)]) 94) (hlen : pp.length = 12) (hi : i < 12) (hx : pp[i]? = some x) : Calls Tryz.prog 46 #[.pointer (some ⟨v, 0, none⟩), .int .i64 (i : Int)] w fun e w' => e = .returned (.pointer x) ∧ Keep none_ w w' := by
 have hK0 : Keep none_ w w := Keep.refl _ _
 have hzhK0 := Keep.size hK0
 refine enterV Tryz.func46 rfl [pt v, nt ((i : Nat) : Int)] 18 rfl rfl rfl ?_
 refine V_pick [(0, pt v), (1, nt ((i : Nat) : Int))] rfl ?_
 refine V_seq ?_
 refine V_region ?_
 refine OI_static 1 [(0, pt v), (1, nt ((i : Nat) : Int))] (by kernel_rfl) ?_
 refine OI_end rfl ?_
 refine X_then ?_
 refine V_seq ?_
 refine V_seq ?_
 refine V_region ?_
 refine OI_static 4 [(0, pt v), (1, nt ((i : Nat) : Int)), (7, .bool false), (8, nt ((i : Nat) : Int))] (by kernel_rfl) ?_
 refine OI_call { callee := (Callee.value (Operand.func 44)), args := #[(Operand.tmp 8), (Operand.const (Value.int IntKind.i64 0)), (Operand.const (Value.int IntKind.i64 11))], argTypes := #[3, 3, 3] } 44 #[nt ((i : Nat) : Int), nt 0, nt 11] (some 9) (by kernel_rfl) (by kernel_rfl) (by kernel_rfl) (vIn_spec ((i : Nat) : Int) 0 11 _) ?_
 rintro _ w ⟨rfl, rfl⟩
 refine ⟨_, rfl, ?_⟩
 refine OI_static 7 [(0, pt v), (1, nt ((i : Nat) : Int)), (11, .bool (!(decide ((0 : Int) ≤ ((i : Nat) : Int) ∧ ((i : Nat) : Int) ≤ 11))))] (by kernel_rfl) ?_
 refine OI_end rfl ?_
 refine X_then ?_
 refine V_eq [(0, pt v), (1, nt ((i : Nat) : Int)), (11, .bool false)] (by rw [decide_eq_true (by omega : (0 : Int) ≤ ((i : Nat) : Int) ∧ ((i : Nat) : Int) ≤ 11)]; rfl) ?_
 refine V_false rfl ?_
 refine V_skip ?_
 refine X_then ?_
 refine V_seq ?_
 refine V_region ?_
 refine OI_static 4 [(13, nt ((i : Nat) : Int)), (15, pt v)] (by kernel_rfl) ?_
 refine OI_pure (some 16) (.indexAddr 90 (.tmp 15) (.tmp 13)) (by kernel_rfl) (pure_idxArr (b := v) (o := 0) (m := 12) (kd := .i64) (j := i) (E := 86) (sz := 1) (by kernel_rfl) (by kernel_rfl) (by kernel_rfl) (by omega)) ?_
 refine OI_cell 86 (.tmp 16) (0 + i * 1) (.pointer x) (some 17) (by kernel_rfl) (by kernel_rfl) hv (m := 1) (by kernel_rfl) (by rw [show 0 + i * 1 = i by omega, List.getElem?_append_left (by rw [List.length_map]; omega), List.getElem?_map, hx]; rfl) ?_
 refine OI_static 7 [(4, .pointer x)] (by kernel_rfl) ?_
 refine OI_end rfl ?_
 refine X_then ?_
 refine V_ret ?_
 exact X_return (.pointer x) rfl ⟨rfl, hK0⟩

set_option maxRecDepth 10000 in
theorem pollfn_out (v : Nat) (ref : Int) (w : World) (hr : ¬ (0 ≤ ref ∧ ref < 12)) : Calls Tryz.prog 46 #[.pointer (some ⟨v, 0, none⟩), .int .i64 ref] w fun e w' => e = .returned (.pointer none) ∧ Keep none_ w w' := by
 have hK0 : Keep none_ w w := Keep.refl _ _
 have hzhK0 := Keep.size hK0
 refine enterV Tryz.func46 rfl [pt v, nt ref] 18 rfl rfl rfl ?_
 refine V_pick [(0, pt v), (1, nt ref)] rfl ?_
 refine V_seq ?_
 refine V_region ?_
 refine OI_static 1 [(0, pt v), (1, nt ref)] (by kernel_rfl) ?_
 refine OI_end rfl ?_
 refine X_then ?_
 refine V_seq ?_
 refine V_seq ?_
 refine V_region ?_
 refine OI_static 4 [(0, pt v), (1, nt ref), (7, .bool false), (8, nt ref)] (by kernel_rfl) ?_
 refine OI_call { callee := (Callee.value (Operand.func 44)), args := #[(Operand.tmp 8), (Operand.const (Value.int IntKind.i64 0)), (Operand.const (Value.int IntKind.i64 11))], argTypes := #[3, 3, 3] } 44 #[nt ref, nt 0, nt 11] (some 9) (by kernel_rfl) (by kernel_rfl) (by kernel_rfl) (vIn_spec ref 0 11 _) ?_
 rintro _ w ⟨rfl, rfl⟩
 refine ⟨_, rfl, ?_⟩
 refine OI_static 7 [(0, pt v), (1, nt ref), (11, .bool (!(decide ((0 : Int) ≤ ref ∧ ref ≤ 11))))] (by kernel_rfl) ?_
 refine OI_end rfl ?_
 refine X_then ?_
 refine V_eq [(0, pt v), (1, nt ref), (11, .bool true)] (by rw [decide_eq_false (by omega : ¬ ((0 : Int) ≤ ref ∧ ref ≤ 11))]; rfl) ?_
 refine V_true rfl ?_
 refine V_seq ?_
 refine V_region ?_
 refine OI_static 1 [(4, .pointer none)] (by kernel_rfl) ?_
 refine OI_end rfl ?_
 refine X_then ?_
 refine V_ret ?_
 refine X_ret_then ?_
 exact X_return (.pointer none) rfl ⟨rfl, hK0⟩

theorem poll_some (F : Nat → Prop) (v : Nat) (P : VP) (s : VS) (i b : Nat) (w : World) (h : Vot F w v P s) (hi : i < 12) (e : P.pp[i]? = some (some ⟨b, 0, none⟩)) : Calls Tryz.prog 46 #[.pointer (some ⟨v, 0, none⟩), .int .i64 (i : Int)] w fun e w' => e = .returned (.pointer (some ⟨b, 0, none⟩)) ∧ Keep none_ w w' := pollfn_at v P.gv P.gr i P.pp _ w h.vblk.2 h.vblk.1 hi e

theorem poll_none (F : Nat → Prop) (v : Nat) (P : VP) (s : VS) (ref : Int) (w : World) (h : Vot F w v P s) (hc : ¬ (0 ≤ ref ∧ ref < 12) ∨ ∃ i : Nat, ref = (i : Int) ∧ i < 12 ∧ P.pp[i]? = some none) : Calls Tryz.prog 46 #[.pointer (some ⟨v, 0, none⟩), .int .i64 ref] w fun e w' => e = .returned (.pointer none) ∧ Keep none_ w w' := by
  rcases hc with hc | ⟨i, rfl, hi, e⟩
  · exact pollfn_out v ref w hc
  · exact pollfn_at v P.gv P.gr i P.pp none w h.vblk.2 h.vblk.1 hi e

theorem grid_get_some {F : Nat → Prop} {g : Nat} {cs : List GR.Ci} {a b : Int} {x : Option Addr} {w : World} (h : GR.Grd F w g cs) (e : GR.getC a b cs = some x) : Calls Tryz.prog 87 #[.pointer (some ⟨g, 0, none⟩), .int .i64 a, .int .i64 b] w fun e w' => e = .returned (.tuple #[.pointer x, .bool true]) ∧ Keep none_ w w' :=
  (GR.get_spec F g cs a b w h.gr).mono (by rintro e' w' ⟨rfl, hk⟩; exact ⟨by rw [e]; rfl, hk⟩)
theorem grid_get_none {F : Nat → Prop} {g : Nat} {cs : List GR.Ci} {a b : Int} {w : World} (h : GR.Grd F w g cs) (e : GR.getC a b cs = none) : Calls Tryz.prog 87 #[.pointer (some ⟨g, 0, none⟩), .int .i64 a, .int .i64 b] w fun e w' => e = .returned (.tuple #[.pointer none, .bool false]) ∧ Keep none_ w w' :=
  (GR.get_spec F g cs a b w h.gr).mono (by rintro e' w' ⟨rfl, hk⟩; exact ⟨by rw [e]; rfl, hk⟩)
theorem sorted_len {l : List Int} {N : Nat} (hs : l.Pairwise (· < ·)) (hb : ∀ x ∈ l, 0 ≤ x ∧ x < N) : l.length ≤ N := by
  have key : ∀ (l : List Int) (lo : Int), l.Pairwise (· < ·) → (∀ x ∈ l, lo ≤ x ∧ x < N) → lo ≤ N → (l.length : Int) ≤ N - lo := by
    intro l
    induction l with
    | nil => intro lo _ _ h; simp; omega
    | cons x l ih =>
      intro lo hs hb hlo
      have h1 := hb x (List.mem_cons_self ..)
      have h2 := List.pairwise_cons.1 hs
      have h3 := ih (x + 1) h2.2 (fun y hy => ⟨by have := h2.1 y hy; omega, (hb y (List.mem_cons_of_mem _ hy)).2⟩) (by omega)
      simp only [List.length_cons]; omega
  have := key l 0 hs hb (by omega)
  omega
theorem GR.len40 {cs : List GR.Ci} (hs : GR.Srt cs) (hb : ∀ c ∈ cs, (0 ≤ c.a ∧ c.a < 10) ∧ (0 ≤ c.b ∧ c.b < 4)) : cs.length ≤ 40 := by
  have h1 : (cs.map fun c => c.a * 4 + c.b).length ≤ 40 := sorted_len (by
    rw [List.pairwise_map]
    refine List.Pairwise.imp_of_mem ?_ hs
    intro x y hx hy hxy
    have := hb x hx; have := hb y hy
    rcases hxy with h | h <;> omega) (by
    intro z hz
    obtain ⟨c, hc, rfl⟩ := List.mem_map.1 hz
    have := hb c hc; omega)
  simpa using h1
theorem GV.len120 {cs : List GV.Ci} (hs : GV.Srt cs) (hb : ∀ c ∈ cs, (0 ≤ c.a ∧ c.a < 10) ∧ (0 ≤ c.b ∧ c.b < 12)) : cs.length ≤ 120 := by
  have h1 : (cs.map fun c => c.a * 12 + c.b).length ≤ 120 := sorted_len (by
    rw [List.pairwise_map]
    refine List.Pairwise.imp_of_mem ?_ hs
    intro x y hx hy hxy
    have := hb x hx; have := hb y hy
    rcases hxy with h | h <;> omega) (by
    intro z hz
    obtain ⟨c, hc, rfl⟩ := List.mem_map.1 hz
    have := hb c hc; omega)
  simpa using h1

theorem set_grdO {F : Nat → Prop} {g : Nat} {cs : List GR.Ci} {a b : Int} {x : Option Addr} {w : World} (h : GR.Grd F w g cs) (hmax : cs.length < 100000) : Calls Tryz.prog 88 #[.pointer (some ⟨g, 0, none⟩), .int .i64 a, .int .i64 b, .pointer x] w fun e w' => e = .returned (.tuple #[]) ∧ (∃ F', GR.Grd F' w' g (GR.setC a b x cs) ∧ (∀ q, F' q → F q ∨ w.heap.size ≤ q)) ∧ Keep (only g) w w' :=
  (GR.set_spec (fun q => F q ∨ w.heap.size ≤ q) g cs a b x w (h.gr.mono (fun _ h => .inl h)) (fun _ h => .inr h) hmax).mono (by
    rintro e w' ⟨rfl, h1, h2⟩
    exact ⟨rfl, ⟨GR.more F w w', GR.Grd.of h1 (.inl h.at_) (fun q hq hD => hD.imp id (fun h => ⟨h, hq⟩)) (fun q hq => by rcases hq with hq | hq; exact Nat.lt_of_lt_of_le (h.lt q hq) h2.size; exact hq.2), fun q hq => hq.imp id (·.1)⟩, h2⟩)
theorem GR.Grd.ne {F : Nat → Prop} {g : Nat} {cs : List GR.Ci} {w : World} (h : GR.Grd F w g cs) {x : Nat} {L : List Value} {t : TypeId} (hx : Blk w x L t) (ht : t ≠ 175) : x ≠ g := by
  obtain ⟨_, _, _, _, A, cap, h5, _⟩ := h
  exact Blk.ne hx h5.blk ht

set_option maxRecDepth 10000 in
theorem record_has (v gv gr : Nat) (pp : List (Option Addr)) (rs : List GR.Ci) (F2 : Nat → Prop) (a t : Int) (q : Nat) (w : World) (hv : Blk w v (pp.map Value.pointer ++ [.pointer (some ⟨gv, 0, none⟩), .pointer (some ⟨gr, 0, none⟩)]) 94) (hlen : pp.length = 12) (hG : GR.Grd F2 w gr rs) (ha : 0 ≤ a ∧ a < 10) (ht : 0 ≤ t ∧ t < 4) (e : GR.getC a t rs = some (some ⟨q, 0, none⟩)) : Calls Tryz.prog 48 #[.pointer (some ⟨v, 0, none⟩), .int .i64 a, .int .i64 t] w fun e w' => e = .returned (.pointer (some ⟨q, 0, none⟩)) ∧ Keep none_ w w' := by
 have hK0 : Keep none_ w w := Keep.refl _ _
 have hzhK0 := Keep.size hK0
 refine enterV Tryz.func48 rfl [pt v, nt a, nt t] 46 rfl rfl rfl ?_
 refine V_pick [(0, pt v), (1, nt a), (2, nt t)] rfl ?_
 refine V_seq ?_
 refine V_region ?_
 refine OI_static 1 [(0, pt v), (1, nt a), (2, nt t)] (by kernel_rfl) ?_
 refine OI_end rfl ?_
 refine X_then ?_
 refine V_seq ?_
 refine V_seq ?_
 refine V_region ?_
 refine OI_static 4 [(0, pt v), (1, nt a), (2, nt t), (11, .bool false), (12, nt a)] (by kernel_rfl) ?_
 refine OI_call { callee := (Callee.value (Operand.func 47)), args := #[(Operand.tmp 12)], argTypes := #[3] } 47 #[nt a] (some 13) (by kernel_rfl) (by kernel_rfl) (by kernel_rfl) (isAcc_spec a _) ?_
 rintro _ w ⟨rfl, rfl⟩
 refine ⟨_, rfl, ?_⟩
 refine OI_static 8 [(0, pt v), (1, nt a), (2, nt t), (16, .bool (!(decide (0 ≤ a ∧ a ≤ 9))))] (by kernel_rfl) ?_
 refine OI_eq [(0, pt v), (1, nt a), (2, nt t), (16, .bool false)] (by rw [decide_eq_true (by omega : 0 ≤ a ∧ a ≤ 9)]; rfl) ?_
 refine OI_static 9 [(0, pt v), (1, nt a), (2, nt t), (16, .bool false), (17, nt t)] (by kernel_rfl) ?_
 refine OI_call { callee := (Callee.value (Operand.func 45)), args := #[(Operand.tmp 17)], argTypes := #[3] } 45 #[nt t] (some 18) (by kernel_rfl) (by kernel_rfl) (by kernel_rfl) (isTrk_spec t _) ?_
 rintro _ w ⟨rfl, rfl⟩
 refine ⟨_, rfl, ?_⟩
 refine OI_static 12 [(0, pt v), (1, nt a), (2, nt t), (20, .bool (!(decide (0 ≤ t ∧ t ≤ 3))))] (by kernel_rfl) ?_
 refine OI_end rfl ?_
 refine X_then ?_
 refine V_eq [(0, pt v), (1, nt a), (2, nt t), (20, .bool false)] (by rw [decide_eq_true (by omega : 0 ≤ t ∧ t ≤ 3)]; rfl) ?_
 refine V_false rfl ?_
 refine V_skip ?_
 refine X_then ?_
 refine V_seq ?_
 refine V_region ?_
 refine OI_static 3 [(0, pt v), (1, nt a), (2, nt t), (26, .pointer (some ⟨v, 13, none⟩))] (by kernel_rfl) ?_
 refine OI_cell 92 (.tmp 26) 13 (pt gr) (some 27) (by kernel_rfl) (by kernel_rfl) hv (m := 1) (by kernel_rfl) (by rw [List.getElem?_append_right (by rw [List.length_map]; omega), List.length_map, hlen]; rfl) ?_
 refine OI_static 6 [(0, pt v), (1, nt a), (2, nt t), (27, pt gr), (28, nt a), (29, nt t)] (by kernel_rfl) ?_
 refine OI_call { callee := (Callee.value (Operand.func 87)), args := #[(Operand.tmp 27), (Operand.tmp 28), (Operand.tmp 29)], argTypes := #[92, 3, 3] } 87 #[pt gr, nt a, nt t] (some 30) (by kernel_rfl) (by kernel_rfl) (by kernel_rfl) (grid_get_some hG e) ?_
 rintro _ w9 ⟨rfl, hk10⟩
 refine ⟨_, rfl, ?_⟩
 have hsz11 := Keep.size hk10
 replace hv := hv.keep hk10 (fun f => f)
 replace hK0 := Keep.tr hK0 (Keep.ofNone hk10)
 refine OI_static 12 [(0, pt v), (1, nt a), (2, nt t), (7, pt q), (8, .bool true)] (by kernel_rfl) ?_
 refine OI_end rfl ?_
 refine X_then ?_
 refine V_seq ?_
 refine V_seq ?_
 refine V_region ?_
 refine OI_static 2 [(0, pt v), (1, nt a), (2, nt t), (7, pt q), (34, .bool false)] (by kernel_rfl) ?_
 refine OI_end rfl ?_
 refine X_then ?_
 refine V_false rfl ?_
 refine V_skip ?_
 refine X_then ?_
 refine V_seq ?_
 refine V_region ?_
 refine OI_static 2 [(6, pt q)] (by kernel_rfl) ?_
 refine OI_end rfl ?_
 refine X_then ?_
 refine V_ret ?_
 exact X_return (pt q) rfl ⟨rfl, hK0⟩

set_option maxRecDepth 10000 in
theorem record_new (v gv gr : Nat) (pp : List (Option Addr)) (rs : List GR.Ci) (F2 : Nat → Prop) (a t : Int) (w : World) (hv : Blk w v (pp.map Value.pointer ++ [.pointer (some ⟨gv, 0, none⟩), .pointer (some ⟨gr, 0, none⟩)]) 94) (hlen : pp.length = 12) (hG : GR.Grd F2 w gr rs) (ha : 0 ≤ a ∧ a < 10) (ht : 0 ≤ t ∧ t < 4) (e : GR.getC a t rs = none) (hmax : rs.length < 100000) (hF2v : ∀ q, F2 q → q ≠ v) : Calls Tryz.prog 48 #[.pointer (some ⟨v, 0, none⟩), .int .i64 a, .int .i64 t] w fun e w' => ∃ (b : Nat) (F2' : Nat → Prop), e = .returned (.pointer (some ⟨b, 0, none⟩)) ∧ w.heap.size ≤ b ∧ Blk w' b (RecS.cells none RecS.zero) 99 ∧ GR.Grd F2' w' gr (GR.setC a t (some ⟨b, 0, none⟩) rs) ∧ (∀ q, F2' q → F2 q ∨ w.heap.size ≤ q) ∧ ¬ F2' b ∧ Keep (only gr) w w' := by
 have hF2lt := GR.Grd.lt hG
 have hgrlt := hF2lt _ (GR.Grd.at_ hG)
 have hvlt := hv.lt
 have hgrv := hF2v _ (GR.Grd.at_ hG)
 have hK0 : Keep (only gr) w w := Keep.refl _ _
 have hzhK0 := Keep.size hK0
 refine enterV Tryz.func48 rfl [pt v, nt a, nt t] 46 rfl rfl rfl ?_
 refine V_pick [(0, pt v), (1, nt a), (2, nt t)] rfl ?_
 refine V_seq ?_
 refine V_region ?_
 refine OI_static 1 [(0, pt v), (1, nt a), (2, nt t)] (by kernel_rfl) ?_
 refine OI_end rfl ?_
 refine X_then ?_
 refine V_seq ?_
 refine V_seq ?_
 refine V_region ?_
 refine OI_static 4 [(0, pt v), (1, nt a), (2, nt t), (11, .bool false), (12, nt a)] (by kernel_rfl) ?_
 refine OI_call { callee := (Callee.value (Operand.func 47)), args := #[(Operand.tmp 12)], argTypes := #[3] } 47 #[nt a] (some 13) (by kernel_rfl) (by kernel_rfl) (by kernel_rfl) (isAcc_spec a _) ?_
 rintro _ w ⟨rfl, rfl⟩
 refine ⟨_, rfl, ?_⟩
 refine OI_static 8 [(0, pt v), (1, nt a), (2, nt t), (16, .bool (!(decide (0 ≤ a ∧ a ≤ 9))))] (by kernel_rfl) ?_
 refine OI_eq [(0, pt v), (1, nt a), (2, nt t), (16, .bool false)] (by rw [decide_eq_true (by omega : 0 ≤ a ∧ a ≤ 9)]; rfl) ?_
 refine OI_static 9 [(0, pt v), (1, nt a), (2, nt t), (16, .bool false), (17, nt t)] (by kernel_rfl) ?_
 refine OI_call { callee := (Callee.value (Operand.func 45)), args := #[(Operand.tmp 17)], argTypes := #[3] } 45 #[nt t] (some 18) (by kernel_rfl) (by kernel_rfl) (by kernel_rfl) (isTrk_spec t _) ?_
 rintro _ w ⟨rfl, rfl⟩
 refine ⟨_, rfl, ?_⟩
 refine OI_static 12 [(0, pt v), (1, nt a), (2, nt t), (20, .bool (!(decide (0 ≤ t ∧ t ≤ 3))))] (by kernel_rfl) ?_
 refine OI_end rfl ?_
 refine X_then ?_
 refine V_eq [(0, pt v), (1, nt a), (2, nt t), (20, .bool false)] (by rw [decide_eq_true (by omega : 0 ≤ t ∧ t ≤ 3)]; rfl) ?_
 refine V_false rfl ?_
 refine V_skip ?_
 refine X_then ?_
 refine V_seq ?_
 refine V_region ?_
 refine OI_static 3 [(0, pt v), (1, nt a), (2, nt t), (26, .pointer (some ⟨v, 13, none⟩))] (by kernel_rfl) ?_
 refine OI_cell 92 (.tmp 26) 13 (pt gr) (some 27) (by kernel_rfl) (by kernel_rfl) hv (m := 1) (by kernel_rfl) (by rw [List.getElem?_append_right (by rw [List.length_map]; omega), List.length_map, hlen]; rfl) ?_
 refine OI_static 6 [(0, pt v), (1, nt a), (2, nt t), (27, pt gr), (28, nt a), (29, nt t)] (by kernel_rfl) ?_
 refine OI_call { callee := (Callee.value (Operand.func 87)), args := #[(Operand.tmp 27), (Operand.tmp 28), (Operand.tmp 29)], argTypes := #[92, 3, 3] } 87 #[pt gr, nt a, nt t] (some 30) (by kernel_rfl) (by kernel_rfl) (by kernel_rfl) (grid_get_none hG e) ?_
 rintro _ w9 ⟨rfl, hk10⟩
 refine ⟨_, rfl, ?_⟩
 have hsz11 := Keep.size hk10
 replace hv := hv.keep hk10 (fun f => f)
 replace hG := GR.Grd.keep hG hk10 (fun _ _ f => f)
 replace hK0 := Keep.tr hK0 (Keep.ofNone hk10)
 refine OI_static 12 [(0, pt v), (1, nt a), (2, nt t), (7, .pointer none), (8, .bool false)] (by kernel_rfl) ?_
 refine OI_end rfl ?_
 refine X_then ?_
 refine V_seq ?_
 refine V_seq ?_
 refine V_region ?_
 refine OI_static 2 [(0, pt v), (1, nt a), (2, nt t), (7, .pointer none), (34, .bool true)] (by kernel_rfl) ?_
 refine OI_end rfl ?_
 refine X_then ?_
 refine V_true rfl ?_
 refine V_seq ?_
 refine V_region ?_
 refine OI_static 1 [(0, pt v), (1, nt a), (2, nt t), (35, .agg #[.pointer none, nt 0, nt 0, nt 0, nt 0])] (by kernel_rfl) ?_
 refine OI_box 99 (.tmp 35) (.agg #[.pointer none, nt 0, nt 0, nt 0, nt 0]) [.pointer none, nt 0, nt 0, nt 0, nt 0] (some 36) (by kernel_rfl) (by kernel_rfl) (by kernel_rfl) ?_
 intro b12 w12 e12 hb12 k12 z12
 have hsz13 := Keep.size k12
 replace hv := hv.keep k12 (fun f => f)
 replace hG := GR.Grd.keep hG k12 (fun _ _ f => f)
 replace hK0 := Keep.tr hK0 (Keep.ofNone k12)
 have hb12lt := hb12.lt
 refine OI_static 3 [(0, pt v), (1, nt a), (2, nt t), (7, pt b12)] (by kernel_rfl) ?_
 refine OI_end rfl ?_
 refine X_then ?_
 refine V_region ?_
 refine OI_static 3 [(1, nt a), (2, nt t), (7, pt b12), (39, .pointer (some ⟨v, 13, none⟩))] (by kernel_rfl) ?_
 refine OI_cell 92 (.tmp 39) 13 (pt gr) (some 40) (by kernel_rfl) (by kernel_rfl) hv (m := 1) (by kernel_rfl) (by rw [List.getElem?_append_right (by rw [List.length_map]; omega), List.length_map, hlen]; rfl) ?_
 refine OI_static 7 [(7, pt b12), (40, pt gr), (41, nt a), (42, nt t), (43, pt b12)] (by kernel_rfl) ?_
 refine OI_call { callee := (Callee.value (Operand.func 88)), args := #[(Operand.tmp 40), (Operand.tmp 41), (Operand.tmp 42), (Operand.tmp 43)], argTypes := #[92, 3, 3, 95] } 88 #[pt gr, nt a, nt t, pt b12] (some 44) (by kernel_rfl) (by kernel_rfl) (by kernel_rfl) (set_grdO (a := a) (b := t) (x := (some ⟨b12, 0, none⟩)) hG hmax) ?_
 rintro _ w16 ⟨rfl, ⟨F18, ho19, hfr20⟩, hk17⟩
 refine ⟨_, rfl, ?_⟩
 have hsz21 := Keep.size hk17
 replace hv := hv.keep hk17 (by show ¬ (_ = _); omega)
 replace hb12 := hb12.keep hk17 (by show ¬ (_ = _); omega)
 replace hK0 := Keep.fresh hK0 hk17 (by intro i hi hs; first | exact hs | exact Or.inl hs | exact Or.inr hs | (exfalso; have hs2 : i = gr := hs; omega))
 have own23 : ∀ q, F18 q → q ≠ v ∧ q ≠ v ∧ q ≠ b12 := fun q hq => by rcases hfr20 q hq with h | h; (have h1 := hF2v q h; have h2 := hF2lt q h; omega); omega
 have lt22 := GR.Grd.lt ho19
 refine OI_end rfl ?_
 refine X_then ?_
 refine V_seq ?_
 refine V_region ?_
 refine OI_static 2 [(6, pt b12)] (by kernel_rfl) ?_
 refine OI_end rfl ?_
 refine X_then ?_
 refine V_ret ?_
 exact X_return (pt b12) rfl ⟨b12, F18, rfl, by omega, hb12, ho19, (fun x hx => by rcases hfr20 x hx with h | h; exact .inl h; exact .inr (by omega)), (fun hx => by have h1 := own23 _ hx; omega), hK0⟩

theorem record_spec (F : Nat → Prop) (v : Nat) (P : VP) (s : VS) (a t : Int) (w : World) (h : Vot F w v P s) (ha : 0 ≤ a ∧ a < 10) (ht : 0 ≤ t ∧ t < 4) : Calls Tryz.prog 48 #[.pointer (some ⟨v, 0, none⟩), .int .i64 a, .int .i64 t] w fun e w' => ∃ (b : Nat) (P' : VP), e = .returned (.pointer (some ⟨b, 0, none⟩)) ∧ GR.getC a t P'.rs = some (some ⟨b, 0, none⟩) ∧ P'.pp = P.pp ∧ P'.gv = P.gv ∧ (∀ x y z, GR.getC x y P.rs = some z → GR.getC x y P'.rs = some z) ∧ (∀ x L, Blk w x L 101 → Blk w' x L 101) ∧ (∃ F', Vot F' w' v P' s ∧ (∀ q, F' q → F q ∨ w.heap.size ≤ q)) ∧ Keep F w w' := by
  obtain ⟨F1, F2, M, hX, h1, h2, h3, h4⟩ := h
  rcases hX.recs a t with ⟨e, _⟩ | ⟨q, e, _⟩
  · have hl := GR.len40 hX.gr.1 hX.keys
    refine (record_new v P.gv P.gr P.pp P.rs F2 a t w hX.blk hX.len hX.gr ha ht e (by omega) (fun q hq he => hX.d2 q hq (he ▸ hX.mv))).mono ?_
    rintro e' w' ⟨b, F2', rfl, hge, hb, hG, hfr, hnb, hk⟩
    have hk2 : Keep F2 w w' := hk.mono (fun q _ hq => by rw [show q = P.gr from hq]; exact hX.gr.at_)
    refine ⟨b, { P with rs := GR.setC a t (some ⟨b, 0, none⟩) P.rs }, rfl, ?_, rfl, rfl, ?_, fun x L hx => hx.keep hk (hX.gr.ne hx (by decide)), Vot.addRec hX h1 h2 h3 h4 ha ht e hk2 hG hfr hb hge hnb, hk2.mono (fun q _ hq => h2 q hq)⟩
    · show GR.getC a t (GR.setC a t _ P.rs) = _
      rw [GR.getC_set a t _ _ hX.gr.1, if_pos ⟨rfl, rfl⟩]
    · intro x y z hz
      show GR.getC x y (GR.setC a t _ P.rs) = _
      rw [GR.getC_set a t _ _ hX.gr.1]
      by_cases he : x = a ∧ y = t
      · rw [he.1, he.2, e] at hz; cases hz
      · rw [if_neg he]; exact hz
  · refine (record_has v P.gv P.gr P.pp P.rs F2 a t q w hX.blk hX.len hX.gr ha ht e).mono ?_
    rintro e' w' ⟨rfl, hk⟩
    exact ⟨q, P, rfl, e, rfl, rfl, fun _ _ _ h => h, fun x L hx => hx.keep hk (fun f => f), ⟨F, Vot.keep ⟨F1, F2, M, hX, h1, h2, h3, h4⟩ hk (fun _ _ f => f), fun _ h => .inl h⟩, hk.ofNone⟩
end Go.Al


namespace Go.Al
open Go Go.RowKit Go.Proofs
def openE (s : VS) (ref t : Int) : Int := if ¬ (0 ≤ ref ∧ ref < 12) ∨ ¬ (0 ≤ t ∧ t < 4) then 1 else if (pollAt s ref).isSome then 5 else 0
def openS (s : VS) (ref t : Int) : VS := if openE s ref t = 0 then s.setP ref.toNat ⟨t, Tly.zero, 0, 0⟩ else s
def closeE (s : VS) (ref st : Int) : Int := match pollAt s ref with | none => 4 | some q => if q.state ≠ 0 then 9 else if ¬ (2 ≤ st ∧ st ≤ 6) then 1 else 0
def closeS (s : VS) (ref st e : Int) : VS := match pollAt s ref with | none => s | some q => if closeE s ref st = 0 then s.setP ref.toNat { q with state := st, stop := e } else s
def tallyT (s : VS) (ref : Int) : Tly := match pollAt s ref with | none => Tly.zero | some q => q.t

set_option maxRecDepth 10000 in
theorem open_bad (v : Nat) (ref t : Int) (w : World) (hr : ¬ (0 ≤ ref ∧ ref < 12) ∨ ¬ (0 ≤ t ∧ t < 4)) : Calls Tryz.prog 16 #[pt v, .int .i64 ref, .int .i64 t] w fun e w' => e = .returned (.int .i64 1) ∧ Keep none_ w w' := by
 have hK0 : Keep none_ w w := Keep.refl _ _
 have hzhK0 := Keep.size hK0
 refine enterV Tryz.func16 rfl [pt v, nt ref, nt t] 33 rfl rfl rfl ?_
 refine V_pick [(0, pt v), (1, nt ref), (2, nt t)] rfl ?_
 refine V_seq ?_
 refine V_region ?_
 refine OI_static 1 [(0, pt v), (1, nt ref), (2, nt t)] (by kernel_rfl) ?_
 refine OI_end rfl ?_
 refine X_then ?_
 refine V_seq ?_
 refine V_block ?_
 refine V_seq ?_
 refine V_region ?_
 refine OI_static 4 [(0, pt v), (1, nt ref), (2, nt t), (10, .bool false), (11, nt ref)] (by kernel_rfl) ?_
 refine OI_call { callee := (Callee.value (Operand.func 44)), args := #[(Operand.tmp 11), (Operand.const (Value.int IntKind.i64 0)), (Operand.const (Value.int IntKind.i64 11))], argTypes := #[3, 3, 3] } 44 #[nt ref, nt 0, nt 11] (some 12) (by kernel_rfl) (by kernel_rfl) (by kernel_rfl) (vIn_spec ref 0 11 _) ?_
 rintro _ w ⟨rfl, rfl⟩
 refine ⟨_, rfl, ?_⟩
 refine OI_static 8 [(0, pt v), (1, nt ref), (2, nt t), (15, .bool (!(decide ((0 : Int) ≤ ref ∧ ref ≤ 11))))] (by kernel_rfl) ?_
 by_cases hg2 : (0 : Int) ≤ ref ∧ ref ≤ 11
 ·
  refine OI_eq [(0, pt v), (1, nt ref), (2, nt t), (15, .bool false)] (by first | simp [hg2] | rfl) ?_
  refine OI_static 9 [(0, pt v), (1, nt ref), (2, nt t), (15, .bool false), (16, nt t)] (by kernel_rfl) ?_
  refine OI_call { callee := (Callee.value (Operand.func 45)), args := #[(Operand.tmp 16)], argTypes := #[3] } 45 #[nt t] (some 17) (by kernel_rfl) (by kernel_rfl) (by kernel_rfl) (isTrk_spec t _) ?_
  rintro _ w ⟨rfl, rfl⟩
  refine ⟨_, rfl, ?_⟩
  refine OI_static 13 [(0, pt v), (1, nt ref), (2, nt t), (7, .bool (!(decide (0 ≤ t ∧ t ≤ 3))))] (by kernel_rfl) ?_
  refine OI_end rfl ?_
  refine X_then ?_
  refine V_not (0 ≤ t ∧ t ≤ 3) (by kernel_rfl) (fun hc4 => ?_) (fun hc4 => ?_)
  ·
   refine V_seq ?_
   refine V_region ?_
   refine OI_static 1 [(6, nt 1)] (by kernel_rfl) ?_
   refine OI_end rfl ?_
   refine X_then ?_
   refine V_ret ?_
   refine X_ret_block ?_
   refine X_ret_then ?_
   exact X_return (nt 1) rfl ⟨rfl, hK0⟩
  ·
   exact (by omega : False).elim
 ·
  refine OI_eq [(0, pt v), (1, nt ref), (2, nt t), (15, .bool true)] (by first | simp [hg2] | rfl) ?_
  refine OI_static 13 [(0, pt v), (1, nt ref), (2, nt t), (7, .bool true)] (by kernel_rfl) ?_
  refine OI_end rfl ?_
  refine X_then ?_
  refine V_true rfl ?_
  refine V_seq ?_
  refine V_region ?_
  refine OI_static 1 [(6, nt 1)] (by kernel_rfl) ?_
  refine OI_end rfl ?_
  refine X_then ?_
  refine V_ret ?_
  refine X_ret_block ?_
  refine X_ret_then ?_
  exact X_return (nt 1) rfl ⟨rfl, hK0⟩

set_option maxRecDepth 10000 in
theorem open_has (v gv gr i : Nat) (pp : List (Option Addr)) (b : Nat) (t : Int) (w : World) (hv : Blk w v (pp.map Value.pointer ++ [.pointer (some ⟨gv, 0, none⟩), .pointer (some ⟨gr, 0, none⟩)]) 94) (hlen : pp.length = 12) (hi : i < 12) (hx : pp[i]? = some (some ⟨b, 0, none⟩)) (ht : 0 ≤ t ∧ t < 4) : Calls Tryz.prog 16 #[.pointer (some ⟨v, 0, none⟩), .int .i64 (i : Int), .int .i64 t] w fun e w' => e = .returned (.int .i64 5) ∧ Keep none_ w w' := by
 have hK0 : Keep none_ w w := Keep.refl _ _
 have hzhK0 := Keep.size hK0
 refine enterV Tryz.func16 rfl [pt v, nt ((i : Nat) : Int), nt t] 33 rfl rfl rfl ?_
 refine V_pick [(0, pt v), (1, nt ((i : Nat) : Int)), (2, nt t)] rfl ?_
 refine V_seq ?_
 refine V_region ?_
 refine OI_static 1 [(0, pt v), (1, nt ((i : Nat) : Int)), (2, nt t)] (by kernel_rfl) ?_
 refine OI_end rfl ?_
 refine X_then ?_
 refine V_seq ?_
 refine V_block ?_
 refine V_seq ?_
 refine V_region ?_
 refine OI_static 4 [(0, pt v), (1, nt ((i : Nat) : Int)), (2, nt t), (10, .bool false), (11, nt ((i : Nat) : Int))] (by kernel_rfl) ?_
 refine OI_call { callee := (Callee.value (Operand.func 44)), args := #[(Operand.tmp 11), (Operand.const (Value.int IntKind.i64 0)), (Operand.const (Value.int IntKind.i64 11))], argTypes := #[3, 3, 3] } 44 #[nt ((i : Nat) : Int), nt 0, nt 11] (some 12) (by kernel_rfl) (by kernel_rfl) (by kernel_rfl) (vIn_spec ((i : Nat) : Int) 0 11 _) ?_
 rintro _ w ⟨rfl, rfl⟩
 refine ⟨_, rfl, ?_⟩
 refine OI_static 8 [(0, pt v), (1, nt ((i : Nat) : Int)), (2, nt t), (15, .bool (!(decide ((0 : Int) ≤ ((i : Nat) : Int) ∧ ((i : Nat) : Int) ≤ 11))))] (by kernel_rfl) ?_
 refine OI_eq [(0, pt v), (1, nt ((i : Nat) : Int)), (2, nt t), (15, .bool false)] (by rw [decide_eq_true (by omega : (0 : Int) ≤ ((i : Nat) : Int) ∧ ((i : Nat) : Int) ≤ 11)]; rfl) ?_
 refine OI_static 9 [(0, pt v), (1, nt ((i : Nat) : Int)), (2, nt t), (15, .bool false), (16, nt t)] (by kernel_rfl) ?_
 refine OI_call { callee := (Callee.value (Operand.func 45)), args := #[(Operand.tmp 16)], argTypes := #[3] } 45 #[nt t] (some 17) (by kernel_rfl) (by kernel_rfl) (by kernel_rfl) (isTrk_spec t _) ?_
 rintro _ w ⟨rfl, rfl⟩
 refine ⟨_, rfl, ?_⟩
 refine OI_static 13 [(0, pt v), (1, nt ((i : Nat) : Int)), (2, nt t), (7, .bool (!(decide (0 ≤ t ∧ t ≤ 3))))] (by kernel_rfl) ?_
 refine OI_end rfl ?_
 refine X_then ?_
 refine V_eq [(0, pt v), (1, nt ((i : Nat) : Int)), (2, nt t), (7, .bool false)] (by rw [decide_eq_true (by omega : 0 ≤ t ∧ t ≤ 3)]; rfl) ?_
 refine V_false rfl ?_
 refine V_seq ?_
 refine V_region ?_
 refine OI_static 2 [(0, pt v), (1, nt ((i : Nat) : Int)), (2, nt t), (21, pt v), (22, nt ((i : Nat) : Int))] (by kernel_rfl) ?_
 refine OI_call { callee := (Callee.value (Operand.func 46)), args := #[(Operand.tmp 21), (Operand.tmp 22)], argTypes := #[31, 3] } 46 #[pt v, nt ((i : Nat) : Int)] (some 23) (by kernel_rfl) (by kernel_rfl) (by kernel_rfl) (pollfn_at v gv gr i pp (some ⟨b, 0, none⟩) _ hv hlen hi hx) ?_
 rintro _ w9 ⟨rfl, hk10⟩
 refine ⟨_, rfl, ?_⟩
 have hsz11 := Keep.size hk10
 replace hv := hv.keep hk10 (fun f => f)
 replace hK0 := Keep.tr hK0 (Keep.ofNone hk10)
 refine OI_static 5 [(0, pt v), (1, nt ((i : Nat) : Int)), (2, nt t), (20, .bool true)] (by kernel_rfl) ?_
 refine OI_end rfl ?_
 refine X_then ?_
 refine V_true rfl ?_
 refine V_seq ?_
 refine V_region ?_
 refine OI_static 1 [(6, nt 5)] (by kernel_rfl) ?_
 refine OI_end rfl ?_
 refine X_then ?_
 refine V_ret ?_
 refine X_ret_block ?_
 refine X_ret_then ?_
 exact X_return (nt 5) rfl ⟨rfl, hK0⟩

set_option maxRecDepth 10000 in
theorem open_new (v gv gr i : Nat) (pp : List (Option Addr)) (t : Int) (w : World) (hv : Blk w v (pp.map Value.pointer ++ [.pointer (some ⟨gv, 0, none⟩), .pointer (some ⟨gr, 0, none⟩)]) 94) (hlen : pp.length = 12) (hi : i < 12) (hx : pp[i]? = some none) (ht : 0 ≤ t ∧ t < 4) : Calls Tryz.prog 16 #[.pointer (some ⟨v, 0, none⟩), .int .i64 (i : Int), .int .i64 t] w fun e w' => ∃ b : Nat, e = .returned (.int .i64 0) ∧ w.heap.size ≤ b ∧ Blk w' b (PollS.cells ⟨t, Tly.zero, 0, 0⟩) 89 ∧ Blk w' v ((pp.set i (some ⟨b, 0, none⟩)).map Value.pointer ++ [.pointer (some ⟨gv, 0, none⟩), .pointer (some ⟨gr, 0, none⟩)]) 94 ∧ Keep (only v) w w' := by
 have hvlt := hv.lt
 have hK0 : Keep (only v) w w := Keep.refl _ _
 have hzhK0 := Keep.size hK0
 refine enterV Tryz.func16 rfl [pt v, nt ((i : Nat) : Int), nt t] 33 rfl rfl rfl ?_
 refine V_pick [(0, pt v), (1, nt ((i : Nat) : Int)), (2, nt t)] rfl ?_
 refine V_seq ?_
 refine V_region ?_
 refine OI_static 1 [(0, pt v), (1, nt ((i : Nat) : Int)), (2, nt t)] (by kernel_rfl) ?_
 refine OI_end rfl ?_
 refine X_then ?_
 refine V_seq ?_
 refine V_block ?_
 refine V_seq ?_
 refine V_region ?_
 refine OI_static 4 [(0, pt v), (1, nt ((i : Nat) : Int)), (2, nt t), (10, .bool false), (11, nt ((i : Nat) : Int))] (by kernel_rfl) ?_
 refine OI_call { callee := (Callee.value (Operand.func 44)), args := #[(Operand.tmp 11), (Operand.const (Value.int IntKind.i64 0)), (Operand.const (Value.int IntKind.i64 11))], argTypes := #[3, 3, 3] } 44 #[nt ((i : Nat) : Int), nt 0, nt 11] (some 12) (by kernel_rfl) (by kernel_rfl) (by kernel_rfl) (vIn_spec ((i : Nat) : Int) 0 11 _) ?_
 rintro _ w ⟨rfl, rfl⟩
 refine ⟨_, rfl, ?_⟩
 refine OI_static 8 [(0, pt v), (1, nt ((i : Nat) : Int)), (2, nt t), (15, .bool (!(decide ((0 : Int) ≤ ((i : Nat) : Int) ∧ ((i : Nat) : Int) ≤ 11))))] (by kernel_rfl) ?_
 refine OI_eq [(0, pt v), (1, nt ((i : Nat) : Int)), (2, nt t), (15, .bool false)] (by rw [decide_eq_true (by omega : (0 : Int) ≤ ((i : Nat) : Int) ∧ ((i : Nat) : Int) ≤ 11)]; rfl) ?_
 refine OI_static 9 [(0, pt v), (1, nt ((i : Nat) : Int)), (2, nt t), (15, .bool false), (16, nt t)] (by kernel_rfl) ?_
 refine OI_call { callee := (Callee.value (Operand.func 45)), args := #[(Operand.tmp 16)], argTypes := #[3] } 45 #[nt t] (some 17) (by kernel_rfl) (by kernel_rfl) (by kernel_rfl) (isTrk_spec t _) ?_
 rintro _ w ⟨rfl, rfl⟩
 refine ⟨_, rfl, ?_⟩
 refine OI_static 13 [(0, pt v), (1, nt ((i : Nat) : Int)), (2, nt t), (7, .bool (!(decide (0 ≤ t ∧ t ≤ 3))))] (by kernel_rfl) ?_
 refine OI_end rfl ?_
 refine X_then ?_
 refine V_eq [(0, pt v), (1, nt ((i : Nat) : Int)), (2, nt t), (7, .bool false)] (by rw [decide_eq_true (by omega : 0 ≤ t ∧ t ≤ 3)]; rfl) ?_
 refine V_false rfl ?_
 refine V_seq ?_
 refine V_region ?_
 refine OI_static 2 [(0, pt v), (1, nt ((i : Nat) : Int)), (2, nt t), (21, pt v), (22, nt ((i : Nat) : Int))] (by kernel_rfl) ?_
 refine OI_call { callee := (Callee.value (Operand.func 46)), args := #[(Operand.tmp 21), (Operand.tmp 22)], argTypes := #[31, 3] } 46 #[pt v, nt ((i : Nat) : Int)] (some 23) (by kernel_rfl) (by kernel_rfl) (by kernel_rfl) (pollfn_at v gv gr i pp none _ hv hlen hi hx) ?_
 rintro _ w9 ⟨rfl, hk10⟩
 refine ⟨_, rfl, ?_⟩
 have hsz11 := Keep.size hk10
 replace hv := hv.keep hk10 (fun f => f)
 replace hK0 := Keep.tr hK0 (Keep.ofNone hk10)
 refine OI_static 5 [(0, pt v), (1, nt ((i : Nat) : Int)), (2, nt t), (20, .bool false)] (by kernel_rfl) ?_
 refine OI_end rfl ?_
 refine X_then ?_
 refine V_false rfl ?_
 refine V_skip ?_
 refine X_block ?_
 refine X_then ?_
 refine V_seq ?_
 refine V_region ?_
 refine OI_static 4 [(25, pt v), (26, nt ((i : Nat) : Int)), (28, .agg #[nt t, nt 0, nt 0, nt 0, nt 0, nt 0])] (by kernel_rfl) ?_
 refine OI_box 89 (.tmp 28) (.agg #[nt t, nt 0, nt 0, nt 0, nt 0, nt 0]) [nt t, nt 0, nt 0, nt 0, nt 0, nt 0] (some 29) (by kernel_rfl) (by kernel_rfl) (by kernel_rfl) ?_
 intro b12 w12 e12 hb12 k12 z12
 have hsz13 := Keep.size k12
 replace hv := hv.keep k12 (fun f => f)
 replace hK0 := Keep.tr hK0 (Keep.ofNone k12)
 have hb12lt := hb12.lt
 refine OI_static 7 [(26, nt ((i : Nat) : Int)), (29, pt b12), (31, pt v)] (by kernel_rfl) ?_
 refine OI_pure (some 32) (.indexAddr 90 (.tmp 31) (.tmp 26)) (by kernel_rfl) (pure_idxArr (b := v) (o := 0) (m := 12) (kd := .i64) (j := i) (E := 86) (sz := 1) (by kernel_rfl) (by kernel_rfl) (by kernel_rfl) (by omega)) ?_
 refine OI_set (m := 1) (kd := false) 86 (.tmp 32) (.tmp 29) (0 + i * 1) (pt b12) [pt b12] none (by kernel_rfl) (by kernel_rfl) (by kernel_rfl) hv (by kernel_rfl) (by kernel_rfl) (by kernel_rfl) (by rw [List.length_append, List.length_map, hlen]; show 0 + i * 1 + 1 ≤ 14; omega) (by simp [Value.oneCell']) ?_
 intro w14 hv_17 hk15 hz16
 replace hv_17 : Blk w14 v ((pp.set i ((some ⟨b12, 0, none⟩))).map Value.pointer ++ [.pointer (some ⟨gv, 0, none⟩), .pointer (some ⟨gr, 0, none⟩)]) 94 := (by rw [over_pp (by omega)] at hv_17; exact hv_17)
 have hsz18 := Keep.size hk15
 replace hb12 := hb12.keep hk15 (by show ¬ (_ = _); omega)
 replace hK0 := Keep.fresh hK0 hk15 (by intro i hi hs; first | exact hs | exact Or.inl hs | exact Or.inr hs | (exfalso; have hs2 : i = v := hs; omega))
 refine OI_end rfl ?_
 refine X_then ?_
 refine V_seq ?_
 refine V_region ?_
 refine OI_static 1 [(6, nt 0)] (by kernel_rfl) ?_
 refine OI_end rfl ?_
 refine X_then ?_
 refine V_ret ?_
 exact X_return (nt 0) rfl ⟨b12, rfl, by omega, hb12, hv_17, hK0⟩

/-- The voting at v, wherever its parts lie. -/
def VotE (F : Nat → Prop) (w : World) (v : Nat) (s : VS) : Prop := ∃ P, Vot F w v P s
theorem VotE.lt {F : Nat → Prop} {w : World} {v : Nat} {s : VS} (h : VotE F w v s) : ∀ q, F q → q < w.heap.size := by obtain ⟨P, h⟩ := h; exact h.lt
theorem VotE.at_ {F : Nat → Prop} {w : World} {v : Nat} {s : VS} (h : VotE F w v s) : F v := by obtain ⟨P, h⟩ := h; exact h.at_
theorem VotE.inv {F : Nat → Prop} {w : World} {v : Nat} {s : VS} (h : VotE F w v s) : s.Inv := by obtain ⟨P, h⟩ := h; exact h.inv
theorem VotE.keep {S F : Nat → Prop} {w w' : World} {v : Nat} {s : VS} (h : VotE F w v s) (k : Keep S w w') (hS : ∀ q, F q → ¬ S q) : VotE F w' v s := by obtain ⟨P, h⟩ := h; exact ⟨P, h.keep k hS⟩
theorem VotE.quiet {N : Nat} {F : Nat → Prop} {w w' : World} {v : Nat} {s : VS} (h : VotE F w v s) (k : Keep (lb N w) w w') : VotE F w' v s := by obtain ⟨P, h⟩ := h; exact ⟨P, h.quiet k⟩
theorem VotE.same {F : Nat → Prop} {w w' : World} {v : Nat} {s : VS} (h : VotE F w v s) (k : Keep none_ w w') : (∃ F', VotE F' w' v s ∧ (∀ q, F' q → F q ∨ w.heap.size ≤ q)) ∧ Keep F w w' := ⟨⟨F, h.keep k (fun _ _ f => f), fun _ h => .inl h⟩, k.ofNone⟩

theorem open_spec (F : Nat → Prop) (v : Nat) (s : VS) (ref t : Int) (w : World) (h : VotE F w v s) : Calls Tryz.prog 16 #[.pointer (some ⟨v, 0, none⟩), .int .i64 ref, .int .i64 t] w fun e w' => e = .returned (.int .i64 (openE s ref t)) ∧ (∃ F', VotE F' w' v (openS s ref t) ∧ (∀ q, F' q → F q ∨ w.heap.size ≤ q)) ∧ Keep F w w' := by
  by_cases hr : ¬ (0 ≤ ref ∧ ref < 12) ∨ ¬ (0 ≤ t ∧ t < 4)
  · have he : openE s ref t = 1 := by unfold openE; rw [if_pos hr]
    have hs : openS s ref t = s := by unfold openS; rw [he, if_neg (by decide)]
    rw [he, hs]
    refine (open_bad v ref t w hr).mono ?_
    rintro e w' ⟨rfl, hk⟩
    exact ⟨rfl, h.same hk⟩
  · obtain ⟨P, hP⟩ := h
    have hr2 : (0 ≤ ref ∧ ref < 12) ∧ (0 ≤ t ∧ t < 4) := by omega
    rcases hP.pollcase ref with ⟨hn, hc⟩ | ⟨i, b, q, rfl, hi, e1, e2, hs⟩
    · rcases hc with hc | ⟨i, rfl, hi, e1⟩
      · exact absurd hr2.1 hc
      have he : openE s (i : Int) t = 0 := by unfold openE; rw [if_neg hr, hn]; rfl
      have hs : openS s (i : Int) t = s.setP i ⟨t, Tly.zero, 0, 0⟩ := by unfold openS; rw [he, if_pos rfl, Int.toNat_natCast]
      rw [he, hs]
      refine (open_new v P.gv P.gr i P.pp t w hP.vblk.2 hP.vblk.1 hi e1 hr2.2).mono ?_
      rintro e w' ⟨b, rfl, hge, hb, hv, hk⟩
      obtain ⟨F', hF, hfr⟩ := hP.addPoll hi e1 hk hv hb hge
      exact ⟨rfl, ⟨F', ⟨_, hF⟩, hfr⟩, hk.mono (fun q _ hq => by rw [show q = v from hq]; exact hP.at_)⟩
    · have he : openE s (i : Int) t = 5 := by unfold openE; rw [if_neg hr, hs]; rfl
      have hs : openS s (i : Int) t = s := by unfold openS; rw [he, if_neg (by decide)]
      rw [he, hs]
      refine (open_has v P.gv P.gr i P.pp b t w hP.vblk.2 hP.vblk.1 hi e1 hr2.2).mono ?_
      rintro e w' ⟨rfl, hk⟩
      exact ⟨rfl, VotE.same ⟨P, hP⟩ hk⟩

set_option maxRecDepth 10000 in
theorem close_out (v : Nat) (ref st en : Int) (w : World) (hr : ¬ (0 ≤ ref ∧ ref < 12)) : Calls Tryz.prog 32 #[.pointer (some ⟨v, 0, none⟩), .int .i64 ref, .int .i64 st, .int .i64 en] w fun e w' => e = .returned (.int .i64 4) ∧ Keep none_ w w' := by
 have hK0 : Keep none_ w w := Keep.refl _ _
 have hzhK0 := Keep.size hK0
 refine enterV Tryz.func32 rfl [pt v, nt ref, nt st, nt en] 37 rfl rfl rfl ?_
 refine V_pick [(0, pt v), (1, nt ref), (2, nt st), (3, nt en)] rfl ?_
 refine V_seq ?_
 refine V_region ?_
 refine OI_static 1 [(0, pt v), (1, nt ref), (2, nt st), (3, nt en)] (by kernel_rfl) ?_
 refine OI_end rfl ?_
 refine X_then ?_
 refine V_seq ?_
 refine V_region ?_
 refine OI_static 2 [(0, pt v), (2, nt st), (3, nt en), (10, pt v), (11, nt ref)] (by kernel_rfl) ?_
 refine OI_call { callee := (Callee.value (Operand.func 46)), args := #[(Operand.tmp 10), (Operand.tmp 11)], argTypes := #[31, 3] } 46 #[pt v, nt ref] (some 12) (by kernel_rfl) (by kernel_rfl) (by kernel_rfl) (pollfn_out v ref _ hr) ?_
 rintro _ w1 ⟨rfl, hk2⟩
 refine ⟨_, rfl, ?_⟩
 have hsz3 := Keep.size hk2
 replace hK0 := Keep.tr hK0 (Keep.ofNone hk2)
 refine OI_static 4 [(0, pt v), (2, nt st), (3, nt en), (9, .pointer none)] (by kernel_rfl) ?_
 refine OI_end rfl ?_
 refine X_then ?_
 refine V_seq ?_
 refine V_block ?_
 refine V_seq ?_
 refine V_region ?_
 refine OI_static 3 [(2, nt st), (3, nt en), (9, .pointer none), (13, .bool false)] (by kernel_rfl) ?_
 refine OI_end rfl ?_
 refine X_then ?_
 refine V_false rfl ?_
 refine V_seq ?_
 refine V_region ?_
 refine OI_static 3 [(2, nt st), (3, nt en), (9, .pointer none), (16, .bool true)] (by kernel_rfl) ?_
 refine OI_end rfl ?_
 refine X_then ?_
 refine V_true rfl ?_
 refine V_seq ?_
 refine V_region ?_
 refine OI_static 1 [(8, nt 4)] (by kernel_rfl) ?_
 refine OI_end rfl ?_
 refine X_then ?_
 refine V_ret ?_
 refine X_ret_block ?_
 refine X_ret_then ?_
 exact X_return (nt 4) rfl ⟨rfl, hK0⟩

set_option maxRecDepth 10000 in
theorem close_none (v gv gr i : Nat) (pp : List (Option Addr)) (st en : Int) (w : World) (hv : Blk w v (pp.map Value.pointer ++ [.pointer (some ⟨gv, 0, none⟩), .pointer (some ⟨gr, 0, none⟩)]) 94) (hlen : pp.length = 12) (hi : i < 12) (hx : pp[i]? = some none) : Calls Tryz.prog 32 #[.pointer (some ⟨v, 0, none⟩), .int .i64 (i : Int), .int .i64 st, .int .i64 en] w fun e w' => e = .returned (.int .i64 4) ∧ Keep none_ w w' := by
 have hK0 : Keep none_ w w := Keep.refl _ _
 have hzhK0 := Keep.size hK0
 refine enterV Tryz.func32 rfl [pt v, nt ((i : Nat) : Int), nt st, nt en] 37 rfl rfl rfl ?_
 refine V_pick [(0, pt v), (1, nt ((i : Nat) : Int)), (2, nt st), (3, nt en)] rfl ?_
 refine V_seq ?_
 refine V_region ?_
 refine OI_static 1 [(0, pt v), (1, nt ((i : Nat) : Int)), (2, nt st), (3, nt en)] (by kernel_rfl) ?_
 refine OI_end rfl ?_
 refine X_then ?_
 refine V_seq ?_
 refine V_region ?_
 refine OI_static 2 [(0, pt v), (2, nt st), (3, nt en), (10, pt v), (11, nt ((i : Nat) : Int))] (by kernel_rfl) ?_
 refine OI_call { callee := (Callee.value (Operand.func 46)), args := #[(Operand.tmp 10), (Operand.tmp 11)], argTypes := #[31, 3] } 46 #[pt v, nt ((i : Nat) : Int)] (some 12) (by kernel_rfl) (by kernel_rfl) (by kernel_rfl) (pollfn_at v gv gr i pp none _ hv hlen hi hx) ?_
 rintro _ w1 ⟨rfl, hk2⟩
 refine ⟨_, rfl, ?_⟩
 have hsz3 := Keep.size hk2
 replace hv := hv.keep hk2 (fun f => f)
 replace hK0 := Keep.tr hK0 (Keep.ofNone hk2)
 refine OI_static 4 [(0, pt v), (2, nt st), (3, nt en), (9, .pointer none)] (by kernel_rfl) ?_
 refine OI_end rfl ?_
 refine X_then ?_
 refine V_seq ?_
 refine V_block ?_
 refine V_seq ?_
 refine V_region ?_
 refine OI_static 3 [(2, nt st), (3, nt en), (9, .pointer none), (13, .bool false)] (by kernel_rfl) ?_
 refine OI_end rfl ?_
 refine X_then ?_
 refine V_false rfl ?_
 refine V_seq ?_
 refine V_region ?_
 refine OI_static 3 [(2, nt st), (3, nt en), (9, .pointer none), (16, .bool true)] (by kernel_rfl) ?_
 refine OI_end rfl ?_
 refine X_then ?_
 refine V_true rfl ?_
 refine V_seq ?_
 refine V_region ?_
 refine OI_static 1 [(8, nt 4)] (by kernel_rfl) ?_
 refine OI_end rfl ?_
 refine X_then ?_
 refine V_ret ?_
 refine X_ret_block ?_
 refine X_ret_then ?_
 exact X_return (nt 4) rfl ⟨rfl, hK0⟩

set_option maxRecDepth 10000 in
theorem close_bad (v gv gr i : Nat) (pp : List (Option Addr)) (b : Nat) (q : PollS) (st en : Int) (w : World) (hv : Blk w v (pp.map Value.pointer ++ [.pointer (some ⟨gv, 0, none⟩), .pointer (some ⟨gr, 0, none⟩)]) 94) (hlen : pp.length = 12) (hi : i < 12) (hx : pp[i]? = some (some ⟨b, 0, none⟩)) (hb : Blk w b q.cells 89) (hq : q.state ≠ 0 ∨ ¬ (2 ≤ st ∧ st ≤ 6)) : Calls Tryz.prog 32 #[.pointer (some ⟨v, 0, none⟩), .int .i64 (i : Int), .int .i64 st, .int .i64 en] w fun e w' => e = .returned (.int .i64 (if q.state ≠ 0 then 9 else 1)) ∧ Keep none_ w w' := by
 have hvlt := hv.lt
 have hblt := hb.lt
 have hK0 : Keep none_ w w := Keep.refl _ _
 have hzhK0 := Keep.size hK0
 refine enterV Tryz.func32 rfl [pt v, nt ((i : Nat) : Int), nt st, nt en] 37 rfl rfl rfl ?_
 refine V_pick [(0, pt v), (1, nt ((i : Nat) : Int)), (2, nt st), (3, nt en)] rfl ?_
 refine V_seq ?_
 refine V_region ?_
 refine OI_static 1 [(0, pt v), (1, nt ((i : Nat) : Int)), (2, nt st), (3, nt en)] (by kernel_rfl) ?_
 refine OI_end rfl ?_
 refine X_then ?_
 refine V_seq ?_
 refine V_region ?_
 refine OI_static 2 [(0, pt v), (2, nt st), (3, nt en), (10, pt v), (11, nt ((i : Nat) : Int))] (by kernel_rfl) ?_
 refine OI_call { callee := (Callee.value (Operand.func 46)), args := #[(Operand.tmp 10), (Operand.tmp 11)], argTypes := #[31, 3] } 46 #[pt v, nt ((i : Nat) : Int)] (some 12) (by kernel_rfl) (by kernel_rfl) (by kernel_rfl) (pollfn_at v gv gr i pp (some ⟨b, 0, none⟩) _ hv hlen hi hx) ?_
 rintro _ w1 ⟨rfl, hk2⟩
 refine ⟨_, rfl, ?_⟩
 have hsz3 := Keep.size hk2
 replace hv := hv.keep hk2 (fun f => f)
 replace hb := hb.keep hk2 (fun f => f)
 replace hK0 := Keep.tr hK0 (Keep.ofNone hk2)
 refine OI_static 4 [(0, pt v), (2, nt st), (3, nt en), (9, pt b)] (by kernel_rfl) ?_
 refine OI_end rfl ?_
 refine X_then ?_
 refine V_seq ?_
 refine V_block ?_
 refine V_seq ?_
 refine V_region ?_
 refine OI_static 3 [(2, nt st), (3, nt en), (9, pt b), (13, .bool false)] (by kernel_rfl) ?_
 refine OI_end rfl ?_
 refine X_then ?_
 refine V_false rfl ?_
 refine V_seq ?_
 refine V_region ?_
 refine OI_static 3 [(2, nt st), (3, nt en), (9, pt b), (16, .bool false)] (by kernel_rfl) ?_
 refine OI_end rfl ?_
 refine X_then ?_
 refine V_false rfl ?_
 refine V_seq ?_
 refine V_region ?_
 refine OI_static 3 [(2, nt st), (3, nt en), (9, pt b), (22, .pointer (some ⟨b, 4, none⟩))] (by kernel_rfl) ?_
 refine OI_cell 3 (.tmp 22) 4 (nt q.state) (some 23) (by kernel_rfl) (by kernel_rfl) hb (m := 1) (by kernel_rfl) rfl ?_
 refine OI_static 6 [(2, nt st), (3, nt en), (9, pt b), (19, .bool (!(decide (q.state = 0))))] (by kernel_rfl) ?_
 refine OI_end rfl ?_
 refine X_then ?_
 refine V_not (q.state = 0) (by kernel_rfl) (fun hc4 => ?_) (fun hc4 => ?_)
 ·
  refine V_seq ?_
  refine V_region ?_
  refine OI_static 1 [(8, nt 9)] (by kernel_rfl) ?_
  refine OI_end rfl ?_
  refine X_then ?_
  refine V_ret ?_
  refine X_ret_block ?_
  refine X_ret_then ?_
  exact X_return (nt 9) rfl ⟨by simp [*], hK0⟩
 ·
  refine V_seq ?_
  refine V_region ?_
  refine OI_static 1 [(2, nt st), (3, nt en), (9, pt b), (26, nt st)] (by kernel_rfl) ?_
  refine OI_call { callee := (Callee.value (Operand.func 44)), args := #[(Operand.tmp 26), (Operand.const (Value.int IntKind.i64 2)), (Operand.const (Value.int IntKind.i64 6))], argTypes := #[3, 3, 3] } 44 #[nt st, nt 2, nt 6] (some 27) (by kernel_rfl) (by kernel_rfl) (by kernel_rfl) (vIn_spec st 2 6 _) ?_
  rintro _ w1 ⟨rfl, rfl⟩
  refine ⟨_, rfl, ?_⟩
  refine OI_static 4 [(2, nt st), (3, nt en), (9, pt b), (25, .bool (!(decide ((2 : Int) ≤ st ∧ st ≤ 6))))] (by kernel_rfl) ?_
  refine OI_end rfl ?_
  refine X_then ?_
  refine V_not ((2 : Int) ≤ st ∧ st ≤ 6) (by kernel_rfl) (fun hc8 => ?_) (fun hc8 => ?_)
  ·
   refine V_seq ?_
   refine V_region ?_
   refine OI_static 1 [(8, nt 1)] (by kernel_rfl) ?_
   refine OI_end rfl ?_
   refine X_then ?_
   refine V_ret ?_
   refine X_ret_block ?_
   refine X_ret_then ?_
   exact X_return (nt 1) rfl ⟨by simp [*], hK0⟩
  ·
   exact (by omega : False).elim

set_option maxRecDepth 10000 in
theorem close_ok (v gv gr i : Nat) (pp : List (Option Addr)) (b : Nat) (q : PollS) (st en : Int) (w : World) (hv : Blk w v (pp.map Value.pointer ++ [.pointer (some ⟨gv, 0, none⟩), .pointer (some ⟨gr, 0, none⟩)]) 94) (hlen : pp.length = 12) (hi : i < 12) (hx : pp[i]? = some (some ⟨b, 0, none⟩)) (hb : Blk w b q.cells 89) (hvb : v ≠ b) (hq : q.state = 0) (hs : 2 ≤ st ∧ st ≤ 6) : Calls Tryz.prog 32 #[.pointer (some ⟨v, 0, none⟩), .int .i64 (i : Int), .int .i64 st, .int .i64 en] w fun e w' => e = .returned (.int .i64 0) ∧ Blk w' b (PollS.cells { q with state := st, stop := en }) 89 ∧ Keep (only b) w w' := by
 have hvlt := hv.lt
 have hblt := hb.lt
 have hK0 : Keep (only b) w w := Keep.refl _ _
 have hzhK0 := Keep.size hK0
 refine enterV Tryz.func32 rfl [pt v, nt ((i : Nat) : Int), nt st, nt en] 37 rfl rfl rfl ?_
 refine V_pick [(0, pt v), (1, nt ((i : Nat) : Int)), (2, nt st), (3, nt en)] rfl ?_
 refine V_seq ?_
 refine V_region ?_
 refine OI_static 1 [(0, pt v), (1, nt ((i : Nat) : Int)), (2, nt st), (3, nt en)] (by kernel_rfl) ?_
 refine OI_end rfl ?_
 refine X_then ?_
 refine V_seq ?_
 refine V_region ?_
 refine OI_static 2 [(0, pt v), (2, nt st), (3, nt en), (10, pt v), (11, nt ((i : Nat) : Int))] (by kernel_rfl) ?_
 refine OI_call { callee := (Callee.value (Operand.func 46)), args := #[(Operand.tmp 10), (Operand.tmp 11)], argTypes := #[31, 3] } 46 #[pt v, nt ((i : Nat) : Int)] (some 12) (by kernel_rfl) (by kernel_rfl) (by kernel_rfl) (pollfn_at v gv gr i pp (some ⟨b, 0, none⟩) _ hv hlen hi hx) ?_
 rintro _ w1 ⟨rfl, hk2⟩
 refine ⟨_, rfl, ?_⟩
 have hsz3 := Keep.size hk2
 replace hv := hv.keep hk2 (fun f => f)
 replace hb := hb.keep hk2 (fun f => f)
 replace hK0 := Keep.tr hK0 (Keep.ofNone hk2)
 refine OI_static 4 [(0, pt v), (2, nt st), (3, nt en), (9, pt b)] (by kernel_rfl) ?_
 refine OI_end rfl ?_
 refine X_then ?_
 refine V_seq ?_
 refine V_block ?_
 refine V_seq ?_
 refine V_region ?_
 refine OI_static 3 [(2, nt st), (3, nt en), (9, pt b), (13, .bool false)] (by kernel_rfl) ?_
 refine OI_end rfl ?_
 refine X_then ?_
 refine V_false rfl ?_
 refine V_seq ?_
 refine V_region ?_
 refine OI_static 3 [(2, nt st), (3, nt en), (9, pt b), (16, .bool false)] (by kernel_rfl) ?_
 refine OI_end rfl ?_
 refine X_then ?_
 refine V_false rfl ?_
 refine V_seq ?_
 refine V_region ?_
 refine OI_static 3 [(2, nt st), (3, nt en), (9, pt b), (22, .pointer (some ⟨b, 4, none⟩))] (by kernel_rfl) ?_
 refine OI_cell 3 (.tmp 22) 4 (nt q.state) (some 23) (by kernel_rfl) (by kernel_rfl) hb (m := 1) (by kernel_rfl) rfl ?_
 refine OI_static 6 [(2, nt st), (3, nt en), (9, pt b), (19, .bool (!(decide (q.state = 0))))] (by kernel_rfl) ?_
 refine OI_end rfl ?_
 refine X_then ?_
 refine V_eq [(2, nt st), (3, nt en), (9, pt b), (19, .bool false)] (by rw [decide_eq_true (by omega : q.state = 0)]; rfl) ?_
 refine V_false rfl ?_
 refine V_seq ?_
 refine V_region ?_
 refine OI_static 1 [(2, nt st), (3, nt en), (9, pt b), (26, nt st)] (by kernel_rfl) ?_
 refine OI_call { callee := (Callee.value (Operand.func 44)), args := #[(Operand.tmp 26), (Operand.const (Value.int IntKind.i64 2)), (Operand.const (Value.int IntKind.i64 6))], argTypes := #[3, 3, 3] } 44 #[nt st, nt 2, nt 6] (some 27) (by kernel_rfl) (by kernel_rfl) (by kernel_rfl) (vIn_spec st 2 6 _) ?_
 rintro _ w1 ⟨rfl, rfl⟩
 refine ⟨_, rfl, ?_⟩
 refine OI_static 4 [(2, nt st), (3, nt en), (9, pt b), (25, .bool (!(decide ((2 : Int) ≤ st ∧ st ≤ 6))))] (by kernel_rfl) ?_
 refine OI_end rfl ?_
 refine X_then ?_
 refine V_eq [(2, nt st), (3, nt en), (9, pt b), (25, .bool false)] (by rw [decide_eq_true (by omega : (2 : Int) ≤ st ∧ st ≤ 6)]; rfl) ?_
 refine V_false rfl ?_
 refine V_skip ?_
 refine X_block ?_
 refine X_then ?_
 refine V_seq ?_
 refine V_region ?_
 refine OI_static 6 [(30, pt b), (31, nt st), (32, nt en), (34, .pointer (some ⟨b, 4, none⟩))] (by kernel_rfl) ?_
 refine OI_set (m := 1) (kd := false) 3 (.tmp 34) (.tmp 31) 4 (nt st) [nt st] none (by kernel_rfl) (by kernel_rfl) (by kernel_rfl) hb (by kernel_rfl) (by kernel_rfl) (by kernel_rfl) (Nat.le_of_ble_eq_true (by kernel_rfl)) (by simp [Value.oneCell']) ?_
 intro w9 hb_12 hk10 hz11
 replace hb_12 : Blk w9 b [nt q.track, nt q.t.a, nt q.t.n, nt q.t.s, nt st, nt q.stop] 89 := hb_12
 have hsz13 := Keep.size hk10
 replace hv := hv.keep hk10 (by show ¬ (_ = _); omega)
 replace hK0 := Keep.fresh hK0 hk10 (by intro i hi hs; first | exact hs | exact Or.inl hs | exact Or.inr hs | (exfalso; have hs2 : i = b := hs; omega))
 refine OI_static 9 [(32, nt en), (36, .pointer (some ⟨b, 5, none⟩))] (by kernel_rfl) ?_
 refine OI_set (m := 1) (kd := false) 3 (.tmp 36) (.tmp 32) 5 (nt en) [nt en] none (by kernel_rfl) (by kernel_rfl) (by kernel_rfl) hb_12 (by kernel_rfl) (by kernel_rfl) (by kernel_rfl) (Nat.le_of_ble_eq_true (by kernel_rfl)) (by simp [Value.oneCell']) ?_
 intro w14 hb_17 hk15 hz16
 replace hb_17 : Blk w14 b [nt q.track, nt q.t.a, nt q.t.n, nt q.t.s, nt st, nt en] 89 := hb_17
 have hsz18 := Keep.size hk15
 replace hv := hv.keep hk15 (by show ¬ (_ = _); omega)
 replace hK0 := Keep.fresh hK0 hk15 (by intro i hi hs; first | exact hs | exact Or.inl hs | exact Or.inr hs | (exfalso; have hs2 : i = b := hs; omega))
 refine OI_end rfl ?_
 refine X_then ?_
 refine V_seq ?_
 refine V_region ?_
 refine OI_static 1 [(8, nt 0)] (by kernel_rfl) ?_
 refine OI_end rfl ?_
 refine X_then ?_
 refine V_ret ?_
 exact X_return (nt 0) rfl ⟨rfl, hb_17, hK0⟩

theorem close_spec (F : Nat → Prop) (v : Nat) (s : VS) (ref st en : Int) (w : World) (h : VotE F w v s) : Calls Tryz.prog 32 #[.pointer (some ⟨v, 0, none⟩), .int .i64 ref, .int .i64 st, .int .i64 en] w fun e w' => e = .returned (.int .i64 (closeE s ref st)) ∧ (∃ F', VotE F' w' v (closeS s ref st en) ∧ (∀ q, F' q → F q ∨ w.heap.size ≤ q)) ∧ Keep F w w' := by
  obtain ⟨P, hP⟩ := h
  rcases hP.pollcase ref with ⟨hn, hc⟩ | ⟨i, b, q, rfl, hi, e1, e2, hs⟩
  · have he : closeE s ref st = 4 := by unfold closeE; rw [hn]
    have hs : closeS s ref st en = s := by unfold closeS; rw [hn]
    rw [he, hs]
    rcases hc with hc | ⟨i, rfl, hi, e1⟩
    · refine (close_out v ref st en w hc).mono ?_
      rintro e w' ⟨rfl, hk⟩
      exact ⟨rfl, VotE.same ⟨P, hP⟩ hk⟩
    · refine (close_none v P.gv P.gr i P.pp st en w hP.vblk.2 hP.vblk.1 hi e1).mono ?_
      rintro e w' ⟨rfl, hk⟩
      exact ⟨rfl, VotE.same ⟨P, hP⟩ hk⟩
  · obtain ⟨hb, hF⟩ := hP.pollB e1 e2
    by_cases hq : q.state ≠ 0 ∨ ¬ (2 ≤ st ∧ st ≤ 6)
    · have he : closeE s (i : Int) st = if q.state ≠ 0 then 9 else 1 := by
        unfold closeE; rw [hs]; dsimp only
        by_cases h9 : q.state ≠ 0
        · rw [if_pos h9, if_pos h9]
        · rw [if_neg h9, if_neg h9, if_pos (hq.resolve_left h9)]
      have hs2 : closeS s (i : Int) st en = s := by
        unfold closeS; rw [hs, he]; dsimp only
        rw [if_neg]; split <;> decide
      rw [he, hs2]
      refine (close_bad v P.gv P.gr i P.pp b q st en w hP.vblk.2 hP.vblk.1 hi e1 hb hq).mono ?_
      rintro e w' ⟨rfl, hk⟩
      exact ⟨rfl, VotE.same ⟨P, hP⟩ hk⟩
    · have hq2 : q.state = 0 ∧ (2 ≤ st ∧ st ≤ 6) := by omega
      have he : closeE s (i : Int) st = 0 := by unfold closeE; rw [hs]; dsimp only; rw [if_neg (by omega), if_neg (by omega)]
      have hs2 : closeS s (i : Int) st en = s.setP i { q with state := st, stop := en } := by unfold closeS; rw [hs, he]; dsimp only; rw [if_pos rfl, Int.toNat_natCast]
      rw [he, hs2]
      refine (close_ok v P.gv P.gr i P.pp b q st en w hP.vblk.2 hP.vblk.1 hi e1 hb (Blk.ne hP.vblk.2 hb (by decide)) hq2.1 hq2.2).mono ?_
      rintro e w' ⟨rfl, hb', hk⟩
      exact ⟨rfl, ⟨F, ⟨P, hP.setPoll e1 e2 hk hb'⟩, fun _ h => .inl h⟩, hk.mono (fun x _ hx => by rw [show x = b from hx]; exact hF)⟩

set_option maxRecDepth 10000 in
theorem tally_out (v : Nat) (ref : Int) (w : World) (hr : ¬ (0 ≤ ref ∧ ref < 12)) : Calls Tryz.prog 20 #[.pointer (some ⟨v, 0, none⟩), .int .i64 ref] w fun e w' => e = .returned (.agg (Tly.cells Tly.zero).toArray) ∧ Keep none_ w w' := by
 have hK0 : Keep none_ w w := Keep.refl _ _
 have hzhK0 := Keep.size hK0
 refine enterM Tryz.func20 rfl [pt v, nt ref] 16 rfl rfl rfl ?_
 refine V_pick [(0, pt v), (1, nt ref)] rfl ?_
 refine V_seq ?_
 refine V_region ?_
 refine OI_alloc 43 (.agg #[nt 0, nt 0, nt 0]) [nt 0, nt 0, nt 0] (some 4) (by kernel_rfl) (by kernel_rfl) (by kernel_rfl) ?_
 intro b1 w1 e1 hb1 k1 z1
 have hsz2 := Keep.size k1
 replace hK0 := Keep.tr hK0 (Keep.ofNone k1)
 have hb1lt := hb1.lt
 refine OI_end rfl ?_
 refine X_then ?_
 refine V_seq ?_
 refine V_region ?_
 refine OI_static 2 [(4, pt b1), (6, pt v), (7, nt ref)] (by kernel_rfl) ?_
 refine OI_call { callee := (Callee.value (Operand.func 46)), args := #[(Operand.tmp 6), (Operand.tmp 7)], argTypes := #[31, 3] } 46 #[pt v, nt ref] (some 8) (by kernel_rfl) (by kernel_rfl) (by kernel_rfl) (pollfn_out v ref _ hr) ?_
 rintro _ w3 ⟨rfl, hk4⟩
 refine ⟨_, rfl, ?_⟩
 have hsz5 := Keep.size hk4
 replace hb1 := hb1.keep hk4 (fun f => f)
 replace hK0 := Keep.tr hK0 (Keep.ofNone hk4)
 refine OI_static 4 [(4, pt b1), (5, .pointer none)] (by kernel_rfl) ?_
 refine OI_end rfl ?_
 refine X_then ?_
 refine V_seq ?_
 refine V_seq ?_
 refine V_region ?_
 refine OI_static 2 [(4, pt b1), (5, .pointer none), (10, .bool true)] (by kernel_rfl) ?_
 refine OI_end rfl ?_
 refine X_then ?_
 refine V_true rfl ?_
 refine V_seq ?_
 refine V_region ?_
 refine OI_static 1 [(4, pt b1), (11, .agg #[nt 0, nt 0, nt 0])] (by kernel_rfl) ?_
 refine OI_set (m := 3) (kd := true) 43 (.tmp 4) (.tmp 11) 0 (.agg #[nt 0, nt 0, nt 0]) [nt 0, nt 0, nt 0] none (by kernel_rfl) (by kernel_rfl) (by kernel_rfl) hb1 (by kernel_rfl) (by kernel_rfl) (by kernel_rfl) (Nat.le_of_ble_eq_true (by kernel_rfl)) (by simp [Value.oneCell']) ?_
 intro w6 hb1_9 hk7 hz8
 replace hb1_9 : Blk w6 b1 [nt 0, nt 0, nt 0] 43 := hb1_9
 have hsz10 := Keep.size hk7
 replace hK0 := Keep.fresh hK0 hk7 (by intro i hi hs; first | exact hs | exact Or.inl hs | exact Or.inr hs | (exfalso; have hs2 : i = b1 := hs; omega))
 refine OI_end rfl ?_
 refine X_then ?_
 refine V_ret ?_
 refine X_ret_then ?_
 exact leave0 (.agg [nt 0, nt 0, nt 0].toArray) (.inl rfl) (res_agg1 (m := 3) rfl rfl (by kernel_rfl) hb1_9 rfl) ⟨rfl, hK0⟩

set_option maxRecDepth 10000 in
theorem tally_none (v gv gr i : Nat) (pp : List (Option Addr)) (w : World) (hv : Blk w v (pp.map Value.pointer ++ [.pointer (some ⟨gv, 0, none⟩), .pointer (some ⟨gr, 0, none⟩)]) 94) (hlen : pp.length = 12) (hi : i < 12) (hx : pp[i]? = some none) : Calls Tryz.prog 20 #[.pointer (some ⟨v, 0, none⟩), .int .i64 (i : Int)] w fun e w' => e = .returned (.agg (Tly.cells Tly.zero).toArray) ∧ Keep none_ w w' := by
 have hvlt := hv.lt
 have hK0 : Keep none_ w w := Keep.refl _ _
 have hzhK0 := Keep.size hK0
 refine enterM Tryz.func20 rfl [pt v, nt ((i : Nat) : Int)] 16 rfl rfl rfl ?_
 refine V_pick [(0, pt v), (1, nt ((i : Nat) : Int))] rfl ?_
 refine V_seq ?_
 refine V_region ?_
 refine OI_alloc 43 (.agg #[nt 0, nt 0, nt 0]) [nt 0, nt 0, nt 0] (some 4) (by kernel_rfl) (by kernel_rfl) (by kernel_rfl) ?_
 intro b1 w1 e1 hb1 k1 z1
 have hsz2 := Keep.size k1
 replace hv := hv.keep k1 (fun f => f)
 replace hK0 := Keep.tr hK0 (Keep.ofNone k1)
 have hb1lt := hb1.lt
 refine OI_end rfl ?_
 refine X_then ?_
 refine V_seq ?_
 refine V_region ?_
 refine OI_static 2 [(4, pt b1), (6, pt v), (7, nt ((i : Nat) : Int))] (by kernel_rfl) ?_
 refine OI_call { callee := (Callee.value (Operand.func 46)), args := #[(Operand.tmp 6), (Operand.tmp 7)], argTypes := #[31, 3] } 46 #[pt v, nt ((i : Nat) : Int)] (some 8) (by kernel_rfl) (by kernel_rfl) (by kernel_rfl) (pollfn_at v gv gr i pp none _ hv hlen hi hx) ?_
 rintro _ w3 ⟨rfl, hk4⟩
 refine ⟨_, rfl, ?_⟩
 have hsz5 := Keep.size hk4
 replace hv := hv.keep hk4 (fun f => f)
 replace hb1 := hb1.keep hk4 (fun f => f)
 replace hK0 := Keep.tr hK0 (Keep.ofNone hk4)
 refine OI_static 4 [(4, pt b1), (5, .pointer none)] (by kernel_rfl) ?_
 refine OI_end rfl ?_
 refine X_then ?_
 refine V_seq ?_
 refine V_seq ?_
 refine V_region ?_
 refine OI_static 2 [(4, pt b1), (5, .pointer none), (10, .bool true)] (by kernel_rfl) ?_
 refine OI_end rfl ?_
 refine X_then ?_
 refine V_true rfl ?_
 refine V_seq ?_
 refine V_region ?_
 refine OI_static 1 [(4, pt b1), (11, .agg #[nt 0, nt 0, nt 0])] (by kernel_rfl) ?_
 refine OI_set (m := 3) (kd := true) 43 (.tmp 4) (.tmp 11) 0 (.agg #[nt 0, nt 0, nt 0]) [nt 0, nt 0, nt 0] none (by kernel_rfl) (by kernel_rfl) (by kernel_rfl) hb1 (by kernel_rfl) (by kernel_rfl) (by kernel_rfl) (Nat.le_of_ble_eq_true (by kernel_rfl)) (by simp [Value.oneCell']) ?_
 intro w6 hb1_9 hk7 hz8
 replace hb1_9 : Blk w6 b1 [nt 0, nt 0, nt 0] 43 := hb1_9
 have hsz10 := Keep.size hk7
 replace hv := hv.keep hk7 (by show ¬ (_ = _); omega)
 replace hK0 := Keep.fresh hK0 hk7 (by intro i hi hs; first | exact hs | exact Or.inl hs | exact Or.inr hs | (exfalso; have hs2 : i = b1 := hs; omega))
 refine OI_end rfl ?_
 refine X_then ?_
 refine V_ret ?_
 refine X_ret_then ?_
 exact leave0 (.agg [nt 0, nt 0, nt 0].toArray) (.inl rfl) (res_agg1 (m := 3) rfl rfl (by kernel_rfl) hb1_9 rfl) ⟨rfl, hK0⟩

set_option maxRecDepth 10000 in
theorem tally_some (v gv gr i : Nat) (pp : List (Option Addr)) (b : Nat) (q : PollS) (w : World) (hv : Blk w v (pp.map Value.pointer ++ [.pointer (some ⟨gv, 0, none⟩), .pointer (some ⟨gr, 0, none⟩)]) 94) (hlen : pp.length = 12) (hi : i < 12) (hx : pp[i]? = some (some ⟨b, 0, none⟩)) (hb : Blk w b q.cells 89) : Calls Tryz.prog 20 #[.pointer (some ⟨v, 0, none⟩), .int .i64 (i : Int)] w fun e w' => e = .returned (.agg (Tly.cells q.t).toArray) ∧ Keep none_ w w' := by
 have hvlt := hv.lt
 have hblt := hb.lt
 have hK0 : Keep none_ w w := Keep.refl _ _
 have hzhK0 := Keep.size hK0
 refine enterM Tryz.func20 rfl [pt v, nt ((i : Nat) : Int)] 16 rfl rfl rfl ?_
 refine V_pick [(0, pt v), (1, nt ((i : Nat) : Int))] rfl ?_
 refine V_seq ?_
 refine V_region ?_
 refine OI_alloc 43 (.agg #[nt 0, nt 0, nt 0]) [nt 0, nt 0, nt 0] (some 4) (by kernel_rfl) (by kernel_rfl) (by kernel_rfl) ?_
 intro b1 w1 e1 hb1 k1 z1
 have hsz2 := Keep.size k1
 replace hv := hv.keep k1 (fun f => f)
 replace hb := hb.keep k1 (fun f => f)
 replace hK0 := Keep.tr hK0 (Keep.ofNone k1)
 have hb1lt := hb1.lt
 refine OI_end rfl ?_
 refine X_then ?_
 refine V_seq ?_
 refine V_region ?_
 refine OI_static 2 [(4, pt b1), (6, pt v), (7, nt ((i : Nat) : Int))] (by kernel_rfl) ?_
 refine OI_call { callee := (Callee.value (Operand.func 46)), args := #[(Operand.tmp 6), (Operand.tmp 7)], argTypes := #[31, 3] } 46 #[pt v, nt ((i : Nat) : Int)] (some 8) (by kernel_rfl) (by kernel_rfl) (by kernel_rfl) (pollfn_at v gv gr i pp (some ⟨b, 0, none⟩) _ hv hlen hi hx) ?_
 rintro _ w3 ⟨rfl, hk4⟩
 refine ⟨_, rfl, ?_⟩
 have hsz5 := Keep.size hk4
 replace hv := hv.keep hk4 (fun f => f)
 replace hb := hb.keep hk4 (fun f => f)
 replace hb1 := hb1.keep hk4 (fun f => f)
 replace hK0 := Keep.tr hK0 (Keep.ofNone hk4)
 refine OI_static 4 [(4, pt b1), (5, pt b)] (by kernel_rfl) ?_
 refine OI_end rfl ?_
 refine X_then ?_
 refine V_seq ?_
 refine V_seq ?_
 refine V_region ?_
 refine OI_static 2 [(4, pt b1), (5, pt b), (10, .bool false)] (by kernel_rfl) ?_
 refine OI_end rfl ?_
 refine X_then ?_
 refine V_false rfl ?_
 refine V_skip ?_
 refine X_then ?_
 refine V_seq ?_
 refine V_region ?_
 refine OI_static 3 [(4, pt b1), (14, .pointer (some ⟨b, 1, none⟩))] (by kernel_rfl) ?_
 refine OI_agg 43 (.tmp 14) 1 [nt q.t.a, nt q.t.n, nt q.t.s] (some 15) (by kernel_rfl) (by kernel_rfl) hb (m := 3) (by kernel_rfl) rfl rfl ?_
 refine OI_set (m := 3) (kd := true) 43 (.tmp 4) (.tmp 15) 0 (.agg #[nt q.t.a, nt q.t.n, nt q.t.s]) [nt q.t.a, nt q.t.n, nt q.t.s] none (by kernel_rfl) (by kernel_rfl) (by kernel_rfl) hb1 (by kernel_rfl) (by kernel_rfl) (by kernel_rfl) (Nat.le_of_ble_eq_true (by kernel_rfl)) (by simp [Value.oneCell']) ?_
 intro w6 hb1_9 hk7 hz8
 replace hb1_9 : Blk w6 b1 [nt q.t.a, nt q.t.n, nt q.t.s] 43 := hb1_9
 have hsz10 := Keep.size hk7
 replace hv := hv.keep hk7 (by show ¬ (_ = _); omega)
 replace hb := hb.keep hk7 (by show ¬ (_ = _); omega)
 replace hK0 := Keep.fresh hK0 hk7 (by intro i hi hs; first | exact hs | exact Or.inl hs | exact Or.inr hs | (exfalso; have hs2 : i = b1 := hs; omega))
 refine OI_end rfl ?_
 refine X_then ?_
 refine V_ret ?_
 exact leave0 (.agg [nt q.t.a, nt q.t.n, nt q.t.s].toArray) (.inl rfl) (res_agg1 (m := 3) rfl rfl (by kernel_rfl) hb1_9 rfl) ⟨rfl, hK0⟩

theorem tally_spec (F : Nat → Prop) (v : Nat) (s : VS) (ref : Int) (w : World) (h : VotE F w v s) : Calls Tryz.prog 20 #[.pointer (some ⟨v, 0, none⟩), .int .i64 ref] w fun e w' => e = .returned (.agg (Tly.cells (tallyT s ref)).toArray) ∧ Keep none_ w w' := by
  obtain ⟨P, hP⟩ := h
  rcases hP.pollcase ref with ⟨hn, hc⟩ | ⟨i, b, q, rfl, hi, e1, e2, hs⟩
  · rw [show tallyT s ref = Tly.zero by unfold tallyT; rw [hn]]
    rcases hc with hc | ⟨i, rfl, hi, e1⟩
    · exact tally_out v ref w hc
    · exact tally_none v P.gv P.gr i P.pp w hP.vblk.2 hP.vblk.1 hi e1
  · rw [show tallyT s (i : Int) = q.t by unfold tallyT; rw [hs]]
    exact tally_some v P.gv P.gr i P.pp b q w hP.vblk.2 hP.vblk.1 hi e1 (hP.pollB e1 e2).1

theorem Vot.recN {F : Nat → Prop} {w : World} {v : Nat} {P : VP} {s : VS} (h : Vot F w v P s) {a t : Int} {q : Nat} (e : GR.getC a t P.rs = some (some ⟨q, 0, none⟩)) (hd : (s.rc a t).d = none) : F q ∧ Blk w q (RecS.cells none (s.rc a t)) 99 := by
  obtain ⟨hF, (⟨_, h⟩ | ⟨d, b, h1, _⟩)⟩ := h.recX e
  · exact ⟨hF, h⟩
  · rw [hd] at h1; cases h1
theorem Vot.recD {F : Nat → Prop} {w : World} {v : Nat} {P : VP} {s : VS} (h : Vot F w v P s) {a t : Int} {q : Nat} {d : DelS} (e : GR.getC a t P.rs = some (some ⟨q, 0, none⟩)) (hd : (s.rc a t).d = some d) : ∃ b, F q ∧ F b ∧ Blk w q (RecS.cells (some ⟨b, 0, none⟩) (s.rc a t)) 99 ∧ Blk w b d.cells 101 := by
  obtain ⟨hF, (⟨h1, _⟩ | ⟨d', b, h1, h2, h3, h4⟩)⟩ := h.recX e
  · rw [hd] at h1; cases h1
  · rw [hd] at h1; cases h1; exact ⟨b, hF, h4, h2, h3⟩
end Go.Al


namespace Go.Al
open Go Go.RowKit Go.Proofs
/-! ### An account's votes in a track -/
def trk (s : VS) (ref : Int) : Int := match s.ps[ref.toNat]? with | some (some q) => q.track | _ => -1
def vrow (s : VS) (a t : Int) : List (Int × Vt) := (GV.rowL a s.cs).filter (fun p => trk s p.1 == t)
def vtake (s : VS) (a t : Int) (k : Nat) : List (Int × Vt) := ((GV.rowL a s.cs).take k).filter (fun p => trk s p.1 == t)
theorem vtake_all (s : VS) (a t : Int) : vtake s a t (GV.rowL a s.cs).length = vrow s a t := by unfold vtake vrow; rw [List.take_length]
theorem vtake_step {s : VS} {a t : Int} {k : Nat} {c : Int × Vt} (h : (GV.rowL a s.cs)[k]? = some c) : vtake s a t (k + 1) = if trk s c.1 = t then vtake s a t k ++ [c] else vtake s a t k := by
  have := GV.fm_step (fun p : Int × Vt => trk s p.1 == t) id h
  simpa [vtake] using this
theorem vtake_at {s : VS} {a t : Int} {k : Nat} {c : Int × Vt} (h : (GV.rowL a s.cs)[k]? = some c) (hc : trk s c.1 = t) : (vrow s a t)[(vtake s a t k).length]? = some c ∧ (vtake s a t k).length < (vrow s a t).length := by
  have := GV.fm_at (fun p : Int × Vt => trk s p.1 == t) id h (by simp [hc])
  simpa [vtake, vrow] using this
theorem rowL_mem {a : Int} {cs : List GV.Ci} {k : Nat} {c : Int × Vt} (h : (GV.rowL a cs)[k]? = some c) : ∃ x ∈ cs, x.a = a ∧ x.b = c.1 ∧ x.v = c.2 := by
  have hm := List.mem_of_getElem? h
  unfold GV.rowL at hm
  obtain ⟨x, hx, rfl⟩ := List.mem_map.1 hm
  obtain ⟨h1, h2⟩ := List.mem_filter.1 hx
  exact ⟨x, h1, by simpa using h2, rfl, rfl⟩
theorem vrow_len (s : VS) (a t : Int) : (vrow s a t).length ≤ s.cs.length := by
  unfold vrow GV.rowL
  refine Nat.le_trans (List.length_filter_le _ _) ?_
  rw [List.length_map]
  exact List.length_filter_le _ _
/-- What a way over an account's votes needs of the world while it goes on. -/
structure VtOk (bv bw bt v gv gr : Nat) (pp : List (Option Addr)) (a t : Int) (s : VS) (A : Option Addr) (cap : Nat) (W : World) : Prop where
  hv : Blk W bv [.pointer (some ⟨v, 0, none⟩)] 31
  hw : Blk W bw [.int .i64 a] 3
  ht : Blk W bt [.int .i64 t] 3
  blk : Blk W v (pp.map Value.pointer ++ [.pointer (some ⟨gv, 0, none⟩), .pointer (some ⟨gr, 0, none⟩)]) 94
  len : pp.length = 12
  polls : ∀ c ∈ s.cs, ∃ (i b : Nat) (q : PollS), c.b = (i : Int) ∧ i < 12 ∧ pp[i]? = some (some ⟨b, 0, none⟩) ∧ Blk W b q.cells 89 ∧ q.track = trk s c.b
  sl : SlT W 8 GV.Ci.cells A cap s.cs
theorem VtOk.quiet {N bv bw bt v gv gr : Nat} {pp : List (Option Addr)} {a t : Int} {s : VS} {A : Option Addr} {cap : Nat} {W W' : World} (h : VtOk bv bw bt v gv gr pp a t s A cap W) (k : Keep (lb N W) W W') : VtOk bv bw bt v gv gr pp a t s A cap W' :=
  ⟨h.hv.quiet k, h.hw.quiet k, h.ht.quiet k, h.blk.quiet k, h.len, fun c hc => by
    obtain ⟨i, b, q, h1, h2, h3, h4, h5⟩ := h.polls c hc
    exact ⟨i, b, q, h1, h2, h3, h4.quiet k, h5⟩, h.sl.quiet k⟩
/-- The voting at v; its votes lie in the array at A. -/
def VotA (A : Option Addr) (cap : Nat) (F : Nat → Prop) (w : World) (v : Nat) (P : VP) (s : VS) : Prop := ∃ F1 F2 M, VotX F1 F2 M w v P s ∧ GV.GrAt w P.gv A cap s.cs ∧ (∀ q, inA A q → F1 q) ∧ (∀ q, F1 q → F q) ∧ (∀ q, F2 q → F q) ∧ (∀ q, M q → F q) ∧ (∀ q, F q → q < w.heap.size)
theorem Vot.arr {F : Nat → Prop} {w : World} {v : Nat} {P : VP} {s : VS} (h : Vot F w v P s) : ∃ A cap, VotA A cap F w v P s := by
  obtain ⟨F1, F2, M, h, h1, h2, h3, h4⟩ := h
  obtain ⟨_, _, _, _, A, cap, h5, h6⟩ := h.gv
  exact ⟨A, cap, F1, F2, M, h, h5, h6, h1, h2, h3, h4⟩
section
variable {A : Option Addr} {cap : Nat} {F S : Nat → Prop} {w w' : World} {v N : Nat} {P : VP} {s : VS}
theorem VotA.vot (h : VotA A cap F w v P s) : Vot F w v P s := by
  obtain ⟨F1, F2, M, h, _, _, h1, h2, h3, h4⟩ := h
  exact ⟨F1, F2, M, h, h1, h2, h3, h4⟩
theorem VotA.lt (h : VotA A cap F w v P s) : ∀ q, F q → q < w.heap.size := h.vot.lt
theorem VotA.at_ (h : VotA A cap F w v P s) : F v := h.vot.at_
theorem VotA.keep (h : VotA A cap F w v P s) (k : Keep S w w') (hS : ∀ q, F q → ¬ S q) : VotA A cap F w' v P s := by
  obtain ⟨F1, F2, M, h, hg, hA, h1, h2, h3, h4⟩ := h
  exact ⟨F1, F2, M, h.keepM S k (fun q hq => hS q (h3 q hq)) h.inv (fun _ h => h) (fun q hq => Nat.lt_of_lt_of_le (h.lt q hq) k.size) (h.gv.keep k (fun q hq => hS q (h1 q hq))) (h.gr.keep k (fun q hq => hS q (h2 q hq))) h.d12 h.d1 h.d2,
    ⟨hg.blk.keep k (hS _ (h1 _ h.gv.at_)), hg.sl.keep k (fun q hq => hS _ (h1 _ (hA q hq))), hg.off⟩, hA, h1, h2, h3, fun q hq => Nat.lt_of_lt_of_le (h4 q hq) k.size⟩
theorem VotA.quiet (h : VotA A cap F w v P s) (k : Keep (lb N w) w w') : VotA A cap F w' v P s := by
  obtain ⟨F1, F2, M, h, hg, hA, h1, h2, h3, h4⟩ := h
  refine ⟨F1, F2, M, ⟨h.inv, h.gv.quiet k, h.gr.quiet k, h.mv, fun q hq => Nat.lt_of_lt_of_le (h.lt q hq) k.size, h.d12, h.d1, h.d2, h.len, h.blk.quiet k, fun i hi => ?_, h.pinj, h.keys, fun a t => ?_, h.rinj⟩, hg.quiet k, hA, h1, h2, h3, fun q hq => Nat.lt_of_lt_of_le (h4 q hq) k.size⟩
  · rcases h.polls i hi with h | ⟨b, p, e1, e2, hb, hm⟩
    · exact .inl h
    · exact .inr ⟨b, p, e1, e2, hb.quiet k, hm⟩
  · rcases h.recs a t with h | ⟨q, e, hr, hm⟩
    · exact .inl h
    · exact .inr ⟨q, e, hr.quiet k, hm⟩
theorem VotA.setPoll (h : VotA A cap F w v P s) {i b : Nat} {p p' : PollS} (e : P.pp[i]? = some (some ⟨b, 0, none⟩)) (e2 : s.ps[i]? = some (some p)) (k : Keep (only b) w w') (hb' : Blk w' b p'.cells 89) : VotA A cap F w' v P (s.setP i p') := by
  obtain ⟨F1, F2, M, h, hg, hA, h1, h2, h3, h4⟩ := h
  obtain ⟨hX, hM⟩ := h.setPoll e e2 k hb'
  have hn : ∀ q, F1 q → ¬ only b q := fun q hq hs => h.d1 q hq (by rw [show q = b from hs]; exact hM)
  exact ⟨F1, F2, M, hX, ⟨hg.blk.keep k (hn _ h.gv.at_), hg.sl.keep k (fun q hq => hn q (hA q hq)), hg.off⟩, hA, h1, h2, h3, fun q hq => Nat.lt_of_lt_of_le (h4 q hq) k.size⟩
theorem VotA.ok (h : VotA A cap F w v P s) {s0 : VS} (hcs : s.cs = s0.cs) (htr : ∀ r, trk s r = trk s0 r) {bv bw bt : Nat} {a t : Int} (hv : Blk w bv [.pointer (some ⟨v, 0, none⟩)] 31) (hw : Blk w bw [.int .i64 a] 3) (ht : Blk w bt [.int .i64 t] 3) : VtOk bv bw bt v P.gv P.gr P.pp a t s0 A cap w := by
  obtain ⟨F1, F2, M, h, hg, _⟩ := h
  refine ⟨hv, hw, ht, h.blk, h.len, fun c hc => ?_, by rw [← hcs]; exact hg.sl⟩
  obtain ⟨g1, g2, g3, q0, g4⟩ := h.inv.votes c (by rw [hcs]; exact hc)
  obtain ⟨i, hi⟩ : ∃ i : Nat, c.b = i := ⟨c.b.toNat, by omega⟩
  rcases h.polls i (by omega) with ⟨e1, e2⟩ | ⟨b, q, e1, e2, hb, _⟩
  · rw [hi, Int.toNat_natCast, e2] at g4; cases g4
  · refine ⟨i, b, q, hi, by omega, e1, hb, ?_⟩
    rw [← htr, hi]; unfold trk; rw [Int.toNat_natCast, e2]
theorem VotA.grat (h : VotA A cap F w v P s) : GV.GrAt w P.gv A cap s.cs := by
  obtain ⟨F1, F2, M, h, hg, _⟩ := h; exact hg
theorem Vot.cslen (h : Vot F w v P s) : s.cs.length ≤ 120 := by
  obtain ⟨F1, F2, M, h, _⟩ := h
  exact GV.len120 h.gv.1 (fun c hc => by obtain ⟨g1, g2, _⟩ := h.inv.votes c hc; exact ⟨g1, g2⟩)
theorem VotA.lenA (h : VotA A cap F w v P s) : s.cs.length ≤ 120 := h.vot.cslen
end
end Go.Al


namespace Go.Al
open Go Go.RowKit Go.Proofs
set_option maxRecDepth 10000 in
theorem votes1_iter (bv bw bt v gv gr cap : Nat) (pp : List (Option Addr)) (A : Option Addr) (s : VS) (a t : Int) (hn : s.cs.length ≤ 1000000) : Iter2 Tryz.prog 94 #[.pointer (some ⟨bv, 0, none⟩), .pointer (some ⟨bw, 0, none⟩), .pointer (some ⟨bt, 0, none⟩)] (vrow s a t).length (GV.enc2 (vrow s a t)) (fun W => GV.GrAt W gv A cap s.cs ∧ VtOk bv bw bt v gv gr pp a t s A cap W) (VtOk bv bw bt v gv gr pp a t s A cap) := by
 intro l J Jx w hPre hJ hJx hY hOk h0
 obtain ⟨hgA, hok0⟩ := hPre
 have hbv := hok0.hv
 have hbw := hok0.hw
 have hbt := hok0.ht
 have hvb := hok0.blk
 have hlen := hok0.len
 have hbwlt := hbw.lt
 have hbtlt := hbt.lt
 have hvlt := hvb.lt
 have hbvlt := hbv.lt
 show Calls Tryz.prog 94 #[.func (.yield l) #[] #[], .pointer (some ⟨bv, 0, none⟩), .pointer (some ⟨bw, 0, none⟩), .pointer (some ⟨bt, 0, none⟩)] w _
 have hK0 : Keep none_ w w := Keep.refl _ _
 have hzhK0 := Keep.size hK0
 refine enterM Tryz.func94 rfl [.func (.yield l) #[] #[], pt bv, pt bw, pt bt] 32 rfl rfl rfl ?_
 refine V_pick [(0, .func (.yield l) #[] #[]), (1, pt bv), (2, pt bw), (3, pt bt)] rfl ?_
 refine V_seq ?_
 refine V_region ?_
 refine OI_box 156 (.tmp 0) (.func (.yield l) #[] #[]) [.func (.yield l) #[] #[]] (some 4) (by kernel_rfl) (by kernel_rfl) (by kernel_rfl) ?_
 intro b1 w1 e1 hb1 k1 z1
 have hsz2 := Keep.size k1
 replace hbv := hbv.keep k1 (fun f => f)
 replace hbw := hbw.keep k1 (fun f => f)
 replace hbt := hbt.keep k1 (fun f => f)
 replace hvb := hvb.keep k1 (fun f => f)
 replace hK0 := Keep.tr hK0 (Keep.ofNone k1)
 have hb1lt := hb1.lt
 refine OI_end rfl ?_
 refine X_then ?_
 refine V_seq ?_
 refine V_seq ?_
 refine V_region ?_
 refine OI_cell 31 (.tmp 1) 0 (pt v) (some 7) (by kernel_rfl) (by kernel_rfl) hbv (m := 1) (by kernel_rfl) rfl ?_
 refine OI_static 2 [(1, pt bv), (2, pt bw), (3, pt bt), (4, pt b1), (8, .bool false)] (by kernel_rfl) ?_
 refine OI_end rfl ?_
 refine X_then ?_
 refine V_false rfl ?_
 refine V_skip ?_
 refine X_then ?_
 refine V_seq ?_
 refine V_draws (acts [5]) none_ [[0, 1, 2, 3, 4, 5]] (by kernel_rfl) (by repeat first | exact (by first | exact sure_postM | exact sure_rQ2 | exact sure_no | exact sure_body (by rintro _ _ ⟨h, _⟩; exact ⟨_, h⟩)) | refine sure_then ?_ | refine sure_block ?_ | refine sure_join ?_) (by kernel_rfl) ?_
 intro w4 hk3 he5 L hL6
 have hsz7 := Keep.size hk3
 replace hbv := hbv.keep hk3 (fun f => f)
 replace hbw := hbw.keep hk3 (fun f => f)
 replace hbt := hbt.keep hk3 (fun f => f)
 replace hvb := hvb.keep hk3 (fun f => f)
 replace hb1 := hb1.keep hk3 (fun f => f)
 replace hK0 := Keep.tr hK0 (Keep.ofNone hk3)
 have qhbv := hbv
 have qhbw := hbw
 have qhbt := hbt
 have qhvb := hvb
 have qhb1 := hb1
 have K8 : Keep none_ w4 w4 := Keep.refl _ _
 obtain rfl := List.mem_singleton.1 hL6
 refine GI_cell 31 (.tmp 1) 0 (pt v) (some 9) (by kernel_rfl) (by kernel_rfl) (by kernel_rfl) qhbv (fun f => f) (m := 1) (by kernel_rfl) rfl ?_
 refine GI_static [3, 4, 5] [(1, pt bv), (2, pt bw), (3, pt bt), (4, pt b1), (11, .pointer (some ⟨v, 12, none⟩))] (by kernel_rfl) ?_
 refine GI_cell 91 (.tmp 11) 12 (pt gv) (some 12) (by kernel_rfl) (by kernel_rfl) (by kernel_rfl) qhvb (fun f => f) (m := 1) (by kernel_rfl) (by rw [List.getElem?_append_right (by rw [List.length_map]; omega), List.length_map, hlen]; rfl) ?_
 refine GI_cell 3 (.tmp 2) 0 (nt a) (some 13) (by kernel_rfl) (by kernel_rfl) (by kernel_rfl) qhbw (fun f => f) (m := 1) (by kernel_rfl) rfl ?_
 refine GI_final 5 (by kernel_rfl) (by kernel_rfl) ?_
 refine OI_call { callee := (Callee.value (Operand.func 95)), args := #[(Operand.tmp 12), (Operand.tmp 13)], argTypes := #[91, 3] } 95 #[pt gv, nt a] (some 14) (by kernel_rfl) (by kernel_rfl) (by kernel_rfl) (GV.row_spec _ rfl a _) ?_
 rintro _ w9 ⟨bg2, bs2, bn2, rfl, hbg2, hbs2, hbn2, hk10, hgbg2, hgbs2, hgbn2⟩
 refine ⟨_, rfl, ?_⟩
 have hsz11 := Keep.size hk10
 replace hbv := hbv.keep hk10 (fun f => f)
 replace hbw := hbw.keep hk10 (fun f => f)
 replace hbt := hbt.keep hk10 (fun f => f)
 replace hvb := hvb.keep hk10 (fun f => f)
 replace hb1 := hb1.keep hk10 (fun f => f)
 replace hK0 := Keep.tr hK0 (Keep.ofNone hk10)
 have hbg2lt := hbg2.lt
 have hbs2lt := hbs2.lt
 have hbn2lt := hbn2.lt
 refine OI_end rfl ?_
 refine X_then ?_
 refine V_block ?_
 have hb4ge : w.heap.size ≤ b1 := by omega
 refine V_pick [(1, pt bv), (3, pt bt), (4, pt b1), (14, .func (.func 135) #[] #[pt bg2, pt bs2, pt bn2])] rfl ?_
 have hN0 : w.heap.size ≤ w9.heap.size := Keep.size hK0
 refine V_range2 (gf := 135) (caps := #[pt bg2, pt bs2, pt bn2]) (m := (GV.rowL a s.cs).length) (by kernel_rfl) (by kernel_rfl) (by kernel_rfl) (GV.along1_iter0 bg2 bs2 bn2 gv cap A s.cs a hn) (⟨hbg2, hgA.keep0 hK0, ⟨hbs2, hbn2, hok0.sl.keep0 hK0⟩⟩) (fun W W' h k => ⟨h.1.quiet k, h.2.1.quiet k, h.2.2.quiet k⟩) (GV.enc2_size _) (fun M1 k W => (Blk W b1 [.func (.yield l) #[] #[]] 156) ∧ (Blk W bs2 [nt 0] 3) ∧ (Blk W bn2 [nt a] 3) ∧ (J M1 (vtake s a t k).length W)) (fun M1 c k W => (c = .ret ∧ ∃ q : Nat, (Jx M1 q W) ∧ (q ≤ (vrow s a t).length))) (fun M1 k W W' h hk => by obtain ⟨jb1, jbs2, jbn2, jj⟩ := h; exact ⟨jb1.quiet hk, jbs2.quiet hk, jbn2.quiet hk, (((hJ _ _).mono (by omega)) _ _ jj hk)⟩) (fun M1 c k W W' h hk => by obtain ⟨hc, q, xx, hq⟩ := h; exact ⟨hc, q, (((hJx _ _).mono (by omega)) _ _ xx hk), hq⟩) (fun M1 hM1 => ⟨hb1, hbs2, hbn2, hJ _ _ _ _ (h0 _ (by omega)) (Keep.ofNone hK0)⟩) (fun M1 k W h => by obtain ⟨jb1, jbs2, jbn2, jj⟩ := h; exact ⟨jbs2, jbn2, (hOk _ _ _ jj).sl⟩) ?_ ?_ ?_
 ·
  intro lp D M1 k W hD hl hM hMW hkm ⟨jb1, jbs2, jbn2, jj⟩ ⟨rr, hrr⟩ hDD
  have hb1lt := jb1.lt
  have hbs2lt := jbs2.lt
  have hbn2lt := jbn2.lt
  obtain ⟨x, hx⟩ : ∃ x, (GV.rowL a s.cs)[k]? = some x := ⟨_, List.getElem?_eq_getElem (by omega)⟩
  rw [GV.enc2_at hx]
  have hok := hOk _ _ _ jj
  obtain ⟨c0, hc0, hca, hcb, hcv⟩ := rowL_mem hx
  obtain ⟨i0, b0, q0, hi0, hi12, hpp0, hb0, htr0⟩ := hok.polls c0 hc0
  have hx1 : x.1 = (i0 : Int) := by rw [← hcb]; exact hi0
  rw [hcb] at htr0
  have hbv := hok.hv
  have hbt := hok.ht
  have hvb := hok.blk
  have hbvlt := hbv.lt
  have hbtlt := hbt.lt
  have hvblt := hvb.lt
  have hb0lt := hb0.lt
  have hvlt := hvblt
  refine V_pick [(1, pt bv), (3, pt bt), (4, pt b1), (15, nt x.1), (16, .agg (Vt.cells x.2).toArray)] rfl ?_
  have hfen : Keep (fen w9.heap.size M1) W W := Keep.refl _ _
  have hzhfen := Keep.size hfen
  have hkj : Keep none_ W W := Keep.refl _ _
  have hzhkj := Keep.size hkj
  refine V_seq ?_
  refine V_region ?_
  refine OI_static 1 [(1, pt bv), (3, pt bt), (4, pt b1), (5, nt x.1), (16, .agg (Vt.cells x.2).toArray)] (by kernel_rfl) ?_
  refine OI_end rfl ?_
  refine X_then ?_
  refine V_region ?_
  refine OI_alloc 23 (.agg #[nt 0, .bool false, nt 0, nt 0, nt 0, nt 0]) [nt 0, .bool false, nt 0, nt 0, nt 0, nt 0] (some 6) (by kernel_rfl) (by kernel_rfl) (by kernel_rfl) ?_
  intro b12 w12 e12 hb12 k12 z12
  have hsz13 := Keep.size k12
  replace jb1 := jb1.keep k12 (fun f => f)
  replace jbs2 := jbs2.keep k12 (fun f => f)
  replace jbn2 := jbn2.keep k12 (fun f => f)
  replace hbv := hbv.keep k12 (fun f => f)
  replace hbt := hbt.keep k12 (fun f => f)
  replace hvb := hvb.keep k12 (fun f => f)
  replace hb0 := hb0.keep k12 (fun f => f)
  replace hfen := Keep.tr hfen (Keep.ofNone k12)
  replace hkj := Keep.tr hkj (Keep.ofNone k12)
  have hb12lt := hb12.lt
  refine OI_set (m := 6) (kd := true) 23 (.tmp 6) (.tmp 16) 0 (.agg (Vt.cells x.2).toArray) (Vt.cells x.2) none (by kernel_rfl) (by kernel_rfl) (by kernel_rfl) hb12 (by kernel_rfl) rfl (Vt.len _) (Nat.le_of_ble_eq_true (by kernel_rfl)) (Vt.one _) ?_
  intro w14 hb12_17 hk15 hz16
  replace hb12_17 : Blk w14 b12 (Vt.cells x.2) 23 := (by rwa [over_whole (by rw [Vt.len]; rfl)] at hb12_17)
  have hsz18 := Keep.size hk15
  replace jb1 := jb1.keep hk15 (by show ¬ (_ = _); omega)
  replace jbs2 := jbs2.keep hk15 (by show ¬ (_ = _); omega)
  replace jbn2 := jbn2.keep hk15 (by show ¬ (_ = _); omega)
  replace hbv := hbv.keep hk15 (by show ¬ (_ = _); omega)
  replace hbt := hbt.keep hk15 (by show ¬ (_ = _); omega)
  replace hvb := hvb.keep hk15 (by show ¬ (_ = _); omega)
  replace hb0 := hb0.keep hk15 (by show ¬ (_ = _); omega)
  replace hfen := Keep.fresh hfen hk15 (by intro i hi hs; have hs2 : i = b12 := hs; show _ ∨ _; omega)
  replace hkj := Keep.fresh hkj hk15 (by intro i hi hs; first | exact hs | exact Or.inl hs | exact Or.inr hs | (exfalso; have hs2 : i = b12 := hs; omega))
  refine OI_end rfl ?_
  refine X_begin2 hfen ?_
  intro W2 hk2 ⟨r2, hr2⟩ hD2
  have hsz19 := Keep.size hk2
  replace jb1 := Blk.quiet jb1 hk2
  replace jbs2 := Blk.quiet jbs2 hk2
  replace jbn2 := Blk.quiet jbn2 hk2
  replace hbv := Blk.quiet hbv hk2
  replace hbt := Blk.quiet hbt hk2
  replace hvb := Blk.quiet hvb hk2
  replace hb0 := Blk.quiet hb0 hk2
  replace hb12_17 := Blk.quiet hb12_17 hk2
  replace jj := hJ _ _ _ _ jj (Keep.ofNone hkj); replace jj := (hJ _ _).mono (by omega : w.heap.size ≤ w9.heap.size) _ _ jj hk2; replace hkj := Keep.refl none_ W2
  have hzhk2 := Keep.size hk2
  have hfenb : Keep (fen w9.heap.size M1) W2 W2 := Keep.refl _ _
  have hzhfenb := Keep.size hfenb
  have hzhkj := Keep.size hkj
  refine V_block ?_
  refine V_seq ?_
  refine V_draws (acts [2, 12]) none_ [[0, 1, 2, 3, 4, 5, 6, 7, 8, 9, 10, 11, 12, 13, 14]] (by kernel_rfl) (by repeat first | exact (by first | exact sure_postM | exact sure_rQ2 | exact sure_no | exact sure_body (by rintro _ _ ⟨h, _⟩; exact ⟨_, h⟩)) | refine sure_then ?_ | refine sure_block ?_ | refine sure_join ?_) (by kernel_rfl) ?_
  intro w21 hk20 he22 L hL23
  have hsz24 := Keep.size hk20
  replace jb1 := jb1.keep hk20 (fun f => f)
  replace jbs2 := jbs2.keep hk20 (fun f => f)
  replace jbn2 := jbn2.keep hk20 (fun f => f)
  replace hbv := hbv.keep hk20 (fun f => f)
  replace hbt := hbt.keep hk20 (fun f => f)
  replace hvb := hvb.keep hk20 (fun f => f)
  replace hb0 := hb0.keep hk20 (fun f => f)
  replace hb12_17 := hb12_17.keep hk20 (fun f => f)
  replace hkj := Keep.tr hkj (Keep.ofNone hk20)
  replace hfenb := Keep.tr hfenb (Keep.ofNone hk20)
  have qjb1 := jb1
  have qjbs2 := jbs2
  have qjbn2 := jbn2
  have qhbv := hbv
  have qhbt := hbt
  have qhvb := hvb
  have qhb0 := hb0
  have qhb12_17 := hb12_17
  have K25 : Keep none_ w21 w21 := Keep.refl _ _
  obtain rfl := List.mem_singleton.1 hL23
  refine GI_cell 31 (.tmp 1) 0 (pt v) (some 17) (by kernel_rfl) (by kernel_rfl) (by kernel_rfl) qhbv (fun f => f) (m := 1) (by kernel_rfl) rfl ?_
  refine GI_static [2, 3, 4, 5, 6, 7, 8, 9, 10, 11, 12, 13, 14] [(3, pt bt), (4, pt b1), (5, nt x.1), (6, pt b12), (17, pt v), (18, nt x.1)] (by kernel_rfl) ?_
  refine GI_call { callee := (Callee.value (Operand.func 46)), args := #[(Operand.tmp 17), (Operand.tmp 18)], argTypes := #[31, 3] } 46 #[pt v, nt x.1] (some 19) (by kernel_rfl) (by kernel_rfl) (by kernel_rfl) (by kernel_rfl) ((by rw [hx1]; exact pollfn_at v gv gr i0 pp (some ⟨b0, 0, none⟩) _ hvb hok.len hi12 hpp0)) ?_
  rintro _ w26 ⟨rfl, hk27⟩
  have K28 := K25.tr (Keep.ofNone hk27)
  refine ⟨_, rfl, K28, ?_⟩
  have hzK28 := Keep.size K28
  have hsz29 := Keep.size hk27
  replace jb1 := jb1.keep hk27 (fun f => f)
  replace jbs2 := jbs2.keep hk27 (fun f => f)
  replace jbn2 := jbn2.keep hk27 (fun f => f)
  replace hbv := hbv.keep hk27 (fun f => f)
  replace hbt := hbt.keep hk27 (fun f => f)
  replace hvb := hvb.keep hk27 (fun f => f)
  replace hb0 := hb0.keep hk27 (fun f => f)
  replace hb12_17 := hb12_17.keep hk27 (fun f => f)
  replace hkj := Keep.tr hkj (Keep.ofNone hk27)
  replace hfenb := Keep.tr hfenb (Keep.ofNone hk27)
  refine GI_static [5, 6, 7, 8, 9, 10, 11, 12, 13, 14] [(3, pt bt), (4, pt b1), (5, nt x.1), (6, pt b12), (21, pt b0)] (by kernel_rfl) ?_
  refine GI_cell 3 (.tmp 21) 0 (nt q0.track) (some 22) (by kernel_rfl) (by kernel_rfl) (by kernel_rfl) qhb0 (fun f => f) (m := 1) (by kernel_rfl) rfl ?_
  refine GI_cell 3 (.tmp 3) 0 (nt t) (some 23) (by kernel_rfl) (by kernel_rfl) (by kernel_rfl) qhbt (fun f => f) (m := 1) (by kernel_rfl) rfl ?_
  refine GI_static [9, 10, 11, 12, 13, 14] [(4, pt b1), (5, nt x.1), (6, pt b12), (25, .bool (decide (q0.track = t)))] (by kernel_rfl) ?_
  by_cases hg30 : q0.track = t
  ·
   refine GI_eq [(4, pt b1), (5, nt x.1), (6, pt b12), (25, .bool true)] (by first | simp [hg30] | rfl) ?_
   refine GI_cell 156 (.tmp 4) 0 (.func (.yield l) #[] #[]) (some 26) (by kernel_rfl) (by kernel_rfl) (by kernel_rfl) qjb1 (fun f => f) (m := 1) (by kernel_rfl) rfl ?_
   refine GI_static [11, 12, 13, 14] [(6, pt b12), (25, .bool true), (26, .func (.yield l) #[] #[]), (27, nt x.1)] (by kernel_rfl) ?_
   refine GI_agg 23 (.tmp 6) 0 (Vt.cells x.2) (some 28) (by kernel_rfl) (by kernel_rfl) (by kernel_rfl) qhb12_17 (fun f => f) (m := 6) (by kernel_rfl) (take_all (Vt.len _)) (Vt.len _) ?_
   obtain ⟨hat, hlt⟩ := vtake_at hx (htr0.symm.trans hg30)
   refine GI_yield0 { callee := (Callee.value (Operand.tmp 26)), args := #[(Operand.tmp 27), (Operand.tmp 28)], argTypes := #[3, 23] } l #[nt x.1, .agg (Vt.cells x.2).toArray] (some 29) (by kernel_rfl) (by kernel_rfl) (by kernel_rfl) (by kernel_rfl) (by have hy := hY M1 _ _ (by omega) (by omega) hlt (hJ _ _ _ _ jj (Keep.ofNone hkj)); rw [GV.enc2_at hat] at hy; exact hy) ?_
   rintro _ w31 ⟨hk33, (⟨rfl, hj32⟩ | ⟨rfl, hj32⟩)⟩
   ·
    refine ⟨_, rfl, ?_⟩
    have hsz34 := Keep.size hk33
    replace jb1 := jb1.keep hk33 (by show ¬ (_ ∨ _); omega)
    replace jbs2 := jbs2.keep hk33 (by show ¬ (_ ∨ _); omega)
    replace jbn2 := jbn2.keep hk33 (by show ¬ (_ ∨ _); omega)
    replace hfenb := Keep.fresh hfenb hk33 (by intro i hi hs; rcases hs with hs | hs; exact .inl (by omega); exact .inr hs)
    refine GI_static [] [(31, .bool false)] (by kernel_rfl) ?_
    refine GI_end ?_
    refine X_then ?_
    refine V_false rfl ?_
    refine V_skip ?_
    refine X_block ?_
    exact fun a _ => ⟨hfenb, jb1, jbs2, jbn2, by rw [vtake_step hx, if_pos (htr0.symm.trans hg30)]; simpa using hj32⟩
   ·
    refine ⟨_, rfl, ?_⟩
    have hsz35 := Keep.size hk33
    replace jb1 := jb1.keep hk33 (by show ¬ (_ ∨ _); omega)
    replace jbs2 := jbs2.keep hk33 (by show ¬ (_ ∨ _); omega)
    replace jbn2 := jbn2.keep hk33 (by show ¬ (_ ∨ _); omega)
    replace hfenb := Keep.fresh hfenb hk33 (by intro i hi hs; rcases hs with hs | hs; exact .inl (by omega); exact .inr hs)
    refine GI_static [] [(31, .bool true)] (by kernel_rfl) ?_
    refine GI_end ?_
    refine X_then ?_
    refine V_true rfl ?_
    refine V_ret ?_
    refine X_ret_block ?_
    exact fun a _ => ⟨hfenb, ⟨rfl, _, hj32, by omega⟩⟩
  ·
   refine GI_eq [(4, pt b1), (5, nt x.1), (6, pt b12), (25, .bool false)] (by first | simp [hg30] | rfl) ?_
   refine GI_static [] [(31, .bool false)] (by kernel_rfl) ?_
   refine GI_end ?_
   refine X_then ?_
   refine V_false rfl ?_
   refine V_skip ?_
   refine X_block ?_
   exact fun a _ => ⟨hfenb, jb1, jbs2, jbn2, hJ _ _ _ _ (by rw [vtake_step hx, if_neg (fun h9 => hg30 (htr0.trans h9))]; exact jj) (Keep.ofNone hkj)⟩
 ·
  intro D M1 W hD hM ⟨jb1, jbs2, jbn2, jj⟩ hDD
  have hb1lt := jb1.lt
  have hbs2lt := jbs2.lt
  have hbn2lt := jbn2.lt
  refine X_block ?_
  rw [vtake_all] at jj
  exact leave1 (.tuple #[]) (.inr rfl) hDD (fun w' hk => ⟨res_tmps rfl, ⟨_, rfl⟩, M1, by omega, .inl (((hJ _ _).mono (by omega)) _ _ jj hk)⟩)
 ·
  intro D M1 k c W hD hM hkm h hDD
  obtain ⟨hc, q, xx, hq⟩ := h
  subst hc
  refine V_ret ?_
  refine X_ret_block ?_
  exact leave1 (.tuple #[]) (.inl rfl) hDD (fun w' hk => ⟨res_tmps rfl, ⟨_, rfl⟩, M1, by omega, .inr ⟨q, hq, ((hJx _ _).mono (by omega)) _ _ xx hk⟩⟩)
end Go.Al


namespace Go.Al
open Go Go.RowKit Go.Proofs
set_option maxRecDepth 10000 in
theorem votesfn_spec (v : Value) (hv : v.cells = [v].toArray) (a t : Int) (w : World) : Calls Tryz.prog 60 #[v, .int .i64 a, .int .i64 t] w fun e w' => ∃ bv bw bt, e = .returned (.func (.func 94) #[] #[.pointer (some ⟨bv, 0, none⟩), .pointer (some ⟨bw, 0, none⟩), .pointer (some ⟨bt, 0, none⟩)]) ∧ Blk w' bv [v] 31 ∧ Blk w' bw [.int .i64 a] 3 ∧ Blk w' bt [.int .i64 t] 3 ∧ Keep none_ w w' ∧ w.heap.size ≤ bv ∧ w.heap.size ≤ bw ∧ w.heap.size ≤ bt := by
 have hK0 : Keep none_ w w := Keep.refl _ _
 have hzhK0 := Keep.size hK0
 refine enterV Tryz.func60 rfl [v, nt a, nt t] 8 rfl rfl rfl ?_
 refine V_pick [(0, v), (1, nt a), (2, nt t)] rfl ?_
 refine V_seq ?_
 refine V_region ?_
 refine OI_box 31 (.tmp 0) v [v] (some 3) (by kernel_rfl) (by kernel_rfl) hv ?_
 intro b1 w1 e1 hb1 k1 z1
 have hsz2 := Keep.size k1
 replace hK0 := Keep.tr hK0 (Keep.ofNone k1)
 have hb1lt := hb1.lt
 refine OI_box 3 (.tmp 1) (nt a) [nt a] (some 4) (by kernel_rfl) (by kernel_rfl) (by kernel_rfl) ?_
 intro b3 w3 e3 hb3 k3 z3
 have hsz4 := Keep.size k3
 replace hb1 := hb1.keep k3 (fun f => f)
 replace hK0 := Keep.tr hK0 (Keep.ofNone k3)
 have hb3lt := hb3.lt
 refine OI_box 3 (.tmp 2) (nt t) [nt t] (some 5) (by kernel_rfl) (by kernel_rfl) (by kernel_rfl) ?_
 intro b5 w5 e5 hb5 k5 z5
 have hsz6 := Keep.size k5
 replace hb1 := hb1.keep k5 (fun f => f)
 replace hb3 := hb3.keep k5 (fun f => f)
 replace hK0 := Keep.tr hK0 (Keep.ofNone k5)
 have hb5lt := hb5.lt
 refine OI_static 4 [(3, pt b1), (4, pt b3), (5, pt b5)] (by kernel_rfl) ?_
 refine OI_end rfl ?_
 refine X_then ?_
 refine V_seq ?_
 refine V_region ?_
 refine OI_static 2 [(6, .func (.func 94) #[] #[pt b1, pt b3, pt b5])] (by kernel_rfl) ?_
 refine OI_end rfl ?_
 refine X_then ?_
 refine V_ret ?_
 exact X_return _ rfl ⟨_, _, _, rfl, hb1, hb3, hb5, hK0, by omega, by omega, by omega⟩

set_option maxRecDepth 10000 in
theorem count_spec (F : Nat → Prop) (v : Nat) (P : VP) (s : VS) (a t : Int) (w : World) (h : Vot F w v P s) : Calls Tryz.prog 49 #[.pointer (some ⟨v, 0, none⟩), .int .i64 a, .int .i64 t] w fun e w' => e = .returned (.int .i64 (((vrow s a t).length : Nat) : Int)) ∧ Keep none_ w w' := by
 have hFlt := Vot.lt h
 have hvlt := hFlt _ (Vot.at_ h)
 have hFo : ∀ q, F q → 0 ≤ q := fun q _ => Nat.zero_le q
 have hFr : ∀ q, F q → F q ∨ w.heap.size ≤ q := fun _ h => .inl h
 have hK0 : Keep none_ w w := Keep.refl _ _
 have hzhK0 := Keep.size hK0
 refine enterM Tryz.func49 rfl [pt v, nt a, nt t] 17 rfl rfl rfl ?_
 refine V_pick [(0, pt v), (1, nt a), (2, nt t)] rfl ?_
 refine V_seq ?_
 refine V_region ?_
 refine OI_static 1 [(0, pt v), (1, nt a), (2, nt t), (6, nt 0)] (by kernel_rfl) ?_
 refine OI_end rfl ?_
 refine X_then ?_
 refine V_seq ?_
 refine V_region ?_
 refine OI_alloc 3 (nt 0) [nt 0] (some 7) (by kernel_rfl) (by kernel_rfl) (by kernel_rfl) ?_
 intro b1 w1 e1 hb1 k1 z1
 have hsz2 := Keep.size k1
 replace h := Vot.keep h k1 (fun _ _ f => f)
 replace hK0 := Keep.tr hK0 (Keep.ofNone k1)
 have hb1lt := hb1.lt
 refine OI_set (m := 1) (kd := false) 3 (.tmp 7) (.const (Value.int IntKind.i64 0)) 0 (nt 0) [nt 0] none (by kernel_rfl) (by kernel_rfl) (by kernel_rfl) hb1 (by kernel_rfl) (by kernel_rfl) (by kernel_rfl) (Nat.le_of_ble_eq_true (by kernel_rfl)) (by simp [Value.oneCell']) ?_
 intro w3 hb1_6 hk4 hz5
 replace hb1_6 : Blk w3 b1 [nt 0] 3 := hb1_6
 have hsz7 := Keep.size hk4
 replace h := Vot.keep h hk4 (fun q hq hs => by have hs : q = b1 := hs; have g0 := hFo q hq; have g1 := hFlt q hq; omega)
 replace hK0 := Keep.fresh hK0 hk4 (by intro i hi hs; first | exact hs | exact Or.inl hs | exact Or.inr hs | (exfalso; have hs2 : i = b1 := hs; omega))
 refine OI_end rfl ?_
 refine X_then ?_
 refine V_seq ?_
 refine V_seq ?_
 refine V_region ?_
 refine OI_static 3 [(6, nt 0), (7, pt b1), (8, pt v), (9, nt a), (10, nt t)] (by kernel_rfl) ?_
 refine OI_call { callee := (Callee.value (Operand.func 60)), args := #[(Operand.tmp 8), (Operand.tmp 9), (Operand.tmp 10)], argTypes := #[31, 3, 3] } 60 #[pt v, nt a, nt t] (some 11) (by kernel_rfl) (by kernel_rfl) (by kernel_rfl) (votesfn_spec _ rfl a t _) ?_
 rintro _ w8 ⟨bv10, bw11, bt12, rfl, hbv10, hbw11, hbt12, hk9, hgebv10, hgebw11, hgebt12⟩
 refine ⟨_, rfl, ?_⟩
 have hsz13 := Keep.size hk9
 replace hb1_6 := hb1_6.keep hk9 (fun f => f)
 replace h := Vot.keep h hk9 (fun _ _ f => f)
 replace hK0 := Keep.tr hK0 (Keep.ofNone hk9)
 have hbv10lt := hbv10.lt
 have hbw11lt := hbw11.lt
 have hbt12lt := hbt12.lt
 refine OI_end rfl ?_
 refine X_then ?_
 refine V_block ?_
 obtain ⟨A14, cap14, hva14⟩ := Vot.arr h
 have hal14 := VotA.lenA hva14
 have hvl9 := vrow_len s a t
 refine V_pick [(7, pt b1), (11, .func (.func 94) #[] #[pt bv10, pt bw11, pt bt12])] rfl ?_
 have hN0 : w.heap.size ≤ w8.heap.size := Keep.size hK0
 refine V_range2 (gf := 94) (caps := #[pt bv10, pt bw11, pt bt12]) (m := (vrow s a t).length) (by kernel_rfl) (by kernel_rfl) (by kernel_rfl) (votes1_iter bv10 bw11 bt12 v P.gv P.gr cap14 P.pp A14 s a t (by omega)) (⟨VotA.grat hva14, VotA.ok hva14 rfl (fun _ => rfl) hbv10 hbw11 hbt12⟩) (fun W W' h k => ⟨h.1.quiet k, h.2.quiet k⟩) (GV.enc2_size _) (fun M1 k W => (Blk W bv10 [pt v] 31) ∧ (Blk W bw11 [nt a] 3) ∧ (Blk W bt12 [nt t] 3) ∧ (VotA A14 cap14 F W v P s) ∧ (Keep none_ w W) ∧ (Blk W b1 [nt ((k : Nat) : Int)] 3)) (fun M1 c k W => False) (fun M1 k W W' h hk => by obtain ⟨jbv10, jbw11, jbt12, jhva14, jhK0, jb1⟩ := h; exact ⟨jbv10.quiet hk, jbw11.quiet hk, jbt12.quiet hk, VotA.quiet jhva14 hk, jhK0.quiet hk (by omega), jb1.quiet hk⟩) (fun _ _ _ _ _ h _ => h.elim) (fun M1 hM1 => ⟨hbv10, hbw11, hbt12, hva14, hK0, hb1_6⟩) (fun M1 k W h => by obtain ⟨jbv10, jbw11, jbt12, jhva14, jhK0, jb1⟩ := h; exact (VotA.ok jhva14 rfl (fun _ => rfl) jbv10 jbw11 jbt12)) ?_ ?_ (fun _ _ _ _ _ _ _ _ h _ => h.elim)
 ·
  intro lp D M1 k W hD hl hM hMW hkm ⟨jbv10, jbw11, jbt12, jhva14, jhK0, jb1⟩ ⟨rr, hrr⟩ hDD
  have hzjhK0 := Keep.size jhK0
  have hb1lt := jb1.lt
  have hbv10lt := jbv10.lt
  have hbw11lt := jbw11.lt
  have hbt12lt := jbt12.lt
  obtain ⟨x, hx⟩ : ∃ x, (vrow s a t)[k]? = some x := ⟨_, List.getElem?_eq_getElem (by omega)⟩
  rw [GV.enc2_at hx]
  refine V_pick [(7, pt b1)] rfl ?_
  have hfen : Keep (fen w8.heap.size M1) W W := Keep.refl _ _
  have hzhfen := Keep.size hfen
  refine V_skip ?_
  refine X_begin2 hfen ?_
  intro W2 hk2 ⟨r2, hr2⟩ hD2
  have hsz15 := Keep.size hk2
  replace jb1 := Blk.quiet jb1 hk2
  replace jbv10 := Blk.quiet jbv10 hk2
  replace jbw11 := Blk.quiet jbw11 hk2
  replace jbt12 := Blk.quiet jbt12 hk2
  replace jhva14 := VotA.quiet jhva14 hk2
  replace jhK0 := Keep.quiet jhK0 hk2 (by omega)
  have hzhk2 := Keep.size hk2
  have hfenb : Keep (fen w8.heap.size M1) W2 W2 := Keep.refl _ _
  have hzhfenb := Keep.size hfenb
  refine V_block ?_
  refine V_region ?_
  refine OI_cell 3 (.tmp 7) 0 (nt ((k : Nat) : Int)) (some 14) (by kernel_rfl) (by kernel_rfl) jb1 (m := 1) (by kernel_rfl) rfl ?_
  have hw16 : IntKind.i64.wrap (((k : Nat) : Int) + 1) = ((k + 1 : Nat) : Int) := (wrap64_id (by omega) (by omega)).trans (by omega)
  refine OI_static 2 [(7, pt b1), (15, nt (IntKind.i64.wrap (((k : Nat) : Int) + 1)))] (by kernel_rfl) ?_
  refine OI_eq [(7, pt b1), (15, nt ((k + 1 : Nat) : Int))] (by rw [hw16]) ?_
  refine OI_set (m := 1) (kd := false) 3 (.tmp 7) (.tmp 15) 0 (nt ((k + 1 : Nat) : Int)) [nt ((k + 1 : Nat) : Int)] none (by kernel_rfl) (by kernel_rfl) (by kernel_rfl) jb1 (by kernel_rfl) (by kernel_rfl) (by kernel_rfl) (Nat.le_of_ble_eq_true (by kernel_rfl)) (by simp [Value.oneCell']) ?_
  intro w17 hb1_20 hk18 hz19
  replace hb1_20 : Blk w17 b1 [nt ((k + 1 : Nat) : Int)] 3 := hb1_20
  have hsz21 := Keep.size hk18
  replace jbv10 := jbv10.keep hk18 (by show ¬ (_ = _); omega)
  replace jbw11 := jbw11.keep hk18 (by show ¬ (_ = _); omega)
  replace jbt12 := jbt12.keep hk18 (by show ¬ (_ = _); omega)
  replace jhva14 := VotA.keep jhva14 hk18 (fun q hq hs => by have hs : q = b1 := hs; have g0 := hFo q hq; have g1 := hFlt q hq; omega)
  replace jhK0 := Keep.fresh jhK0 hk18 (by intro i hi hs; first | exact hs | exact Or.inl hs | exact Or.inr hs | (exfalso; have hs2 : i = b1 := hs; omega))
  replace hfenb := Keep.fresh hfenb hk18 (by intro i hi hs; have hs2 : i = b1 := hs; show _ ∨ _; omega)
  refine OI_end rfl ?_
  refine X_block ?_
  exact fun a _ => ⟨hfenb, jbv10, jbw11, jbt12, jhva14, jhK0, hb1_20⟩
 ·
  intro D M1 W hD hM ⟨jbv10, jbw11, jbt12, jhva14, jhK0, jb1⟩ hDD
  have hzjhK0 := Keep.size jhK0
  have hb1lt := jb1.lt
  have hbv10lt := jbv10.lt
  have hbw11lt := jbw11.lt
  have hbt12lt := jbt12.lt
  refine X_block ?_
  refine X_then ?_
  refine V_seq ?_
  refine V_region ?_
  refine OI_cell 3 (.tmp 7) 0 (nt (((vrow s a t).length : Nat) : Int)) (some 16) (by kernel_rfl) (by kernel_rfl) jb1 (m := 1) (by kernel_rfl) rfl ?_
  refine OI_static 2 [(6, nt (((vrow s a t).length : Nat) : Int))] (by kernel_rfl) ?_
  refine OI_end rfl ?_
  refine X_then ?_
  refine V_ret ?_
  exact leave1 (.int .i64 (((vrow s a t).length : Nat) : Int)) (.inl rfl) hDD (fun w' hk => ⟨res_tmps rfl, ⟨rfl, Keep.quiet jhK0 hk (by omega)⟩⟩)

theorem GV.setC_mem2 {a b : Int} {v : Vt} {y : GV.Ci} : ∀ {cs : List GV.Ci}, y ∈ GV.setC a b v cs → y = ⟨a, b, v⟩ ∨ y ∈ cs
  | [], h => by simp only [GV.setC, List.mem_singleton] at h; exact .inl h
  | x :: l, h => by
    simp only [GV.setC] at h
    split at h
    · rcases List.mem_cons.1 h with h | h
      · exact .inl h
      · exact .inr (List.mem_cons_of_mem _ h)
    · split at h
      · rcases List.mem_cons.1 h with h | h
        · exact .inr (by rw [h]; exact List.mem_cons_self ..)
        · exact (GV.setC_mem2 h).imp id (List.mem_cons_of_mem _)
      · rcases List.mem_cons.1 h with h | h
        · exact .inl h
        · exact .inr h
theorem GV.delC_mem {a b : Int} {y : GV.Ci} : ∀ {cs : List GV.Ci}, y ∈ GV.delC a b cs → y ∈ cs
  | [], h => h
  | x :: l, h => by
    simp only [GV.delC] at h
    split at h
    · exact List.mem_cons_of_mem _ h
    · rcases List.mem_cons.1 h with rfl | h
      · exact List.mem_cons_self ..
      · exact List.mem_cons_of_mem _ (GV.delC_mem h)
theorem GV.getC_mem {a b : Int} {v : Vt} : ∀ {cs : List GV.Ci}, GV.getC a b cs = some v → ∃ y ∈ cs, y.a = a ∧ y.b = b ∧ y.v = v
  | [], h => by cases h
  | x :: l, h => by
    simp only [GV.getC] at h
    split at h
    · rename_i he
      cases h
      exact ⟨x, List.mem_cons_self .., he.1, he.2, rfl⟩
    · obtain ⟨y, hy, h1⟩ := GV.getC_mem h
      exact ⟨y, List.mem_cons_of_mem _ hy, h1⟩

theorem vget_spec (F : Nat → Prop) (v : Nat) (P : VP) (s : VS) (a b : Int) (w : World) (h : Vot F w v P s) : Calls Tryz.prog 54 #[.pointer (some ⟨P.gv, 0, none⟩), .int .i64 a, .int .i64 b] w fun e w' => e = .returned (.tuple #[.agg (Vt.cells ((GV.getC a b s.cs).getD Vt.zero)).toArray, .bool (GV.getC a b s.cs).isSome]) ∧ Keep none_ w w' := by
  obtain ⟨F1, F2, M, hX, _⟩ := h
  exact GV.get_spec F1 P.gv s.cs a b w hX.gv.gr

theorem vset_spec (F : Nat → Prop) (v : Nat) (P : VP) (s : VS) (a b : Int) (x : Vt) (w : World) (h : Vot F w v P s) (ha : 0 ≤ a ∧ a < 10) (hb : 0 ≤ b ∧ b < 12) (hok : okV x) (hp : ∃ q, s.ps[b.toNat]? = some (some q)) : Calls Tryz.prog 59 #[.pointer (some ⟨P.gv, 0, none⟩), .int .i64 a, .int .i64 b, .agg (Vt.cells x).toArray] w fun e w' => e = .returned (.tuple #[]) ∧ (∃ F', Vot F' w' v P { s with cs := GV.setC a b x s.cs } ∧ (∀ q, F' q → F q ∨ w.heap.size ≤ q)) ∧ Keep F w w' := by
  have hl := h.cslen
  obtain ⟨F1, F2, M, hX, h1, h2, h3, h4⟩ := h
  refine (GV.set_grd F1 P.gv s.cs a b x w hX.gv (by omega)).mono ?_
  rintro e w' ⟨rfl, ⟨F1', hG, hfr⟩, hk⟩
  refine ⟨rfl, Vot.setCs hX h1 h2 h3 h4 hk hG hfr ⟨hX.inv.len, fun c hc => ?_, hX.inv.dels⟩, hk.mono (fun q _ hq => h1 q hq)⟩
  rcases GV.setC_mem2 hc with rfl | hc
  · exact ⟨ha, hb, hok, hp⟩
  · exact hX.inv.votes c hc

theorem vdel_spec (F : Nat → Prop) (v : Nat) (P : VP) (s : VS) (a b : Int) (w : World) (h : Vot F w v P s) : Calls Tryz.prog 64 #[.pointer (some ⟨P.gv, 0, none⟩), .int .i64 a, .int .i64 b] w fun e w' => e = .returned (.bool (GV.getC a b s.cs).isSome) ∧ (∃ F', Vot F' w' v P { s with cs := GV.delC a b s.cs } ∧ (∀ q, F' q → F q ∨ w.heap.size ≤ q)) ∧ Keep F w w' := by
  obtain ⟨F1, F2, M, hX, h1, h2, h3, h4⟩ := h
  refine (GV.del_grd F1 P.gv s.cs a b w hX.gv).mono ?_
  rintro e w' ⟨rfl, ⟨F1', hG, hfr⟩, hk⟩
  exact ⟨rfl, Vot.setCs hX h1 h2 h3 h4 hk hG hfr ⟨hX.inv.len, fun c hc => hX.inv.votes c (GV.delC_mem hc), hX.inv.dels⟩, hk.mono (fun q _ hq => h1 q hq)⟩

def hasAt (t n : Int) (l : List (Int × Int)) : Bool := l.any fun x => decide (x.1 = t) && decide (n ≤ x.2)
def raiseC (cs : List Ci) (a t n : Int) : List Ci := if hasAt t n (rowL a cs) = true then cs else lockC cs a t n
theorem hasAt_yes {t n : Int} {l : List (Int × Int)} {k : Nat} {x : Int × Int} (hx : l[k]? = some x) (h1 : x.1 = t) (h2 : n ≤ x.2) : hasAt t n l = true := by
  unfold hasAt
  exact List.any_eq_true.2 ⟨x, List.mem_of_getElem? hx, by simp [h1, h2]⟩
theorem hasAt_step {t n : Int} {l : List (Int × Int)} {k : Nat} {x : Int × Int} (hx : l[k]? = some x) (h0 : hasAt t n (l.take k) = false) (h : ¬ (x.1 = t ∧ n ≤ x.2)) : hasAt t n (l.take (k + 1)) = false := by
  obtain ⟨h1, rfl⟩ := List.getElem?_eq_some_iff.1 hx
  unfold hasAt at *
  rw [List.take_succ_eq_append_getElem h1, List.any_append, h0]
  simpa using h

set_option maxRecDepth 10000 in
theorem raise_spec (F : Nat → Prop) (l : Nat) (xs : List Acc) (cs : List Ci) (a t n : Int) (w : World) (h : Led F w l xs cs) (hmax : cs.length < 100000) : Calls Tryz.prog 52 #[.pointer (some ⟨l, 0, none⟩), .int .i64 a, .int .i64 t, .int .i64 n] w fun e w' => e = .returned (.tuple #[]) ∧ (∃ F', Led F' w' l xs (raiseC cs a t n) ∧ (∀ q, F' q → F q ∨ w.heap.size ≤ q)) ∧ Keep F w w' := by
 have hFlt := Led.lt h
 have hllt := hFlt _ (Led.at_ h)
 have hinv := Led.inv h
 have hFr : ∀ q, F q → F q ∨ w.heap.size ≤ q := fun _ h => .inl h
 have hcopy := h
 obtain ⟨_, _, _, g, A, cap, D, hat, hG, hAF, hDF, _⟩ := hcopy
 have hl9 := hat.blk
 obtain ⟨_, _, _, _, A2, cap2, hat2, hAD2⟩ := hG
 have owA2 : ∀ q, inA A2 q → q < w.heap.size := fun q hq => hFlt q (hDF q (hAD2 q hq)).1
 have hgb := hat2.blk
 have hA2 := hat2.sl
 have hglt := hgb.lt
 have hK0 : Keep F w w := Keep.refl _ _
 have hzhK0 := Keep.size hK0
 refine enterM Tryz.func52 rfl [pt l, nt a, nt t, nt n] 28 rfl rfl rfl ?_
 refine V_pick [(0, pt l), (1, nt a), (2, nt t), (3, nt n)] rfl ?_
 refine V_seq ?_
 refine V_region ?_
 refine OI_box 3 (.tmp 2) (nt t) [nt t] (some 6) (by kernel_rfl) (by kernel_rfl) (by kernel_rfl) ?_
 intro b1 w1 e1 hb1 k1 z1
 have hsz2 := Keep.size k1
 replace hl9 := hl9.keep k1 (fun f => f)
 replace hgb := hgb.keep k1 (fun f => f)
 replace hA2 := SlT.keep0 hA2 k1
 replace h := Led.keep h k1 (fun _ _ f => f)
 replace hK0 := Keep.tr hK0 (Keep.ofNone k1)
 have hb1lt := hb1.lt
 refine OI_box 3 (.tmp 3) (nt n) [nt n] (some 7) (by kernel_rfl) (by kernel_rfl) (by kernel_rfl) ?_
 intro b3 w3 e3 hb3 k3 z3
 have hsz4 := Keep.size k3
 replace hl9 := hl9.keep k3 (fun f => f)
 replace hgb := hgb.keep k3 (fun f => f)
 replace hb1 := hb1.keep k3 (fun f => f)
 replace hA2 := SlT.keep0 hA2 k3
 replace h := Led.keep h k3 (fun _ _ f => f)
 replace hK0 := Keep.tr hK0 (Keep.ofNone k3)
 have hb3lt := hb3.lt
 refine OI_end rfl ?_
 refine X_then ?_
 refine V_seq ?_
 refine V_seq ?_
 refine V_region ?_
 refine OI_static 2 [(0, pt l), (1, nt a), (6, pt b1), (7, pt b3), (10, pt l), (11, nt a)] (by kernel_rfl) ?_
 refine OI_call { callee := (Callee.value (Operand.func 61)), args := #[(Operand.tmp 10), (Operand.tmp 11)], argTypes := #[30, 3] } 61 #[pt l, nt a] (some 12) (by kernel_rfl) (by kernel_rfl) (by kernel_rfl) (locks_spec l g _ a _ hl9) ?_
 rintro _ w5 ⟨bg7, bs8, bn9, rfl, hbg7, hbs8, hbn9, hk6, hgebg7, hgebs8, hgebn9⟩
 refine ⟨_, rfl, ?_⟩
 have hsz10 := Keep.size hk6
 replace hl9 := hl9.keep hk6 (fun f => f)
 replace hgb := hgb.keep hk6 (fun f => f)
 replace hb1 := hb1.keep hk6 (fun f => f)
 replace hb3 := hb3.keep hk6 (fun f => f)
 replace hA2 := SlT.keep0 hA2 hk6
 replace h := Led.keep h hk6 (fun _ _ f => f)
 replace hK0 := Keep.tr hK0 (Keep.ofNone hk6)
 have hbg7lt := hbg7.lt
 have hbs8lt := hbs8.lt
 have hbn9lt := hbn9.lt
 refine OI_end rfl ?_
 refine X_then ?_
 refine V_block ?_
 have hat3 := (⟨hgb, hA2, hat2.off⟩ : GrAt _ g A2 cap2 cs)
 refine V_pick [(0, pt l), (1, nt a), (6, pt b1), (7, pt b3), (12, .func (.func 137) #[] #[pt bg7, pt bs8, pt bn9])] rfl ?_
 have hN0 : w.heap.size ≤ w5.heap.size := Keep.size hK0
 refine V_range2 (gf := 137) (caps := #[pt bg7, pt bs8, pt bn9]) (m := (rowL a cs).length) (by kernel_rfl) (by kernel_rfl) (by kernel_rfl) (along1_iter0 bg7 bs8 bn9 g cap2 A2 cs a (by omega)) (⟨hbg7, hat3, ⟨hbs8, hbn9, hA2⟩⟩) (fun W W' h k => ⟨h.1.quiet k, h.2.1.quiet k, h.2.2.quiet k⟩) (enc2_size _) (fun M1 k W => (Blk W b1 [nt t] 3) ∧ (Blk W b3 [nt n] 3) ∧ (Blk W bs8 [nt 0] 3) ∧ (Blk W bn9 [nt a] 3) ∧ (SlT W 3 Ci.cells A2 cap2 cs) ∧ (Led F W l xs cs) ∧ (Keep F w W) ∧ (hasAt t n ((rowL a cs).take k) = false)) (fun M1 c k W => (c = .ret ∧ (Blk W b1 [nt t] 3) ∧ (Blk W b3 [nt n] 3) ∧ (Blk W bs8 [nt 0] 3) ∧ (Blk W bn9 [nt a] 3) ∧ (SlT W 3 Ci.cells A2 cap2 cs) ∧ (Led F W l xs cs) ∧ (Keep F w W) ∧ (hasAt t n (rowL a cs) = true))) (fun M1 k W W' h hk => by obtain ⟨jb1, jb3, jbs8, jbn9, jA2, jh, jhK0, hno⟩ := h; exact ⟨jb1.quiet hk, jb3.quiet hk, jbs8.quiet hk, jbn9.quiet hk, jA2.quiet hk, Led.quiet jh hk, jhK0.quiet hk (by omega), hno⟩) (fun M1 c k W W' h hk => by obtain ⟨hc, jb1, jb3, jbs8, jbn9, jA2, jh, jhK0, hyes⟩ := h; exact ⟨hc, jb1.quiet hk, jb3.quiet hk, jbs8.quiet hk, jbn9.quiet hk, jA2.quiet hk, Led.quiet jh hk, jhK0.quiet hk (by omega), hyes⟩) (fun M1 hM1 => ⟨hb1, hb3, hbs8, hbn9, hA2, h, hK0, rfl⟩) (fun M1 k W h => by obtain ⟨jb1, jb3, jbs8, jbn9, jA2, jh, jhK0, hno⟩ := h; exact ⟨jbs8, jbn9, jA2⟩) ?_ ?_ ?_
 ·
  intro lp D M1 k W hD hl hM hMW hkm ⟨jb1, jb3, jbs8, jbn9, jA2, jh, jhK0, hno⟩ ⟨rr, hrr⟩ hDD
  have hzjhK0 := Keep.size jhK0
  have hb1lt := jb1.lt
  have hb3lt := jb3.lt
  have hbs8lt := jbs8.lt
  have hbn9lt := jbn9.lt
  have ltjA2 := SlT.lt jA2
  obtain ⟨x, hx⟩ : ∃ x, (rowL a cs)[k]? = some x := ⟨_, List.getElem?_eq_getElem hkm⟩
  rw [enc2_at hx]
  refine V_pick [(6, pt b1), (7, pt b3), (13, nt x.1), (14, nt x.2)] rfl ?_
  have hfen : Keep (fen w5.heap.size M1) W W := Keep.refl _ _
  have hzhfen := Keep.size hfen
  refine V_seq ?_
  refine V_region ?_
  refine OI_static 1 [(6, pt b1), (7, pt b3), (8, nt x.1), (14, nt x.2)] (by kernel_rfl) ?_
  refine OI_end rfl ?_
  refine X_then ?_
  refine V_region ?_
  refine OI_static 1 [(6, pt b1), (7, pt b3), (8, nt x.1), (9, nt x.2)] (by kernel_rfl) ?_
  refine OI_end rfl ?_
  refine X_begin2 hfen ?_
  intro W2 hk2 ⟨r2, hr2⟩ hD2
  have hsz11 := Keep.size hk2
  replace jb1 := Blk.quiet jb1 hk2
  replace jb3 := Blk.quiet jb3 hk2
  replace jbs8 := Blk.quiet jbs8 hk2
  replace jbn9 := Blk.quiet jbn9 hk2
  replace jA2 := SlT.quiet jA2 hk2
  replace jh := Led.quiet jh hk2
  replace jhK0 := Keep.quiet jhK0 hk2 (by omega)
  have hzhk2 := Keep.size hk2
  have hfenb : Keep (fen w5.heap.size M1) W2 W2 := Keep.refl _ _
  have hzhfenb := Keep.size hfenb
  refine V_block ?_
  refine V_seq ?_
  refine V_region ?_
  refine OI_static 1 [(6, pt b1), (7, pt b3), (9, nt x.2), (15, nt x.1)] (by kernel_rfl) ?_
  refine OI_cell 3 (.tmp 6) 0 (nt t) (some 16) (by kernel_rfl) (by kernel_rfl) jb1 (m := 1) (by kernel_rfl) rfl ?_
  refine OI_static 4 [(7, pt b3), (9, nt x.2), (18, .bool (decide (x.1 = t)))] (by kernel_rfl) ?_
  by_cases hg12 : x.1 = t
  ·
   refine OI_eq [(7, pt b3), (9, nt x.2), (18, .bool true)] (by first | simp [hg12] | rfl) ?_
   refine OI_static 5 [(7, pt b3), (18, .bool true), (19, nt x.2)] (by kernel_rfl) ?_
   refine OI_cell 3 (.tmp 7) 0 (nt n) (some 20) (by kernel_rfl) (by kernel_rfl) jb3 (m := 1) (by kernel_rfl) rfl ?_
   refine OI_static 8 [(22, .bool (decide (x.2 ≥ n)))] (by kernel_rfl) ?_
   refine OI_end rfl ?_
   refine X_then ?_
   refine V_if (x.2 ≥ n) (by kernel_rfl) (fun hc13 => ?_) (fun hc13 => ?_)
   ·
    refine V_ret ?_
    refine X_ret_block ?_
    exact fun a _ => ⟨hfenb, ⟨rfl, jb1, jb3, jbs8, jbn9, jA2, jh, jhK0, hasAt_yes hx hg12 hc13⟩⟩
   ·
    refine V_skip ?_
    refine X_block ?_
    exact fun a _ => ⟨hfenb, jb1, jb3, jbs8, jbn9, jA2, jh, jhK0, hasAt_step hx hno (by rintro ⟨h8, h9⟩; exact hc13 h9)⟩
  ·
   refine OI_eq [(7, pt b3), (9, nt x.2), (18, .bool false)] (by first | simp [hg12] | rfl) ?_
   refine OI_static 8 [(22, .bool false)] (by kernel_rfl) ?_
   refine OI_end rfl ?_
   refine X_then ?_
   refine V_false rfl ?_
   refine V_skip ?_
   refine X_block ?_
   exact fun a _ => ⟨hfenb, jb1, jb3, jbs8, jbn9, jA2, jh, jhK0, hasAt_step hx hno (by rintro ⟨h8, h9⟩; exact hg12 h8)⟩
 ·
  intro D M1 W hD hM ⟨jb1, jb3, jbs8, jbn9, jA2, jh, jhK0, hno⟩ hDD
  have hzjhK0 := Keep.size jhK0
  have hb1lt := jb1.lt
  have hb3lt := jb3.lt
  have hbs8lt := jbs8.lt
  have hbn9lt := jbn9.lt
  have ltjA2 := SlT.lt jA2
  refine X_block ?_
  refine X_then ?_
  refine V_region ?_
  refine OI_static 2 [(6, pt b1), (7, pt b3), (23, pt l), (24, nt a)] (by kernel_rfl) ?_
  refine OI_cell 3 (.tmp 6) 0 (nt t) (some 25) (by kernel_rfl) (by kernel_rfl) jb1 (m := 1) (by kernel_rfl) rfl ?_
  refine OI_cell 3 (.tmp 7) 0 (nt n) (some 26) (by kernel_rfl) (by kernel_rfl) jb3 (m := 1) (by kernel_rfl) rfl ?_
  refine OI_call { callee := (Callee.value (Operand.func 66)), args := #[(Operand.tmp 23), (Operand.tmp 24), (Operand.tmp 25), (Operand.tmp 26)], argTypes := #[30, 3, 3, 3] } 66 #[pt l, nt a, nt t, nt n] (some 27) (by kernel_rfl) (by kernel_rfl) (by kernel_rfl) (lock_spec F l xs cs a t n _ jh hmax) ?_
  rintro _ w14 ⟨rfl, ⟨F16, ho17, hfr18⟩, hk15⟩
  refine ⟨_, rfl, ?_⟩
  have hsz19 := Keep.size hk15
  replace jbs8 := jbs8.keep hk15 (fun hs => by have h2 := hFlt _ hs; omega)
  replace jbn9 := jbn9.keep hk15 (fun hs => by have h2 := hFlt _ hs; omega)
  replace jhK0 := Keep.fresh jhK0 hk15 (fun i hi hs => by rcases hFr i hs with h | h; exact h; (exfalso; omega))
  replace hDD := (Keep.block hk15 _ (Array.getElem?_eq_some_iff.1 hDD).1 (fun hs => by have h2 := hFlt _ hs; omega)).trans hDD
  have lt20 := Led.lt ho17
  have rel21 : ∀ q, F16 q → F q ∨ w.heap.size ≤ q := fun q hq => by rcases hfr18 q hq with h | h; exact hFr q h; exact .inr (by omega)
  refine OI_end rfl ?_
  rw [List.take_length] at hno
  exact leave1 (.tuple #[]) (.inr rfl) hDD (fun w' hk => ⟨res_tmps rfl, ⟨rfl, ⟨F16, by rw [show raiseC cs a t n = lockC cs a t n from by unfold raiseC; rw [if_neg (by rw [hno]; decide)]]; exact Led.quiet ho17 hk, rel21⟩, Keep.quiet jhK0 hk (by omega)⟩⟩)
 ·
  intro D M1 k c W hD hM hkm h hDD
  obtain ⟨hc, jb1, jb3, jbs8, jbn9, jA2, jh, jhK0, hyes⟩ := h
  subst hc
  have hzjhK0 := Keep.size jhK0
  have hb1lt := jb1.lt
  have hb3lt := jb3.lt
  have hbs8lt := jbs8.lt
  have hbn9lt := jbn9.lt
  have ltjA2 := SlT.lt jA2
  refine V_ret ?_
  refine X_ret_block ?_
  refine X_ret_then ?_
  exact leave1 (.tuple #[]) (.inl rfl) hDD (fun w' hk => ⟨res_tmps rfl, ⟨rfl, ⟨F, by rw [show raiseC cs a t n = cs from by unfold raiseC; rw [if_pos hyes]]; exact Led.quiet jh hk, hFr⟩, Keep.quiet jhK0 hk (by omega)⟩⟩)
end Go.Al


namespace Go.Al
open Go Go.RowKit Go.Proofs
def joinR (r : RecS) (u n now : Int) : RecS := if u > now then { r with till := if u > r.till then u else r.till, n := if n > r.n then n else r.n } else r
theorem joinR_d (r : RecS) (u n now : Int) : (joinR r u n now).d = r.d := by unfold joinR; split <;> rfl
def wonV (x : Vt) (st : Int) : Bool := decide (x.kind = 1) && (if x.aye then decide (st = 2) else decide (st = 3))
theorem VS.setP_setP (s : VS) (i : Nat) (a b : PollS) : (s.setP i a).setP i b = s.setP i b := by unfold VS.setP; simp
theorem trk_setP {s : VS} {i : Nat} {q q' : PollS} (h : s.ps[i]? = some (some q)) (ht : q'.track = q.track) (r : Int) : trk (s.setP i q') r = trk s r := by
  unfold trk VS.setP
  by_cases he : i = r.toNat
  · subst he
    have hl := (List.getElem?_eq_some_iff.1 h).1
    simp only [List.getElem?_set_self hl, h, ht]
  · simp only [List.getElem?_set_ne he]
theorem updR_self (rc : Int → Int → RecS) (a t : Int) (r : RecS) : updR rc a t r a t = r := by unfold updR; rw [if_pos ⟨rfl, rfl⟩]

set_option maxRecDepth 10000 in
theorem joins_spec (q : Nat) (dp : Option Addr) (r : RecS) (u n now : Int) (w : World) (hq : Blk w q (RecS.cells dp r) 99) : Calls Tryz.prog 62 #[.pointer (some ⟨q, 0, none⟩), .int .i64 u, .int .i64 n, .int .i64 now] w fun e w' => e = .returned (.tuple #[]) ∧ Blk w' q (RecS.cells dp (joinR r u n now)) 99 ∧ Keep (only q) w w' := by
 have hqlt := hq.lt
 have hK0 : Keep (only q) w w := Keep.refl _ _
 have hzhK0 := Keep.size hK0
 refine enterV Tryz.func62 rfl [pt q, nt u, nt n, nt now] 29 rfl rfl rfl ?_
 refine V_pick [(0, pt q), (1, nt u), (2, nt n), (3, nt now)] rfl ?_
 refine V_seq ?_
 refine V_region ?_
 refine OI_static 3 [(0, pt q), (1, nt u), (2, nt n), (10, .bool (decide (u > now)))] (by kernel_rfl) ?_
 refine OI_end rfl ?_
 refine X_then ?_
 refine V_if (u > now) (by kernel_rfl) (fun hc1 => ?_) (fun hc1 => ?_)
 ·
  refine V_draws (acts [5, 11, 16, 19]) (only q) [[2, 3, 4, 5, 8, 9, 10, 11, 0, 6, 7, 14, 15, 16, 1, 12, 13, 17, 18, 19], [8, 9, 10, 11, 2, 3, 4, 5, 0, 6, 7, 14, 15, 16, 1, 12, 13, 17, 18, 19]] (by kernel_rfl) (by repeat first | exact sure_body (by rintro _ _ ⟨h, _⟩; exact ⟨_, h⟩) | refine sure_then ?_ | refine sure_block ?_ | refine sure_join ?_) (by kernel_rfl) ?_
  intro w3 hk2 he4 L hL5
  have hsz6 := Keep.size hk2
  replace hq := hq.keep hk2 (fun f => f)
  replace hK0 := Keep.tr hK0 (Keep.ofNone hk2)
  have qhq := hq
  have K7 : Keep (only q) w3 w3 := Keep.refl _ _
  simp only [List.mem_cons, List.not_mem_nil, or_false] at hL5
  rcases hL5 with rfl | rfl
  ·
   refine GI_static [5, 8, 9, 10, 11, 0, 6, 7, 14, 15, 16, 1, 12, 13, 17, 18, 19] [(0, pt q), (1, nt u), (2, nt n), (15, .pointer (some ⟨q, 3, none⟩))] (by kernel_rfl) ?_
   refine GI_cellA 3 (.tmp 15) 3 (nt ((r).till)) (some 16) (by kernel_rfl) (by kernel_rfl) K7 (by kernel_rfl) hq (m := 1) (by kernel_rfl) rfl ?_
   refine GI_static [11, 0, 6, 7, 14, 15, 16, 1, 12, 13, 17, 18, 19] [(0, pt q), (1, nt u), (2, nt n), (16, nt ((r).till)), (21, .pointer (some ⟨q, 4, none⟩))] (by kernel_rfl) ?_
   refine GI_cellA 3 (.tmp 21) 4 (nt ((r).n)) (some 22) (by kernel_rfl) (by kernel_rfl) K7 (by kernel_rfl) hq (m := 1) (by kernel_rfl) rfl ?_
   refine GI_static [16, 1, 12, 13, 17, 18, 19] [(0, pt q), (2, nt n), (18, nt (if u > (r).till then u else (r).till)), (22, nt ((r).n)), (26, .pointer (some ⟨q, 3, none⟩))] (by kernel_rfl) ?_
   refine GI_set (m := 1) (kd := false) 3 (.tmp 26) (.tmp 18) 3 (nt (if u > (r).till then u else (r).till)) [nt (if u > (r).till then u else (r).till)] none (by kernel_rfl) (by kernel_rfl) (by kernel_rfl) (by kernel_rfl) hq (by kernel_rfl) (by kernel_rfl) (by kernel_rfl) (Nat.le_of_ble_eq_true (by kernel_rfl)) (by simp [Value.oneCell']) K7 (fun hh => rfl) ?_
   intro w8 hq_11 hk9 hz10 K12
   replace hq_11 : Blk w8 q [.pointer dp, nt ((r).got.v), nt ((r).got.c), nt (if u > (r).till then u else (r).till), nt ((r).n)] 99 := hq_11
   have hsz13 := Keep.size hk9
   replace hK0 := Keep.fresh hK0 hk9 (by intro i hi hs; first | exact hs | exact Or.inl hs | exact Or.inr hs | (exfalso; have hs2 : i = q := hs; omega))
   refine GI_static [19] [(24, nt (if n > (r).n then n else (r).n)), (28, .pointer (some ⟨q, 4, none⟩))] (by kernel_rfl) ?_
   refine GI_final 19 (by kernel_rfl) (by kernel_rfl) ?_
   refine OI_set (m := 1) (kd := false) 3 (.tmp 28) (.tmp 24) 4 (nt (if n > (r).n then n else (r).n)) [nt (if n > (r).n then n else (r).n)] none (by kernel_rfl) (by kernel_rfl) (by kernel_rfl) hq_11 (by kernel_rfl) (by kernel_rfl) (by kernel_rfl) (Nat.le_of_ble_eq_true (by kernel_rfl)) (by simp [Value.oneCell']) ?_
   intro w14 hq_17 hk15 hz16
   replace hq_17 : Blk w14 q [.pointer dp, nt ((r).got.v), nt ((r).got.c), nt (if u > (r).till then u else (r).till), nt (if n > (r).n then n else (r).n)] 99 := hq_17
   have hsz18 := Keep.size hk15
   replace hK0 := Keep.fresh hK0 hk15 (by intro i hi hs; first | exact hs | exact Or.inl hs | exact Or.inr hs | (exfalso; have hs2 : i = q := hs; omega))
   refine OI_end rfl ?_
   exact X_end _ rfl ⟨rfl, by unfold joinR; first | (rw [if_pos (by omega)]; exact hq_17) | (rw [if_neg (by omega)]; exact hq_17), hK0⟩
  ·
   refine GI_static [11, 2, 3, 4, 5, 0, 6, 7, 14, 15, 16, 1, 12, 13, 17, 18, 19] [(0, pt q), (1, nt u), (2, nt n), (21, .pointer (some ⟨q, 4, none⟩))] (by kernel_rfl) ?_
   refine GI_cellA 3 (.tmp 21) 4 (nt ((r).n)) (some 22) (by kernel_rfl) (by kernel_rfl) K7 (by kernel_rfl) hq (m := 1) (by kernel_rfl) rfl ?_
   refine GI_static [5, 0, 6, 7, 14, 15, 16, 1, 12, 13, 17, 18, 19] [(0, pt q), (1, nt u), (2, nt n), (15, .pointer (some ⟨q, 3, none⟩)), (22, nt ((r).n))] (by kernel_rfl) ?_
   refine GI_cellA 3 (.tmp 15) 3 (nt ((r).till)) (some 16) (by kernel_rfl) (by kernel_rfl) K7 (by kernel_rfl) hq (m := 1) (by kernel_rfl) rfl ?_
   refine GI_static [16, 1, 12, 13, 17, 18, 19] [(0, pt q), (2, nt n), (18, nt (if u > (r).till then u else (r).till)), (22, nt ((r).n)), (26, .pointer (some ⟨q, 3, none⟩))] (by kernel_rfl) ?_
   refine GI_set (m := 1) (kd := false) 3 (.tmp 26) (.tmp 18) 3 (nt (if u > (r).till then u else (r).till)) [nt (if u > (r).till then u else (r).till)] none (by kernel_rfl) (by kernel_rfl) (by kernel_rfl) (by kernel_rfl) hq (by kernel_rfl) (by kernel_rfl) (by kernel_rfl) (Nat.le_of_ble_eq_true (by kernel_rfl)) (by simp [Value.oneCell']) K7 (fun hh => rfl) ?_
   intro w19 hq_22 hk20 hz21 K23
   replace hq_22 : Blk w19 q [.pointer dp, nt ((r).got.v), nt ((r).got.c), nt (if u > (r).till then u else (r).till), nt ((r).n)] 99 := hq_22
   have hsz24 := Keep.size hk20
   replace hK0 := Keep.fresh hK0 hk20 (by intro i hi hs; first | exact hs | exact Or.inl hs | exact Or.inr hs | (exfalso; have hs2 : i = q := hs; omega))
   refine GI_static [19] [(24, nt (if n > (r).n then n else (r).n)), (28, .pointer (some ⟨q, 4, none⟩))] (by kernel_rfl) ?_
   refine GI_final 19 (by kernel_rfl) (by kernel_rfl) ?_
   refine OI_set (m := 1) (kd := false) 3 (.tmp 28) (.tmp 24) 4 (nt (if n > (r).n then n else (r).n)) [nt (if n > (r).n then n else (r).n)] none (by kernel_rfl) (by kernel_rfl) (by kernel_rfl) hq_22 (by kernel_rfl) (by kernel_rfl) (by kernel_rfl) (Nat.le_of_ble_eq_true (by kernel_rfl)) (by simp [Value.oneCell']) ?_
   intro w25 hq_28 hk26 hz27
   replace hq_28 : Blk w25 q [.pointer dp, nt ((r).got.v), nt ((r).got.c), nt (if u > (r).till then u else (r).till), nt (if n > (r).n then n else (r).n)] 99 := hq_28
   have hsz29 := Keep.size hk26
   replace hK0 := Keep.fresh hK0 hk26 (by intro i hi hs; first | exact hs | exact Or.inl hs | exact Or.inr hs | (exfalso; have hs2 : i = q := hs; omega))
   refine OI_end rfl ?_
   exact X_end _ rfl ⟨rfl, by unfold joinR; first | (rw [if_pos (by omega)]; exact hq_28) | (rw [if_neg (by omega)]; exact hq_28), hK0⟩
 ·
  refine V_skip ?_
  exact X_end _ rfl ⟨rfl, by unfold joinR; first | (rw [if_pos (by omega)]; exact hq) | (rw [if_neg (by omega)]; exact hq), hK0⟩

set_option maxRecDepth 10000 in
theorem won_spec (x : Vt) (st : Int) (w : World) : Calls Tryz.prog 65 #[.agg x.cells.toArray, .int .i64 st] w fun e w' => e = .returned (.bool (wonV x st)) ∧ Keep none_ w w' := by
 have hK0 : Keep none_ w w := Keep.refl _ _
 have hzhK0 := Keep.size hK0
 refine enterV Tryz.func65 rfl [.agg (Vt.cells x).toArray, nt st] 25 rfl rfl rfl ?_
 refine V_pick [(0, .agg (Vt.cells x).toArray), (1, nt st)] rfl ?_
 refine V_seq ?_
 refine V_region ?_
 refine OI_box 23 (.tmp 0) (.agg (Vt.cells x).toArray) (Vt.cells x) (some 2) (by kernel_rfl) (by kernel_rfl) rfl ?_
 intro b1 w1 e1 hb1 k1 z1
 have hsz2 := Keep.size k1
 replace hK0 := Keep.tr hK0 (Keep.ofNone k1)
 have hb1lt := hb1.lt
 refine OI_static 2 [(1, nt st), (2, pt b1)] (by kernel_rfl) ?_
 refine OI_end rfl ?_
 refine X_then ?_
 refine V_seq ?_
 refine V_region ?_
 refine OI_static 1 [(1, nt st), (2, pt b1), (5, pt b1)] (by kernel_rfl) ?_
 refine OI_cell 3 (.tmp 5) 0 (nt x.kind) (some 6) (by kernel_rfl) (by kernel_rfl) hb1 (m := 1) (by kernel_rfl) rfl ?_
 refine OI_static 4 [(1, nt st), (2, pt b1), (8, .bool (decide (x.kind = 1)))] (by kernel_rfl) ?_
 by_cases hg3 : x.kind = 1
 ·
  refine OI_eq [(1, nt st), (2, pt b1), (8, .bool true)] (by first | simp [hg3] | rfl) ?_
  refine OI_static 5 [(1, nt st), (2, pt b1), (8, .bool true), (9, .pointer (some ⟨b1, 1, none⟩))] (by kernel_rfl) ?_
  refine OI_cell 4 (.tmp 9) 1 (.bool x.aye) (some 10) (by kernel_rfl) (by kernel_rfl) hb1 (m := 1) (by kernel_rfl) rfl ?_
  refine OI_static 7 [(1, nt st), (2, pt b1), (8, .bool true), (11, .bool x.aye)] (by kernel_rfl) ?_
  cases hg4 : x.aye
  ·
   refine OI_eq [(1, nt st), (2, pt b1), (8, .bool true), (11, .bool false)] (by first | rfl | rw [hg4]) ?_
   refine OI_static 12 [(1, nt st), (8, .bool true), (15, .bool false), (16, .pointer (some ⟨b1, 1, none⟩))] (by kernel_rfl) ?_
   refine OI_cell 4 (.tmp 16) 1 (.bool x.aye) (some 17) (by kernel_rfl) (by kernel_rfl) hb1 (m := 1) (by kernel_rfl) rfl ?_
   refine OI_static 15 [(1, nt st), (8, .bool true), (15, .bool false), (19, .bool (!x.aye))] (by kernel_rfl) ?_
   cases hg5 : (!x.aye)
   ·
    refine OI_eq [(1, nt st), (8, .bool true), (15, .bool false), (19, .bool false)] (by first | rfl | rw [hg5]) ?_
    refine OI_static 21 [(4, .bool false)] (by kernel_rfl) ?_
    refine OI_end rfl ?_
    refine X_then ?_
    refine V_ret ?_
    exact X_return (.bool false) rfl ⟨by congr 2; simp_all [wonV], hK0⟩
   ·
    refine OI_eq [(1, nt st), (8, .bool true), (15, .bool false), (19, .bool true)] (by first | rfl | rw [hg5]) ?_
    refine OI_static 21 [(4, .bool (decide (st = 3)))] (by kernel_rfl) ?_
    refine OI_end rfl ?_
    refine X_then ?_
    refine V_ret ?_
    exact X_return (.bool (decide (st = 3))) rfl ⟨by congr 2; simp_all [wonV], hK0⟩
  ·
   refine OI_eq [(1, nt st), (2, pt b1), (8, .bool true), (11, .bool true)] (by first | rfl | rw [hg4]) ?_
   refine OI_static 11 [(1, nt st), (2, pt b1), (8, .bool true), (15, .bool (decide (st = 2)))] (by kernel_rfl) ?_
   by_cases hg6 : st = 2
   ·
    refine OI_eq [(1, nt st), (2, pt b1), (8, .bool true), (15, .bool true)] (by first | simp [hg6] | rfl) ?_
    refine OI_static 21 [(4, .bool true)] (by kernel_rfl) ?_
    refine OI_end rfl ?_
    refine X_then ?_
    refine V_ret ?_
    exact X_return (.bool true) rfl ⟨by congr 2; simp_all [wonV], hK0⟩
   ·
    refine OI_eq [(1, nt st), (2, pt b1), (8, .bool true), (15, .bool false)] (by first | simp [hg6] | rfl) ?_
    refine OI_static 12 [(1, nt st), (8, .bool true), (15, .bool false), (16, .pointer (some ⟨b1, 1, none⟩))] (by kernel_rfl) ?_
    refine OI_cell 4 (.tmp 16) 1 (.bool x.aye) (some 17) (by kernel_rfl) (by kernel_rfl) hb1 (m := 1) (by kernel_rfl) rfl ?_
    refine OI_static 15 [(1, nt st), (8, .bool true), (15, .bool false), (19, .bool (!x.aye))] (by kernel_rfl) ?_
    cases hg7 : (!x.aye)
    ·
     refine OI_eq [(1, nt st), (8, .bool true), (15, .bool false), (19, .bool false)] (by first | rfl | rw [hg7]) ?_
     refine OI_static 21 [(4, .bool false)] (by kernel_rfl) ?_
     refine OI_end rfl ?_
     refine X_then ?_
     refine V_ret ?_
     exact X_return (.bool false) rfl ⟨by congr 2; simp_all [wonV], hK0⟩
    ·
     refine OI_eq [(1, nt st), (8, .bool true), (15, .bool false), (19, .bool true)] (by first | rfl | rw [hg7]) ?_
     refine OI_static 21 [(4, .bool (decide (st = 3)))] (by kernel_rfl) ?_
     refine OI_end rfl ?_
     refine X_then ?_
     refine V_ret ?_
     exact X_return (.bool (decide (st = 3))) rfl ⟨by congr 2; simp_all [wonV], hK0⟩
 ·
  refine OI_eq [(1, nt st), (2, pt b1), (8, .bool false)] (by first | simp [hg3] | rfl) ?_
  refine OI_static 21 [(4, .bool false)] (by kernel_rfl) ?_
  refine OI_end rfl ?_
  refine X_then ?_
  refine V_ret ?_
  exact X_return (.bool false) rfl ⟨by congr 2; simp_all [wonV], hK0⟩
end Go.Al


namespace Go.Al
open Go Go.RowKit Go.Proofs
theorem Vot.recO {F : Nat → Prop} {w : World} {v : Nat} {P : VP} {s : VS} (h : Vot F w v P s) {a t : Int} {q : Nat} (e : GR.getC a t P.rs = some (some ⟨q, 0, none⟩)) : ∃ dp, F q ∧ Blk w q (RecS.cells dp (s.rc a t)) 99 := by
  obtain ⟨⟨dp, h1, _⟩, h2⟩ := h.recB e
  exact ⟨dp, h2, h1⟩
theorem Vot.setDelE {F : Nat → Prop} {w w' : World} {v : Nat} {P : VP} {s : VS} (h : Vot F w v P s) {a t : Int} {q b0 : Nat} {r' : RecS} {d : DelS} {L : List Value} (e : GR.getC a t P.rs = some (some ⟨q, 0, none⟩)) (hb : Blk w q L 99) (hb0 : Blk w b0 d.cells 101) (hF0 : ¬ F b0) (k : Keep (only q) w w') (hb' : Blk w' q (RecS.cells (some ⟨b0, 0, none⟩) r') 99)
    (hd : r'.d = some d) (hok : okD r') : ∃ F', Vot F' w' v P (s.setR a t r') ∧ ∀ x, F' x → F x ∨ x = b0 := ⟨_, Vot.setDel h e hb hb0 hF0 k hb' hd hok, fun _ h => h⟩
theorem VotA.setRec {A : Option Addr} {cap : Nat} {F : Nat → Prop} {w w' : World} {v : Nat} {P : VP} {s : VS} (h : VotA A cap F w v P s) {a t : Int} {q : Nat} {r' : RecS} {dp dp' : Option Addr} (e : GR.getC a t P.rs = some (some ⟨q, 0, none⟩)) (hb : Blk w q (RecS.cells dp (s.rc a t)) 99) (k : Keep (only q) w w') (hb' : Blk w' q (RecS.cells dp' r') 99)
    (hd : (dp' = dp ∧ r'.d = (s.rc a t).d) ∨ (dp' = none ∧ r'.d = none)) : Vot F w' v P (s.setR a t r') := h.vot.setRec e hb k hb' hd

def retally1 (was now : Wgt) (s : VS) (c : Int × Vt) : VS := match s.ps[c.1.toNat]? with
  | some (some q) => if q.state = 0 then s.setP c.1.toNat { q with t := addT (subT q.t (gainT c.2 was)) (gainT c.2 now) } else s
  | _ => s
def retally (was now : Wgt) (s : VS) (l : List (Int × Vt)) : VS := l.foldl (retally1 was now) s
def gotW (g wt : Wgt) : Wgt := ⟨w64 (g.v + wt.v), w64 (g.c + wt.c)⟩
def getsS (s : VS) (a t : Int) (wt : Wgt) : VS := retally (s.rc a t).got (gotW (s.rc a t).got wt) (s.setR a t { s.rc a t with got := ⟨w64 ((s.rc a t).got.v + wt.v), w64 ((s.rc a t).got.c + wt.c)⟩ }) (vrow s a t)
theorem retally1_inv (was now : Wgt) (s : VS) (c : Int × Vt) : (retally1 was now s c).cs = s.cs ∧ (retally1 was now s c).rc = s.rc ∧ ∀ r, trk (retally1 was now s c) r = trk s r := by
  unfold retally1
  split
  · rename_i q hq
    split
    · exact ⟨rfl, rfl, trk_setP hq rfl⟩
    · exact ⟨rfl, rfl, fun _ => rfl⟩
  · exact ⟨rfl, rfl, fun _ => rfl⟩
theorem retally_inv (was now : Wgt) : ∀ (l : List (Int × Vt)) (s : VS), (retally was now s l).cs = s.cs ∧ (retally was now s l).rc = s.rc ∧ ∀ r, trk (retally was now s l) r = trk s r
  | [], s => ⟨rfl, rfl, fun _ => rfl⟩
  | c :: l, s => by
    obtain ⟨h1, h2, h3⟩ := retally1_inv was now s c
    obtain ⟨g1, g2, g3⟩ := retally_inv was now l (retally1 was now s c)
    exact ⟨g1.trans h1, g2.trans h2, fun r => (g3 r).trans (h3 r)⟩
theorem retally_step {was now : Wgt} {s : VS} {l : List (Int × Vt)} {k : Nat} {c : Int × Vt} (h : l[k]? = some c) : retally was now s (l.take (k + 1)) = retally1 was now (retally was now s (l.take k)) c := by
  obtain ⟨h1, rfl⟩ := List.getElem?_eq_some_iff.1 h
  unfold retally
  rw [List.take_succ_eq_append_getElem h1, List.foldl_append]; rfl
theorem VotA.pthere {A : Option Addr} {cap : Nat} {F : Nat → Prop} {w : World} {v : Nat} {P : VP} {s s0 : VS} (h : VotA A cap F w v P s) (hcs : s.cs = s0.cs) {a t : Int} {k : Nat} {x : Int × Vt} (hx : (vrow s0 a t)[k]? = some x) : ∃ q, pollAt s x.1 = some q := by
  obtain ⟨F1, F2, M, h, _⟩ := h
  have hm := List.mem_of_getElem? hx
  unfold vrow at hm
  obtain ⟨hm, _⟩ := List.mem_filter.1 hm
  obtain ⟨j, hj, he⟩ := List.getElem_of_mem hm
  obtain ⟨c, hc, h1, h2, h3⟩ := rowL_mem (k := j) (by rw [List.getElem?_eq_getElem hj, he])
  obtain ⟨g1, g2, g3, q0, g4⟩ := h.inv.votes c (by rw [hcs]; exact hc)
  refine ⟨q0, ?_⟩
  unfold pollAt
  rw [← h2, if_pos g2, g4]; rfl

set_option maxRecDepth 10000 in
theorem gets_spec (F : Nat → Prop) (v : Nat) (P : VP) (s : VS) (a t : Int) (wt : Wgt) (w : World) (h : Vot F w v P s)(ha : 0 ≤ a ∧ a < 10) (ht : 0 ≤ t ∧ t < 4) : Calls Tryz.prog 50 #[.pointer (some ⟨v, 0, none⟩), .int .i64 a, .int .i64 t, .agg wt.cells.toArray] w fun e w' => e = .returned (.tuple #[]) ∧ ∃ P', P'.pp = P.pp ∧ P'.gv = P.gv ∧ (∀ x y z, GR.getC x y P.rs = some z → GR.getC x y P'.rs = some z) ∧ (∀ x L, Blk w x L 101 → Blk w' x L 101) ∧ (∃ F', Vot F' w' v P' (getsS s a t wt) ∧ (∀ q, F' q → F q ∨ w.heap.size ≤ q)) ∧ Keep F w w' := by
 have hFlt := Vot.lt h
 have hvlt := hFlt _ (Vot.at_ h)
 have hFo : ∀ q, F q → 0 ≤ q := fun q _ => Nat.zero_le q
 have hFr : ∀ q, F q → F q ∨ w.heap.size ≤ q := fun _ h => .inl h
 have htd : ∀ x L, Blk w x L 101 → Blk w x L 101 := fun _ _ h => h
 have hK0 : Keep F w w := Keep.refl _ _
 have hzhK0 := Keep.size hK0
 refine enterM Tryz.func50 rfl [pt v, nt a, nt t, .agg (Wgt.cells wt).toArray] 68 rfl rfl rfl ?_
 refine V_pick [(0, pt v), (1, nt a), (2, nt t), (3, .agg (Wgt.cells wt).toArray)] rfl ?_
 refine V_seq ?_
 refine V_region ?_
 refine OI_box 31 (.tmp 0) (pt v) [pt v] (some 4) (by kernel_rfl) (by kernel_rfl) (by kernel_rfl) ?_
 intro b1 w1 e1 hb1 k1 z1
 have hsz2 := Keep.size k1
 replace h := Vot.keep h k1 (fun _ _ f => f)
 replace htd : ∀ x L, Blk w x L 101 → Blk w1 x L 101 := fun x L hx => Blk.keep (htd x L hx) k1 (fun f => f)
 replace hK0 := Keep.tr hK0 (Keep.ofNone k1)
 have hb1lt := hb1.lt
 refine OI_box 54 (.tmp 3) (.agg (Wgt.cells wt).toArray) (Wgt.cells wt) (some 7) (by kernel_rfl) (by kernel_rfl) rfl ?_
 intro b3 w3 e3 hb3 k3 z3
 have hsz4 := Keep.size k3
 replace hb1 := hb1.keep k3 (fun f => f)
 replace h := Vot.keep h k3 (fun _ _ f => f)
 replace htd : ∀ x L, Blk w x L 101 → Blk w3 x L 101 := fun x L hx => Blk.keep (htd x L hx) k3 (fun f => f)
 replace hK0 := Keep.tr hK0 (Keep.ofNone k3)
 have hb3lt := hb3.lt
 refine OI_end rfl ?_
 refine X_then ?_
 refine V_seq ?_
 refine V_region ?_
 refine OI_cell 31 (.tmp 4) 0 (pt v) (some 13) (by kernel_rfl) (by kernel_rfl) hb1 (m := 1) (by kernel_rfl) rfl ?_
 refine OI_static 3 [(1, nt a), (2, nt t), (4, pt b1), (7, pt b3), (13, pt v), (14, nt a), (15, nt t)] (by kernel_rfl) ?_
 refine OI_call { callee := (Callee.value (Operand.func 48)), args := #[(Operand.tmp 13), (Operand.tmp 14), (Operand.tmp 15)], argTypes := #[31, 3, 3] } 48 #[pt v, nt a, nt t] (some 16) (by kernel_rfl) (by kernel_rfl) (by kernel_rfl) (record_spec F v P s a t _ h ha ht) ?_
 rintro _ w17 ⟨q7, P8, rfl, hgc12, hpp13, hgv14, hmn15, hdl16, ⟨F9, ho10, hfr11⟩, hk18⟩
 refine ⟨_, rfl, ?_⟩
 have hsz19 := Keep.size hk18
 replace hb1 := hb1.keep hk18 (fun hs => by have h1 := hFo _ hs; have h2 := hFlt _ hs; omega)
 replace hb3 := hb3.keep hk18 (fun hs => by have h1 := hFo _ hs; have h2 := hFlt _ hs; omega)
 replace htd : ∀ x L, Blk w x L 101 → Blk w17 x L 101 := fun x L hx => hdl16 x L (htd x L hx)
 replace hK0 := Keep.fresh hK0 hk18 (fun i hi hs => by rcases hFr i hs with h | h; exact h; (exfalso; omega))
 have own21 : ∀ q, F9 q → 0 ≤ q ∧ q ≠ b1 ∧ q ≠ b3 := fun q hq => by rcases hfr11 q hq with h | h; (have h1 := hFo q h; have h2 := hFlt q h; omega); omega
 have lt20 := Vot.lt ho10
 have rel22 : ∀ q, F9 q → F q ∨ w.heap.size ≤ q := fun q hq => by rcases hfr11 q hq with h | h; exact hFr q h; exact .inr (by omega)
 have hgq7lt := lt20 _ (Vot.at_ ho10)
 obtain ⟨dp25, hF24, hm23⟩ := Vot.recO ho10 hgc12
 have hq7lt := hm23.lt
 have hloq7 := lt20 _ hF24
 have hoq7 := own21 _ hF24
 refine OI_alloc 95 (.pointer none) [.pointer none] (some 8) (by kernel_rfl) (by kernel_rfl) (by kernel_rfl) ?_
 intro b26 w26 e26 hb26 k26 z26
 have hsz27 := Keep.size k26
 replace hb1 := hb1.keep k26 (fun f => f)
 replace hb3 := hb3.keep k26 (fun f => f)
 replace hm23 := hm23.keep k26 (fun f => f)
 replace htd : ∀ x L, Blk w x L 101 → Blk w26 x L 101 := fun x L hx => Blk.keep (htd x L hx) k26 (fun f => f)
 replace hK0 := Keep.tr hK0 (Keep.ofNone k26)
 replace ho10 := Vot.keep ho10 k26 (fun _ _ f => f)
 have hb26lt := hb26.lt
 refine OI_set (m := 1) (kd := false) 95 (.tmp 8) (.tmp 16) 0 (pt q7) [pt q7] none (by kernel_rfl) (by kernel_rfl) (by kernel_rfl) hb26 (by kernel_rfl) (by kernel_rfl) (by kernel_rfl) (Nat.le_of_ble_eq_true (by kernel_rfl)) (by simp [Value.oneCell']) ?_
 intro w28 hb26_31 hk29 hz30
 replace hb26_31 : Blk w28 b26 [pt q7] 95 := hb26_31
 have hsz32 := Keep.size hk29
 replace hb1 := hb1.keep hk29 (by show ¬ (_ = _); omega)
 replace hb3 := hb3.keep hk29 (by show ¬ (_ = _); omega)
 replace hm23 := hm23.keep hk29 (by show ¬ (_ = _); omega)
 replace htd : ∀ x L, Blk w x L 101 → Blk w28 x L 101 := fun x L hx => Blk.keep (htd x L hx) hk29 (Blk.ne (htd x L hx) hb26 (by decide))
 replace hK0 := Keep.fresh hK0 hk29 (by intro i hi hs; first | exact hs | exact Or.inl hs | exact Or.inr hs | (exfalso; have hs2 : i = b26 := hs; omega))
 replace ho10 := Vot.keep ho10 hk29 (fun q hq hs => by have hs : q = b26 := hs; have g0 := own21 q hq; have g1 := lt20 q hq; omega)
 refine OI_end rfl ?_
 refine X_then ?_
 refine V_seq ?_
 refine V_region ?_
 refine OI_cell 95 (.tmp 8) 0 (pt q7) (some 17) (by kernel_rfl) (by kernel_rfl) hb26_31 (m := 1) (by kernel_rfl) rfl ?_
 refine OI_static 3 [(1, nt a), (2, nt t), (4, pt b1), (7, pt b3), (8, pt b26), (19, .pointer (some ⟨q7, 1, none⟩))] (by kernel_rfl) ?_
 refine OI_agg 54 (.tmp 19) 1 [nt (((s.rc a t)).got.v), nt (((s.rc a t)).got.c)] (some 20) (by kernel_rfl) (by kernel_rfl) hm23 (m := 2) (by kernel_rfl) rfl rfl ?_
 refine OI_alloc 54 (.agg #[nt 0, nt 0]) [nt 0, nt 0] (some 9) (by kernel_rfl) (by kernel_rfl) (by kernel_rfl) ?_
 intro b33 w33 e33 hb33 k33 z33
 have hsz34 := Keep.size k33
 replace hb1 := hb1.keep k33 (fun f => f)
 replace hb3 := hb3.keep k33 (fun f => f)
 replace hm23 := hm23.keep k33 (fun f => f)
 replace hb26_31 := hb26_31.keep k33 (fun f => f)
 replace htd : ∀ x L, Blk w x L 101 → Blk w33 x L 101 := fun x L hx => Blk.keep (htd x L hx) k33 (fun f => f)
 replace hK0 := Keep.tr hK0 (Keep.ofNone k33)
 replace ho10 := Vot.keep ho10 k33 (fun _ _ f => f)
 have hb33lt := hb33.lt
 refine OI_set (m := 2) (kd := true) 54 (.tmp 9) (.tmp 20) 0 (.agg #[nt (((s.rc a t)).got.v), nt (((s.rc a t)).got.c)]) [nt (((s.rc a t)).got.v), nt (((s.rc a t)).got.c)] none (by kernel_rfl) (by kernel_rfl) (by kernel_rfl) hb33 (by kernel_rfl) (by kernel_rfl) (by kernel_rfl) (Nat.le_of_ble_eq_true (by kernel_rfl)) (by simp [Value.oneCell']) ?_
 intro w35 hb33_38 hk36 hz37
 replace hb33_38 : Blk w35 b33 [nt (((s.rc a t)).got.v), nt (((s.rc a t)).got.c)] 54 := hb33_38
 have hsz39 := Keep.size hk36
 replace hb1 := hb1.keep hk36 (by show ¬ (_ = _); omega)
 replace hb3 := hb3.keep hk36 (by show ¬ (_ = _); omega)
 replace hm23 := hm23.keep hk36 (by show ¬ (_ = _); omega)
 replace hb26_31 := hb26_31.keep hk36 (by show ¬ (_ = _); omega)
 replace htd : ∀ x L, Blk w x L 101 → Blk w35 x L 101 := fun x L hx => Blk.keep (htd x L hx) hk36 (Blk.ne (htd x L hx) hb33 (by decide))
 replace hK0 := Keep.fresh hK0 hk36 (by intro i hi hs; first | exact hs | exact Or.inl hs | exact Or.inr hs | (exfalso; have hs2 : i = b33 := hs; omega))
 replace ho10 := Vot.keep ho10 hk36 (fun q hq hs => by have hs : q = b33 := hs; have g0 := own21 q hq; have g1 := lt20 q hq; omega)
 refine OI_end rfl ?_
 refine X_then ?_
 refine V_seq ?_
 refine V_region ?_
 refine OI_cell 95 (.tmp 8) 0 (pt q7) (some 21) (by kernel_rfl) (by kernel_rfl) hb26_31 (m := 1) (by kernel_rfl) rfl ?_
 refine OI_static 2 [(1, nt a), (2, nt t), (4, pt b1), (7, pt b3), (8, pt b26), (9, pt b33), (21, pt q7), (22, pt b33)] (by kernel_rfl) ?_
 refine OI_cell 3 (.tmp 22) 0 (nt (((s.rc a t)).got.v)) (some 23) (by kernel_rfl) (by kernel_rfl) hb33_38 (m := 1) (by kernel_rfl) rfl ?_
 refine OI_static 4 [(1, nt a), (2, nt t), (4, pt b1), (7, pt b3), (8, pt b26), (9, pt b33), (21, pt q7), (23, nt (((s.rc a t)).got.v)), (24, pt b3)] (by kernel_rfl) ?_
 refine OI_cell 3 (.tmp 24) 0 (nt wt.v) (some 25) (by kernel_rfl) (by kernel_rfl) hb3 (m := 1) (by kernel_rfl) rfl ?_
 refine OI_static 7 [(1, nt a), (2, nt t), (4, pt b1), (7, pt b3), (8, pt b26), (9, pt b33), (21, pt q7), (26, nt (IntKind.i64.wrap ((((s.rc a t)).got.v) + wt.v))), (27, .pointer (some ⟨b33, 1, none⟩))] (by kernel_rfl) ?_
 refine OI_cell 3 (.tmp 27) 1 (nt (((s.rc a t)).got.c)) (some 28) (by kernel_rfl) (by kernel_rfl) hb33_38 (m := 1) (by kernel_rfl) rfl ?_
 refine OI_static 9 [(1, nt a), (2, nt t), (4, pt b1), (8, pt b26), (9, pt b33), (21, pt q7), (26, nt (IntKind.i64.wrap ((((s.rc a t)).got.v) + wt.v))), (28, nt (((s.rc a t)).got.c)), (29, .pointer (some ⟨b3, 1, none⟩))] (by kernel_rfl) ?_
 refine OI_cell 3 (.tmp 29) 1 (nt wt.c) (some 30) (by kernel_rfl) (by kernel_rfl) hb3 (m := 1) (by kernel_rfl) rfl ?_
 refine OI_static 14 [(1, nt a), (2, nt t), (4, pt b1), (8, pt b26), (9, pt b33), (32, .agg #[nt (IntKind.i64.wrap ((((s.rc a t)).got.v) + wt.v)), nt (IntKind.i64.wrap ((((s.rc a t)).got.c) + wt.c))]), (34, .pointer (some ⟨q7, 1, none⟩))] (by kernel_rfl) ?_
 refine OI_set (m := 2) (kd := true) 54 (.tmp 34) (.tmp 32) 1 (.agg #[nt (IntKind.i64.wrap ((((s.rc a t)).got.v) + wt.v)), nt (IntKind.i64.wrap ((((s.rc a t)).got.c) + wt.c))]) [nt (IntKind.i64.wrap ((((s.rc a t)).got.v) + wt.v)), nt (IntKind.i64.wrap ((((s.rc a t)).got.c) + wt.c))] none (by kernel_rfl) (by kernel_rfl) (by kernel_rfl) hm23 (by kernel_rfl) (by kernel_rfl) (by kernel_rfl) (Nat.le_of_ble_eq_true (by kernel_rfl)) (by simp [Value.oneCell']) ?_
 intro w40 hn43 hk41 hz42
 replace hn43 : Blk w40 q7 [.pointer dp25, nt (IntKind.i64.wrap ((((s.rc a t)).got.v) + wt.v)), nt (IntKind.i64.wrap ((((s.rc a t)).got.c) + wt.c)), nt (((s.rc a t)).till), nt (((s.rc a t)).n)] 99 := hn43
 have hsz44 := Keep.size hk41
 replace hb1 := hb1.keep hk41 (by show ¬ (b1 = q7); omega)
 replace hb3 := hb3.keep hk41 (by show ¬ (b3 = q7); omega)
 replace hb26_31 := hb26_31.keep hk41 (by show ¬ (b26 = q7); omega)
 replace hb33_38 := hb33_38.keep hk41 (by show ¬ (b33 = q7); omega)
 replace htd : ∀ x L, Blk w x L 101 → Blk w40 x L 101 := fun x L hx => Blk.keep (htd x L hx) hk41 (Blk.ne (htd x L hx) hm23 (by decide))
 replace hK0 := Keep.fresh hK0 hk41 (fun i hi hs => by have hs : F9 i := (by rw [show i = q7 from hs]; exact hF24); rcases rel22 i hs with h | h; exact h; (exfalso; omega))
 have ho45 := Vot.setRec (a := a) (t := t) (r' := { (s.rc a t) with got := ⟨IntKind.i64.wrap ((((s.rc a t)).got.v) + wt.v), IntKind.i64.wrap ((((s.rc a t)).got.c) + wt.c)⟩ }) (dp := dp25) (dp' := dp25) ho10 hgc12 hm23 hk41 (show Blk _ _ (RecS.cells dp25 { (s.rc a t) with got := ⟨IntKind.i64.wrap ((((s.rc a t)).got.v) + wt.v), IntKind.i64.wrap ((((s.rc a t)).got.c) + wt.c)⟩ }) _ from hn43) (.inl ⟨rfl, by first | rfl | exact joinR_d _ _ _ _ | (rw [show s.rc a t = (s.rc a t) from rfl]) | (rw [show s.rc a t = (s.rc a t) from rfl]; exact joinR_d _ _ _ _)⟩)
 obtain ⟨r46, hr46⟩ : ∃ r9 : RecS, r9 = { (s.rc a t) with got := ⟨IntKind.i64.wrap ((((s.rc a t)).got.v) + wt.v), IntKind.i64.wrap ((((s.rc a t)).got.c) + wt.c)⟩ } := ⟨_, rfl⟩
 replace hn43 : Blk w40 q7 (RecS.cells dp25 r46) 99 := by rw [hr46]; exact hn43
 have hq7lt := hn43.lt
 refine OI_end rfl ?_
 refine X_then ?_
 refine V_seq ?_
 refine V_region ?_
 refine OI_cell 31 (.tmp 4) 0 (pt v) (some 35) (by kernel_rfl) (by kernel_rfl) hb1 (m := 1) (by kernel_rfl) rfl ?_
 refine OI_static 3 [(4, pt b1), (8, pt b26), (9, pt b33), (35, pt v), (36, nt a), (37, nt t)] (by kernel_rfl) ?_
 refine OI_call { callee := (Callee.value (Operand.func 60)), args := #[(Operand.tmp 35), (Operand.tmp 36), (Operand.tmp 37)], argTypes := #[31, 3, 3] } 60 #[pt v, nt a, nt t] (some 38) (by kernel_rfl) (by kernel_rfl) (by kernel_rfl) (votesfn_spec _ rfl a t _) ?_
 rintro _ w49 ⟨bv51, bw52, bt53, rfl, hbv51, hbw52, hbt53, hk50, hgebv51, hgebw52, hgebt53⟩
 refine ⟨_, rfl, ?_⟩
 have hsz54 := Keep.size hk50
 replace hb1 := hb1.keep hk50 (fun f => f)
 replace hb3 := hb3.keep hk50 (fun f => f)
 replace hb26_31 := hb26_31.keep hk50 (fun f => f)
 replace hb33_38 := hb33_38.keep hk50 (fun f => f)
 replace hn43 := hn43.keep hk50 (fun f => f)
 replace htd : ∀ x L, Blk w x L 101 → Blk w49 x L 101 := fun x L hx => Blk.keep (htd x L hx) hk50 (fun f => f)
 replace hK0 := Keep.tr hK0 (Keep.ofNone hk50)
 replace ho45 := Vot.keep ho45 hk50 (fun _ _ f => f)
 have hbv51lt := hbv51.lt
 have hbw52lt := hbw52.lt
 have hbt53lt := hbt53.lt
 refine OI_end rfl ?_
 refine X_then ?_
 refine V_block ?_
 obtain ⟨A55, cap55, hva55⟩ := Vot.arr ho45
 have hal55 := VotA.lenA hva55
 have hvl9 := vrow_len (s.setR a t { (s.rc a t) with got := ⟨IntKind.i64.wrap ((((s.rc a t)).got.v) + wt.v), IntKind.i64.wrap ((((s.rc a t)).got.c) + wt.c)⟩ }) a t
 refine V_pick [(4, pt b1), (8, pt b26), (9, pt b33), (38, .func (.func 94) #[] #[pt bv51, pt bw52, pt bt53])] rfl ?_
 have hN0 : w.heap.size ≤ w49.heap.size := Keep.size hK0
 refine V_range2 (gf := 94) (caps := #[pt bv51, pt bw52, pt bt53]) (m := (vrow (s.setR a t { (s.rc a t) with got := ⟨IntKind.i64.wrap ((((s.rc a t)).got.v) + wt.v), IntKind.i64.wrap ((((s.rc a t)).got.c) + wt.c)⟩ }) a t).length) (by kernel_rfl) (by kernel_rfl) (by kernel_rfl) (votes1_iter bv51 bw52 bt53 v P8.gv P8.gr cap55 P8.pp A55 (s.setR a t { (s.rc a t) with got := ⟨IntKind.i64.wrap ((((s.rc a t)).got.v) + wt.v), IntKind.i64.wrap ((((s.rc a t)).got.c) + wt.c)⟩ }) a t (by omega)) (⟨VotA.grat hva55, VotA.ok hva55 rfl (fun _ => rfl) hbv51 hbw52 hbt53⟩) (fun W W' h k => ⟨h.1.quiet k, h.2.quiet k⟩) (GV.enc2_size _) (fun M1 k W => (Blk W b1 [pt v] 31) ∧ (Blk W b3 (Wgt.cells wt) 54) ∧ (Blk W b26 [pt q7] 95) ∧ (Blk W b33 [nt (((s.rc a t)).got.v), nt (((s.rc a t)).got.c)] 54) ∧ (Blk W bv51 [pt v] 31) ∧ (Blk W bw52 [nt a] 3) ∧ (Blk W bt53 [nt t] 3) ∧ (∀ x L, Blk w x L 101 → Blk W x L 101) ∧ (Keep F w W) ∧ (VotA A55 cap55 F9 W v P8 (retally (s.rc a t).got (gotW (s.rc a t).got wt) (s.setR a t { (s.rc a t) with got := ⟨IntKind.i64.wrap ((((s.rc a t)).got.v) + wt.v), IntKind.i64.wrap ((((s.rc a t)).got.c) + wt.c)⟩ }) ((vrow (s.setR a t { (s.rc a t) with got := ⟨IntKind.i64.wrap ((((s.rc a t)).got.v) + wt.v), IntKind.i64.wrap ((((s.rc a t)).got.c) + wt.c)⟩ }) a t).take k)))) (fun M1 c k W => False) (fun M1 k W W' h hk => by obtain ⟨jb1, jb3, jb26, jb33, jbv51, jbw52, jbt53, jhtd, jhK0, jv9⟩ := h; exact ⟨jb1.quiet hk, jb3.quiet hk, jb26.quiet hk, jb33.quiet hk, jbv51.quiet hk, jbw52.quiet hk, jbt53.quiet hk, (fun x L hx => Blk.quiet (jhtd x L hx) hk), jhK0.quiet hk (by omega), (VotA.quiet jv9 hk)⟩) (fun _ _ _ _ _ h _ => h.elim) (fun M1 hM1 => ⟨hb1, hb3, hb26_31, hb33_38, hbv51, hbw52, hbt53, htd, hK0, hva55⟩) (fun M1 k W h => by obtain ⟨jb1, jb3, jb26, jb33, jbv51, jbw52, jbt53, jhtd, jhK0, jv9⟩ := h; exact (VotA.ok jv9 (retally_inv (s.rc a t).got (gotW (s.rc a t).got wt) ((vrow (s.setR a t { (s.rc a t) with got := ⟨IntKind.i64.wrap ((((s.rc a t)).got.v) + wt.v), IntKind.i64.wrap ((((s.rc a t)).got.c) + wt.c)⟩ }) a t).take k) (s.setR a t { (s.rc a t) with got := ⟨IntKind.i64.wrap ((((s.rc a t)).got.v) + wt.v), IntKind.i64.wrap ((((s.rc a t)).got.c) + wt.c)⟩ })).1 (retally_inv (s.rc a t).got (gotW (s.rc a t).got wt) ((vrow (s.setR a t { (s.rc a t) with got := ⟨IntKind.i64.wrap ((((s.rc a t)).got.v) + wt.v), IntKind.i64.wrap ((((s.rc a t)).got.c) + wt.c)⟩ }) a t).take k) (s.setR a t { (s.rc a t) with got := ⟨IntKind.i64.wrap ((((s.rc a t)).got.v) + wt.v), IntKind.i64.wrap ((((s.rc a t)).got.c) + wt.c)⟩ })).2.2 jbv51 jbw52 jbt53)) ?_ ?_ (fun _ _ _ _ _ _ _ _ h _ => h.elim)
 ·
  intro lp D M1 k W hD hl hM hMW hkm ⟨jb1, jb3, jb26, jb33, jbv51, jbw52, jbt53, jhtd, jhK0, jv9⟩ ⟨rr, hrr⟩ hDD
  have hzjhK0 := Keep.size jhK0
  have hb1lt := jb1.lt
  have hb3lt := jb3.lt
  have hb26lt := jb26.lt
  have hb33lt := jb33.lt
  have hbv51lt := jbv51.lt
  have hbw52lt := jbw52.lt
  have hbt53lt := jbt53.lt
  obtain ⟨x, hx⟩ : ∃ x, (vrow (s.setR a t { (s.rc a t) with got := ⟨IntKind.i64.wrap ((((s.rc a t)).got.v) + wt.v), IntKind.i64.wrap ((((s.rc a t)).got.c) + wt.c)⟩ }) a t)[k]? = some x := ⟨_, List.getElem?_eq_getElem (by omega)⟩
  rw [GV.enc2_at hx]
  obtain ⟨hri1, hri2, hri3⟩ := retally_inv (s.rc a t).got (gotW (s.rc a t).got wt) ((vrow (s.setR a t { (s.rc a t) with got := ⟨IntKind.i64.wrap ((((s.rc a t)).got.v) + wt.v), IntKind.i64.wrap ((((s.rc a t)).got.c) + wt.c)⟩ }) a t).take k) (s.setR a t { (s.rc a t) with got := ⟨IntKind.i64.wrap ((((s.rc a t)).got.v) + wt.v), IntKind.i64.wrap ((((s.rc a t)).got.c) + wt.c)⟩ })
  have hstp := retally_step (was := (s.rc a t).got) (now := (gotW (s.rc a t).got wt)) (s := (s.setR a t { (s.rc a t) with got := ⟨IntKind.i64.wrap ((((s.rc a t)).got.v) + wt.v), IntKind.i64.wrap ((((s.rc a t)).got.c) + wt.c)⟩ })) hx
  obtain ⟨dp58, hF57, hm56⟩ := Vot.recO (VotA.vot jv9) hgc12
  rw [show (retally (s.rc a t).got (gotW (s.rc a t).got wt) (s.setR a t { (s.rc a t) with got := ⟨IntKind.i64.wrap ((((s.rc a t)).got.v) + wt.v), IntKind.i64.wrap ((((s.rc a t)).got.c) + wt.c)⟩ }) ((vrow (s.setR a t { (s.rc a t) with got := ⟨IntKind.i64.wrap ((((s.rc a t)).got.v) + wt.v), IntKind.i64.wrap ((((s.rc a t)).got.c) + wt.c)⟩ }) a t).take k)).rc a t = r46 from (show (retally (s.rc a t).got (gotW (s.rc a t).got wt) (s.setR a t { (s.rc a t) with got := ⟨IntKind.i64.wrap ((((s.rc a t)).got.v) + wt.v), IntKind.i64.wrap ((((s.rc a t)).got.c) + wt.c)⟩ }) ((vrow (s.setR a t { (s.rc a t) with got := ⟨IntKind.i64.wrap ((((s.rc a t)).got.v) + wt.v), IntKind.i64.wrap ((((s.rc a t)).got.c) + wt.c)⟩ }) a t).take k)).rc a t = _ from by rw [hri2]; exact ((updR_self _ _ _ _).trans hr46.symm))] at hm56
  have hq7lt := hm56.lt
  have hloq7 := lt20 _ hF57
  have hoq7 := own21 _ hF57
  refine V_pick [(4, pt b1), (8, pt b26), (9, pt b33), (39, nt x.1), (40, .agg (Vt.cells x.2).toArray)] rfl ?_
  have hfen : Keep (fen w49.heap.size M1) W W := Keep.refl _ _
  have hzhfen := Keep.size hfen
  refine V_seq ?_
  refine V_region ?_
  refine OI_static 1 [(4, pt b1), (8, pt b26), (9, pt b33), (10, nt x.1), (40, .agg (Vt.cells x.2).toArray)] (by kernel_rfl) ?_
  refine OI_end rfl ?_
  refine X_then ?_
  refine V_region ?_
  refine OI_alloc 23 (.agg #[nt 0, .bool false, nt 0, nt 0, nt 0, nt 0]) [nt 0, .bool false, nt 0, nt 0, nt 0, nt 0] (some 11) (by kernel_rfl) (by kernel_rfl) (by kernel_rfl) ?_
  intro b59 w59 e59 hb59 k59 z59
  have hsz60 := Keep.size k59
  replace jb1 := jb1.keep k59 (fun f => f)
  replace jb3 := jb3.keep k59 (fun f => f)
  replace jb26 := jb26.keep k59 (fun f => f)
  replace jb33 := jb33.keep k59 (fun f => f)
  replace jbv51 := jbv51.keep k59 (fun f => f)
  replace jbw52 := jbw52.keep k59 (fun f => f)
  replace jbt53 := jbt53.keep k59 (fun f => f)
  replace hm56 := hm56.keep k59 (fun f => f)
  replace jhtd : ∀ x L, Blk w x L 101 → Blk w59 x L 101 := fun x L hx => Blk.keep (jhtd x L hx) k59 (fun f => f)
  replace jhK0 := Keep.tr jhK0 (Keep.ofNone k59)
  replace jv9 := VotA.keep jv9 k59 (fun _ _ f => f)
  replace hfen := Keep.tr hfen (Keep.ofNone k59)
  have hb59lt := hb59.lt
  refine OI_set (m := 6) (kd := true) 23 (.tmp 11) (.tmp 40) 0 (.agg (Vt.cells x.2).toArray) (Vt.cells x.2) none (by kernel_rfl) (by kernel_rfl) (by kernel_rfl) hb59 (by kernel_rfl) rfl (Vt.len _) (Nat.le_of_ble_eq_true (by kernel_rfl)) (Vt.one _) ?_
  intro w61 hb59_64 hk62 hz63
  replace hb59_64 : Blk w61 b59 (Vt.cells x.2) 23 := (by rwa [over_whole (by rw [Vt.len]; rfl)] at hb59_64)
  have hsz65 := Keep.size hk62
  replace jb1 := jb1.keep hk62 (by show ¬ (_ = _); omega)
  replace jb3 := jb3.keep hk62 (by show ¬ (_ = _); omega)
  replace jb26 := jb26.keep hk62 (by show ¬ (_ = _); omega)
  replace jb33 := jb33.keep hk62 (by show ¬ (_ = _); omega)
  replace jbv51 := jbv51.keep hk62 (by show ¬ (_ = _); omega)
  replace jbw52 := jbw52.keep hk62 (by show ¬ (_ = _); omega)
  replace jbt53 := jbt53.keep hk62 (by show ¬ (_ = _); omega)
  replace hm56 := hm56.keep hk62 (by show ¬ (_ = _); omega)
  replace jhtd : ∀ x L, Blk w x L 101 → Blk w61 x L 101 := fun x L hx => Blk.keep (jhtd x L hx) hk62 (Blk.ne (jhtd x L hx) hb59 (by decide))
  replace jhK0 := Keep.fresh jhK0 hk62 (by intro i hi hs; first | exact hs | exact Or.inl hs | exact Or.inr hs | (exfalso; have hs2 : i = b59 := hs; omega))
  replace jv9 := VotA.keep jv9 hk62 (fun q hq hs => by have hs : q = b59 := hs; have g0 := own21 q hq; have g1 := lt20 q hq; omega)
  replace hfen := Keep.fresh hfen hk62 (by intro i hi hs; have hs2 : i = b59 := hs; show _ ∨ _; omega)
  refine OI_end rfl ?_
  refine X_begin2 hfen ?_
  intro W2 hk2 ⟨r2, hr2⟩ hD2
  have hsz66 := Keep.size hk2
  replace jb1 := Blk.quiet jb1 hk2
  replace jb3 := Blk.quiet jb3 hk2
  replace jb26 := Blk.quiet jb26 hk2
  replace jb33 := Blk.quiet jb33 hk2
  replace jbv51 := Blk.quiet jbv51 hk2
  replace jbw52 := Blk.quiet jbw52 hk2
  replace jbt53 := Blk.quiet jbt53 hk2
  replace hm56 := Blk.quiet hm56 hk2
  replace hb59_64 := Blk.quiet hb59_64 hk2
  replace jhtd : ∀ x L, Blk w x L 101 → Blk W2 x L 101 := fun x L hx => Blk.quiet (jhtd x L hx) hk2
  replace jhK0 := Keep.quiet jhK0 hk2 (by omega)
  replace jv9 := VotA.quiet jv9 hk2
  have hzhk2 := Keep.size hk2
  have hfenb : Keep (fen w49.heap.size M1) W2 W2 := Keep.refl _ _
  have hzhfenb := Keep.size hfenb
  refine V_block ?_
  refine V_seq ?_
  refine V_region ?_
  refine OI_cell 31 (.tmp 4) 0 (pt v) (some 41) (by kernel_rfl) (by kernel_rfl) jb1 (m := 1) (by kernel_rfl) rfl ?_
  refine OI_static 2 [(8, pt b26), (9, pt b33), (11, pt b59), (41, pt v), (42, nt x.1)] (by kernel_rfl) ?_
  rcases Vot.pollcase (VotA.vot jv9) x.1 with ⟨hpn67, hpc67⟩ | ⟨i67, b67, q67, hpr67, hpi67, hpp67, hps67, hpa67⟩
  · exact absurd (VotA.pthere jv9 hri1 hx) (by rw [hpn67]; rintro ⟨_, h⟩; cases h)
  ·
   refine OI_call { callee := (Callee.value (Operand.func 46)), args := #[(Operand.tmp 41), (Operand.tmp 42)], argTypes := #[31, 3] } 46 #[pt v, nt x.1] (some 43) (by kernel_rfl) (by kernel_rfl) (by kernel_rfl) ((by rw [hpr67]; exact poll_some F9 v P8 (retally (s.rc a t).got (gotW (s.rc a t).got wt) (s.setR a t { (s.rc a t) with got := ⟨IntKind.i64.wrap ((((s.rc a t)).got.v) + wt.v), IntKind.i64.wrap ((((s.rc a t)).got.c) + wt.c)⟩ }) ((vrow (s.setR a t { (s.rc a t) with got := ⟨IntKind.i64.wrap ((((s.rc a t)).got.v) + wt.v), IntKind.i64.wrap ((((s.rc a t)).got.c) + wt.c)⟩ }) a t).take k)) i67 b67 _ (VotA.vot jv9) hpi67 hpp67)) ?_
   rintro _ w68 ⟨rfl, hk69⟩
   refine ⟨_, rfl, ?_⟩
   have hsz70 := Keep.size hk69
   replace jb1 := jb1.keep hk69 (fun f => f)
   replace jb3 := jb3.keep hk69 (fun f => f)
   replace jb26 := jb26.keep hk69 (fun f => f)
   replace jb33 := jb33.keep hk69 (fun f => f)
   replace jbv51 := jbv51.keep hk69 (fun f => f)
   replace jbw52 := jbw52.keep hk69 (fun f => f)
   replace jbt53 := jbt53.keep hk69 (fun f => f)
   replace hm56 := hm56.keep hk69 (fun f => f)
   replace hb59_64 := hb59_64.keep hk69 (fun f => f)
   replace jhtd : ∀ x L, Blk w x L 101 → Blk w68 x L 101 := fun x L hx => Blk.keep (jhtd x L hx) hk69 (fun f => f)
   replace jhK0 := Keep.tr jhK0 (Keep.ofNone hk69)
   replace jv9 := VotA.keep jv9 hk69 (fun _ _ f => f)
   replace hfenb := Keep.tr hfenb (Keep.ofNone hk69)
   obtain ⟨hm71, hF72⟩ := Vot.pollB (VotA.vot jv9) hpp67 hps67
   have hb67lt := hm71.lt
   have hlob67 := lt20 _ hF72
   have hob67 := own21 _ hF72
   have hneb67q7 : b67 ≠ q7 := Blk.ne hm71 hm56 (by decide)
   refine OI_static 4 [(8, pt b26), (9, pt b33), (11, pt b59), (12, pt b67)] (by kernel_rfl) ?_
   refine OI_end rfl ?_
   refine X_then ?_
   refine V_seq ?_
   refine V_region ?_
   refine OI_static 3 [(8, pt b26), (9, pt b33), (11, pt b59), (12, pt b67), (46, .pointer (some ⟨b67, 4, none⟩))] (by kernel_rfl) ?_
   refine OI_cell 3 (.tmp 46) 4 (nt ((q67).state)) (some 47) (by kernel_rfl) (by kernel_rfl) hm71 (m := 1) (by kernel_rfl) rfl ?_
   refine OI_static 5 [(8, pt b26), (9, pt b33), (11, pt b59), (12, pt b67), (48, .bool (decide ((q67).state = 0)))] (by kernel_rfl) ?_
   refine OI_end rfl ?_
   refine X_then ?_
   refine V_if ((q67).state = 0) (by kernel_rfl) (fun hc73 => ?_) (fun hc73 => ?_)
   ·
    refine V_draws (acts [7, 8, 14, 15, 16, 19]) none_ [[5, 6, 7, 1, 2, 3, 4, 8, 9, 10, 11, 12, 13, 14, 15, 16, 0, 17, 18, 19]] (by kernel_rfl) (by repeat first | exact (by first | exact sure_postM | exact sure_rQ2 | exact sure_no) | refine sure_then ?_ | refine sure_block ?_ | refine sure_join ?_) (by kernel_rfl) ?_
    intro w75 hk74 he76 L hL77
    have hsz78 := Keep.size hk74
    replace jb1 := jb1.keep hk74 (fun f => f)
    replace jb3 := jb3.keep hk74 (fun f => f)
    replace jb26 := jb26.keep hk74 (fun f => f)
    replace jb33 := jb33.keep hk74 (fun f => f)
    replace jbv51 := jbv51.keep hk74 (fun f => f)
    replace jbw52 := jbw52.keep hk74 (fun f => f)
    replace jbt53 := jbt53.keep hk74 (fun f => f)
    replace hm56 := hm56.keep hk74 (fun f => f)
    replace hb59_64 := hb59_64.keep hk74 (fun f => f)
    replace hm71 := hm71.keep hk74 (fun f => f)
    replace jhtd : ∀ x L, Blk w x L 101 → Blk w75 x L 101 := fun x L hx => Blk.keep (jhtd x L hx) hk74 (fun f => f)
    replace jhK0 := Keep.tr jhK0 (Keep.ofNone hk74)
    replace jv9 := VotA.keep jv9 hk74 (fun _ _ f => f)
    replace hfenb := Keep.tr hfenb (Keep.ofNone hk74)
    have qjb1 := jb1
    have qjb3 := jb3
    have qjb26 := jb26
    have qjb33 := jb33
    have qjbv51 := jbv51
    have qjbw52 := jbw52
    have qjbt53 := jbt53
    have qhm56 := hm56
    have qhb59_64 := hb59_64
    have qhm71 := hm71
    have K79 : Keep none_ w75 w75 := Keep.refl _ _
    obtain rfl := List.mem_singleton.1 hL77
    refine GI_agg 23 (.tmp 11) 0 (Vt.cells x.2) (some 54) (by kernel_rfl) (by kernel_rfl) (by kernel_rfl) qhb59_64 (fun f => f) (m := 6) (by kernel_rfl) (take_all (Vt.len _)) (Vt.len _) ?_
    refine GI_agg 54 (.tmp 9) 0 [nt (((s.rc a t)).got.v), nt (((s.rc a t)).got.c)] (some 55) (by kernel_rfl) (by kernel_rfl) (by kernel_rfl) qjb33 (fun f => f) (m := 2) (by kernel_rfl) rfl rfl ?_
    refine GI_call { callee := (Callee.value (Operand.func 57)), args := #[(Operand.tmp 54), (Operand.tmp 55)], argTypes := #[23, 54] } 57 #[.agg (Vt.cells x.2).toArray, .agg #[nt (((s.rc a t)).got.v), nt (((s.rc a t)).got.c)]] (some 56) (by kernel_rfl) (by kernel_rfl) (by kernel_rfl) (by kernel_rfl) (cvGain_spec x.2 (((s.rc a t)).got) _) ?_
    rintro _ w80 ⟨rfl, hk81⟩
    have K82 := K79.tr (Keep.ofNone hk81)
    refine ⟨_, rfl, K82, ?_⟩
    have hzK82 := Keep.size K82
    have hsz83 := Keep.size hk81
    replace jb1 := jb1.keep hk81 (fun f => f)
    replace jb3 := jb3.keep hk81 (fun f => f)
    replace jb26 := jb26.keep hk81 (fun f => f)
    replace jb33 := jb33.keep hk81 (fun f => f)
    replace jbv51 := jbv51.keep hk81 (fun f => f)
    replace jbw52 := jbw52.keep hk81 (fun f => f)
    replace jbt53 := jbt53.keep hk81 (fun f => f)
    replace hm56 := hm56.keep hk81 (fun f => f)
    replace hb59_64 := hb59_64.keep hk81 (fun f => f)
    replace hm71 := hm71.keep hk81 (fun f => f)
    replace jhtd : ∀ x L, Blk w x L 101 → Blk w80 x L 101 := fun x L hx => Blk.keep (jhtd x L hx) hk81 (fun f => f)
    replace jhK0 := Keep.tr jhK0 (Keep.ofNone hk81)
    replace jv9 := VotA.keep jv9 hk81 (fun _ _ f => f)
    replace hfenb := Keep.tr hfenb (Keep.ofNone hk81)
    refine GI_static [4, 8, 9, 10, 11, 12, 13, 14, 15, 16, 0, 17, 18, 19] [(8, pt b26), (11, pt b59), (12, pt b67), (52, .pointer (some ⟨b67, 1, none⟩)), (56, .agg (Tly.cells (gainT x.2 (((s.rc a t)).got))).toArray)] (by kernel_rfl) ?_
    refine GI_agg 43 (.tmp 52) 1 [nt ((q67).t.a), nt ((q67).t.n), nt ((q67).t.s)] (some 53) (by kernel_rfl) (by kernel_rfl) (by kernel_rfl) qhm71 (fun f => f) (m := 3) (by kernel_rfl) rfl rfl ?_
    refine GI_call { callee := (Callee.value (Operand.func 56)), args := #[(Operand.tmp 53), (Operand.tmp 56)], argTypes := #[43, 43] } 56 #[.agg #[nt ((q67).t.a), nt ((q67).t.n), nt ((q67).t.s)], .agg (Tly.cells (gainT x.2 (((s.rc a t)).got))).toArray] (some 57) (by kernel_rfl) (by kernel_rfl) (by kernel_rfl) (by kernel_rfl) (cvSub_spec ((q67).t) (gainT x.2 (((s.rc a t)).got)) _) ?_
    rintro _ w84 ⟨rfl, hk85⟩
    have K86 := K82.tr (Keep.ofNone hk85)
    refine ⟨_, rfl, K86, ?_⟩
    have hzK86 := Keep.size K86
    have hsz87 := Keep.size hk85
    replace jb1 := jb1.keep hk85 (fun f => f)
    replace jb3 := jb3.keep hk85 (fun f => f)
    replace jb26 := jb26.keep hk85 (fun f => f)
    replace jb33 := jb33.keep hk85 (fun f => f)
    replace jbv51 := jbv51.keep hk85 (fun f => f)
    replace jbw52 := jbw52.keep hk85 (fun f => f)
    replace jbt53 := jbt53.keep hk85 (fun f => f)
    replace hm56 := hm56.keep hk85 (fun f => f)
    replace hb59_64 := hb59_64.keep hk85 (fun f => f)
    replace hm71 := hm71.keep hk85 (fun f => f)
    replace jhtd : ∀ x L, Blk w x L 101 → Blk w84 x L 101 := fun x L hx => Blk.keep (jhtd x L hx) hk85 (fun f => f)
    replace jhK0 := Keep.tr jhK0 (Keep.ofNone hk85)
    replace jv9 := VotA.keep jv9 hk85 (fun _ _ f => f)
    replace hfenb := Keep.tr hfenb (Keep.ofNone hk85)
    refine GI_agg 23 (.tmp 11) 0 (Vt.cells x.2) (some 58) (by kernel_rfl) (by kernel_rfl) (by kernel_rfl) qhb59_64 (fun f => f) (m := 6) (by kernel_rfl) (take_all (Vt.len _)) (Vt.len _) ?_
    refine GI_cell 95 (.tmp 8) 0 (pt q7) (some 59) (by kernel_rfl) (by kernel_rfl) (by kernel_rfl) qjb26 (fun f => f) (m := 1) (by kernel_rfl) rfl ?_
    refine GI_static [13, 14, 15, 16, 0, 17, 18, 19] [(12, pt b67), (57, .agg (Tly.cells (subT ((q67).t) (gainT x.2 (((s.rc a t)).got)))).toArray), (58, .agg (Vt.cells x.2).toArray), (61, .pointer (some ⟨q7, 1, none⟩))] (by kernel_rfl) ?_
    refine GI_agg 54 (.tmp 61) 1 [nt ((r46).got.v), nt ((r46).got.c)] (some 62) (by kernel_rfl) (by kernel_rfl) (by kernel_rfl) qhm56 (fun f => f) (m := 2) (by kernel_rfl) rfl rfl ?_
    refine GI_call { callee := (Callee.value (Operand.func 57)), args := #[(Operand.tmp 58), (Operand.tmp 62)], argTypes := #[23, 54] } 57 #[.agg (Vt.cells x.2).toArray, .agg #[nt ((r46).got.v), nt ((r46).got.c)]] (some 63) (by kernel_rfl) (by kernel_rfl) (by kernel_rfl) (by kernel_rfl) (cvGain_spec x.2 ((r46).got) _) ?_
    rintro _ w88 ⟨rfl, hk89⟩
    have K90 := K86.tr (Keep.ofNone hk89)
    refine ⟨_, rfl, K90, ?_⟩
    have hzK90 := Keep.size K90
    have hsz91 := Keep.size hk89
    replace jb1 := jb1.keep hk89 (fun f => f)
    replace jb3 := jb3.keep hk89 (fun f => f)
    replace jb26 := jb26.keep hk89 (fun f => f)
    replace jb33 := jb33.keep hk89 (fun f => f)
    replace jbv51 := jbv51.keep hk89 (fun f => f)
    replace jbw52 := jbw52.keep hk89 (fun f => f)
    replace jbt53 := jbt53.keep hk89 (fun f => f)
    replace hm56 := hm56.keep hk89 (fun f => f)
    replace hb59_64 := hb59_64.keep hk89 (fun f => f)
    replace hm71 := hm71.keep hk89 (fun f => f)
    replace jhtd : ∀ x L, Blk w x L 101 → Blk w88 x L 101 := fun x L hx => Blk.keep (jhtd x L hx) hk89 (fun f => f)
    replace jhK0 := Keep.tr jhK0 (Keep.ofNone hk89)
    replace jv9 := VotA.keep jv9 hk89 (fun _ _ f => f)
    replace hfenb := Keep.tr hfenb (Keep.ofNone hk89)
    refine GI_slit (E := 43) (zv := .agg #[nt 0, nt 0, nt 0]) (sz := 3) (by_ := 24) 153 1 #[(0, (Operand.tmp 63))] [.agg (Tly.cells (gainT x.2 ((r46).got))).toArray] (Tly.cells (gainT x.2 ((r46).got))) (some 64) (by kernel_rfl) (by kernel_rfl) K90 (by kernel_rfl) (by kernel_rfl) (by omega) rfl (by omega) (by intro v hv; obtain rfl := List.mem_singleton.1 hv; show (Tly.cells (gainT x.2 ((r46).got))).toArray.size = 3; simp [Tly.len]) (by kernel_rfl) (by show (Tly.cells (gainT x.2 ((r46).got))).toArray.toList ++ [] = _; simp) ?_
    intro b92 w92 e92 hb92 k92 z92 K93
    have hsz94 := Keep.size k92
    replace jb1 := jb1.keep k92 (fun f => f)
    replace jb3 := jb3.keep k92 (fun f => f)
    replace jb26 := jb26.keep k92 (fun f => f)
    replace jb33 := jb33.keep k92 (fun f => f)
    replace jbv51 := jbv51.keep k92 (fun f => f)
    replace jbw52 := jbw52.keep k92 (fun f => f)
    replace jbt53 := jbt53.keep k92 (fun f => f)
    replace hm56 := hm56.keep k92 (fun f => f)
    replace hb59_64 := hb59_64.keep k92 (fun f => f)
    replace hm71 := hm71.keep k92 (fun f => f)
    replace jhtd : ∀ x L, Blk w x L 101 → Blk w92 x L 101 := fun x L hx => Blk.keep (jhtd x L hx) k92 (fun f => f)
    replace jhK0 := Keep.tr jhK0 (Keep.ofNone k92)
    replace jv9 := VotA.keep jv9 k92 (fun _ _ f => f)
    replace hfenb := Keep.tr hfenb (Keep.ofNone k92)
    have hb92lt := hb92.lt
    refine GI_call { callee := (Callee.value (Operand.func 58)), args := #[(Operand.tmp 57), (Operand.tmp 64)], argTypes := #[43, 153] } 58 #[.agg (Tly.cells (subT ((q67).t) (gainT x.2 (((s.rc a t)).got)))).toArray, .slice (some ⟨b92, 0, none⟩) 1 1] (some 65) (by kernel_rfl) (by kernel_rfl) (by kernel_rfl) (by kernel_rfl) (cvAdd1 b92 (subT ((q67).t) (gainT x.2 (((s.rc a t)).got))) (gainT x.2 ((r46).got)) _ _ hb92) ?_
    rintro _ w97 ⟨rfl, hk98⟩
    have K99 := K93.tr (Keep.ofNone hk98)
    refine ⟨_, rfl, K99, ?_⟩
    have hzK99 := Keep.size K99
    have hsz100 := Keep.size hk98
    replace jb1 := jb1.keep hk98 (fun f => f)
    replace jb3 := jb3.keep hk98 (fun f => f)
    replace jb26 := jb26.keep hk98 (fun f => f)
    replace jb33 := jb33.keep hk98 (fun f => f)
    replace jbv51 := jbv51.keep hk98 (fun f => f)
    replace jbw52 := jbw52.keep hk98 (fun f => f)
    replace jbt53 := jbt53.keep hk98 (fun f => f)
    replace hm56 := hm56.keep hk98 (fun f => f)
    replace hb59_64 := hb59_64.keep hk98 (fun f => f)
    replace hm71 := hm71.keep hk98 (fun f => f)
    replace hb92 := hb92.keep hk98 (fun f => f)
    replace jhtd : ∀ x L, Blk w x L 101 → Blk w97 x L 101 := fun x L hx => Blk.keep (jhtd x L hx) hk98 (fun f => f)
    replace jhK0 := Keep.tr jhK0 (Keep.ofNone hk98)
    replace jv9 := VotA.keep jv9 hk98 (fun _ _ f => f)
    replace hfenb := Keep.tr hfenb (Keep.ofNone hk98)
    refine GI_static [19] [(65, .agg (Tly.cells (addT (subT ((q67).t) (gainT x.2 (((s.rc a t)).got))) (gainT x.2 ((r46).got)))).toArray), (67, .pointer (some ⟨b67, 1, none⟩))] (by kernel_rfl) ?_
    refine GI_final 19 (by kernel_rfl) (by kernel_rfl) ?_
    refine OI_set (m := 3) (kd := true) 43 (.tmp 67) (.tmp 65) 1 (.agg (Tly.cells (addT (subT ((q67).t) (gainT x.2 (((s.rc a t)).got))) (gainT x.2 ((r46).got)))).toArray) (Tly.cells (addT (subT ((q67).t) (gainT x.2 (((s.rc a t)).got))) (gainT x.2 ((r46).got)))) none (by kernel_rfl) (by kernel_rfl) (by kernel_rfl) hm71 (by kernel_rfl) rfl (Tly.len _) (Nat.le_of_ble_eq_true (by kernel_rfl)) (Tly.one _) ?_
    intro w101 hn104 hk102 hz103
    replace hn104 : Blk w101 b67 (PollS.cells { q67 with t := (addT (subT ((q67).t) (gainT x.2 (((s.rc a t)).got))) (gainT x.2 ((r46).got))) }) 89 := hn104
    have hsz105 := Keep.size hk102
    replace jb1 := jb1.keep hk102 (by show ¬ (b1 = b67); omega)
    replace jb3 := jb3.keep hk102 (by show ¬ (b3 = b67); omega)
    replace jb26 := jb26.keep hk102 (by show ¬ (b26 = b67); omega)
    replace jb33 := jb33.keep hk102 (by show ¬ (b33 = b67); omega)
    replace jbv51 := jbv51.keep hk102 (by show ¬ (bv51 = b67); omega)
    replace jbw52 := jbw52.keep hk102 (by show ¬ (bw52 = b67); omega)
    replace jbt53 := jbt53.keep hk102 (by show ¬ (bt53 = b67); omega)
    replace hm56 := hm56.keep hk102 (by show ¬ (q7 = b67); omega)
    replace hb59_64 := hb59_64.keep hk102 (by show ¬ (b59 = b67); omega)
    replace hb92 := hb92.keep hk102 (by show ¬ (b92 = b67); omega)
    replace jhtd : ∀ x L, Blk w x L 101 → Blk w101 x L 101 := fun x L hx => Blk.keep (jhtd x L hx) hk102 (Blk.ne (jhtd x L hx) hm71 (by decide))
    replace jhK0 := Keep.fresh jhK0 hk102 (fun i hi hs => by have hs : F9 i := (by rw [show i = b67 from hs]; exact hF72); rcases rel22 i hs with h | h; exact h; (exfalso; omega))
    replace hfenb := Keep.fresh hfenb hk102 (by intro i hi hs; have hs2 : i = b67 := hs; show _ ∨ _; omega)
    obtain ⟨tv107, htv107⟩ : ∃ t9 : Tly, t9 = (addT (subT ((q67).t) (gainT x.2 (((s.rc a t)).got))) (gainT x.2 ((r46).got))) := ⟨_, rfl⟩
    rw [← htv107] at hn104
    have ho106 := VotA.setPoll jv9 hpp67 hps67 hk102 (show Blk _ _ (PollS.cells { q67 with t := tv107 }) _ from hn104)
    have hs108 : ((retally (s.rc a t).got (gotW (s.rc a t).got wt) (s.setR a t { (s.rc a t) with got := ⟨IntKind.i64.wrap ((((s.rc a t)).got.v) + wt.v), IntKind.i64.wrap ((((s.rc a t)).got.c) + wt.c)⟩ }) ((vrow (s.setR a t { (s.rc a t) with got := ⟨IntKind.i64.wrap ((((s.rc a t)).got.v) + wt.v), IntKind.i64.wrap ((((s.rc a t)).got.c) + wt.c)⟩ }) a t).take k)).setP i67 { q67 with t := tv107 }).ps[i67]? = some (some { q67 with t := tv107 }) := List.getElem?_set_self (List.getElem?_eq_some_iff.1 hps67).1
    have hb67lt := hn104.lt
    refine OI_end rfl ?_
    refine X_block ?_
    have hnow : r46.got = (gotW (s.rc a t).got wt) := by rw [hr46]; rfl
    rw [htv107, hnow] at ho106
    exact fun a _ => ⟨hfenb, jb1, jb3, jb26, jb33, jbv51, jbw52, jbt53, jhtd, jhK0, by rw [hstp]; unfold retally1; rw [hpr67, Int.toNat_natCast, hps67]; dsimp only; rw [if_pos hc73]; exact ho106⟩
   ·
    refine V_skip ?_
    refine X_block ?_
    exact fun a _ => ⟨hfenb, jb1, jb3, jb26, jb33, jbv51, jbw52, jbt53, jhtd, jhK0, by rw [hstp]; unfold retally1; rw [hpr67, Int.toNat_natCast, hps67]; dsimp only; rw [if_neg hc73]; exact jv9⟩
 ·
  intro D M1 W hD hM ⟨jb1, jb3, jb26, jb33, jbv51, jbw52, jbt53, jhtd, jhK0, jv9⟩ hDD
  have hzjhK0 := Keep.size jhK0
  have hb1lt := jb1.lt
  have hb3lt := jb3.lt
  have hb26lt := jb26.lt
  have hb33lt := jb33.lt
  have hbv51lt := jbv51.lt
  have hbw52lt := jbw52.lt
  have hbt53lt := jbt53.lt
  rw [List.take_length] at jv9
  refine X_block ?_
  have hfin : getsS s a t wt = (retally (s.rc a t).got (gotW (s.rc a t).got wt) (s.setR a t { (s.rc a t) with got := ⟨IntKind.i64.wrap ((((s.rc a t)).got.v) + wt.v), IntKind.i64.wrap ((((s.rc a t)).got.c) + wt.c)⟩ }) (vrow (s.setR a t { (s.rc a t) with got := ⟨IntKind.i64.wrap ((((s.rc a t)).got.v) + wt.v), IntKind.i64.wrap ((((s.rc a t)).got.c) + wt.c)⟩ }) a t)) := rfl
  exact leave1 (.tuple #[]) (.inr rfl) hDD (fun w' hk => ⟨res_tmps rfl, ⟨rfl, P8, hpp13, hgv14, hmn15, (fun x L hx => Blk.quiet (jhtd x L hx) hk), ⟨F9, by rw [hfin]; exact Vot.quiet (VotA.vot jv9) hk, rel22⟩, Keep.quiet jhK0 hk (by omega)⟩⟩)
end Go.Al

