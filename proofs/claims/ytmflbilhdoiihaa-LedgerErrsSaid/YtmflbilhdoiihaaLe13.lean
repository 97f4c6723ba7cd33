/-
  Walks of the laws of ledger: locks lie over one another.
-/
import Derived.Test.YtmflbilhdoiihaaLe12
namespace Go.Al
open Go Go.RowKit Go.Proofs
/-! ### Locks lie over one another -/
def pick3 (a b c : Int) (i : Nat) : Int := if i = 0 then a else if i = 1 then b else c
theorem pick3_at (a b c : Int) {i : Nat} (h : i < 3) : ([.int .i64 a, .int .i64 b, .int .i64 c] : List Value)[0 + i * 1]? = some (.int .i64 (pick3 a b c i)) := by
  match i, h with
  | 0, _ => rfl
  | 1, _ => rfl
  | 2, _ => rfl
def zed (g k : Nat) (x : Int) : Int := if g = k then 0 else x
theorem pick3_put (a b c : Int) {i : Nat} (h : i < 3) : over ([.int .i64 a, .int .i64 b, .int .i64 c] : List Value) (0 + i * 1) [.int .i64 0] = [.int .i64 (zed i 0 a), .int .i64 (zed i 1 b), .int .i64 (zed i 2 c)] := by
  match i, h with
  | 0, _ => rfl
  | 1, _ => rfl
  | 2, _ => rfl
theorem zed_bnd (g k : Nat) {x : Int} (h : 0 ≤ x) (h2 : x ≤ 1000) : 0 ≤ zed g k x ∧ zed g k x ≤ 1000 := by unfold zed; split <;> omega
def lkC (a b c : Int) : Nat → List Ci
  | 0 => []
  | i + 1 => lockC (lkC a b c i) 0 (7 * (i : Int) - 3) (pick3 a b c i)
theorem setC_len (a b v : Int) : ∀ cs : List Ci, (setC a b v cs).length ≤ cs.length + 1
  | [] => by simp [setC]
  | x :: l => by
    have := setC_len a b v l
    simp only [setC]
    split
    · simp
    · split
      · simp only [List.length_cons]; omega
      · simp
theorem delC_len (a b : Int) : ∀ cs : List Ci, (delC a b cs).length ≤ cs.length
  | [] => by simp [delC]
  | x :: l => by
    have := delC_len a b l
    simp only [delC]
    split <;> simp <;> omega
theorem lockC_len (cs : List Ci) (a i n : Int) : (lockC cs a i n).length ≤ cs.length + 1 := by
  unfold lockC
  split
  · split
    · have := delC_len a i cs; omega
    · exact setC_len _ _ _ _
  · omega
theorem lkC_len (a b c : Int) : ∀ i, (lkC a b c i).length ≤ i
  | 0 => by simp [lkC]
  | i + 1 => by
    have h := lkC_len a b c i
    have h2 := lockC_len (lkC a b c i) 0 (7 * (i : Int) - 3) (pick3 a b c i)
    show (lockC _ _ _ _).length ≤ _
    omega
theorem lkC_form (a b c : Int) (ha : 0 ≤ a) (ha2 : a ≤ 1000) (hb : 0 ≤ b) (hb2 : b ≤ 1000) (hc : 0 ≤ c) (hc2 : c ≤ 1000) : lkC a b c 3 = (if a = 0 then [] else [⟨0, -3, a⟩]) ++ (if b = 0 then [] else [⟨0, 4, b⟩]) ++ (if c = 0 then [] else [⟨0, 11, c⟩]) := by
  have h1 : isA 0 = true := rfl
  have e : ∀ x : Int, 0 ≤ x → x ≤ 1000 → ((x ≤ 0 ∨ x > 1073741824) ↔ x = 0) := fun x h1 h2 => by omega
  simp only [lkC, lockC, h1, if_true, pick3]
  simp only [e _ ha ha2, e _ hb hb2, e _ hc hc2, if_true, Nat.succ_ne_zero, if_false, show ((0 : Nat) : Int) = 0 from rfl, show ((1 : Nat) : Int) = 1 from rfl, show ((2 : Nat) : Int) = 2 from rfl]
  by_cases h1 : a = 0 <;> by_cases h2 : b = 0 <;> by_cases h3 : c = 0 <;> simp [h1, h2, h3, setC, delC, ltC] <;> omega
theorem lk_max (a b c : Int) (ha : 0 ≤ a) (ha2 : a ≤ 1000) (hb : 0 ≤ b) (hb2 : b ≤ 1000) (hc : 0 ≤ c) (hc2 : c ≤ 1000) : lockedL (lkC a b c 3) 0 = imax (imax a b) c := by
  rw [lkC_form a b c ha ha2 hb hb2 hc hc2]
  unfold lockedL rowL imax
  by_cases h1 : a = 0 <;> by_cases h2 : b = 0 <;> by_cases h3 : c = 0 <;> simp [h1, h2, h3, lockM] <;> (repeat' split) <;> omega
theorem lk_gone (a b c : Int) {g : Nat} (hg : g < 3) (ha : 0 ≤ a) (ha2 : a ≤ 1000) (hb : 0 ≤ b) (hb2 : b ≤ 1000) (hc : 0 ≤ c) (hc2 : c ≤ 1000) : lockC (lkC a b c 3) 0 (7 * (g : Int) - 3) 0 = lkC (zed g 0 a) (zed g 1 b) (zed g 2 c) 3 := by
  have h1 : isA 0 = true := rfl
  have za := zed_bnd g 0 ha ha2
  have zb := zed_bnd g 1 hb hb2
  have zc := zed_bnd g 2 hc hc2
  rw [lkC_form a b c ha ha2 hb hb2 hc hc2, lkC_form _ _ _ za.1 za.2 zb.1 zb.2 zc.1 zc.2]
  unfold lockC
  rw [if_pos h1, if_pos (.inl (Int.le_refl _))]
  match g, hg with
  | 0, _ => by_cases h1 : a = 0 <;> by_cases h2 : b = 0 <;> by_cases h3 : c = 0 <;> simp [h1, h2, h3, zed, delC]
  | 1, _ => by_cases h1 : a = 0 <;> by_cases h2 : b = 0 <;> by_cases h3 : c = 0 <;> simp [h1, h2, h3, zed, delC]
  | 2, _ => by_cases h1 : a = 0 <;> by_cases h2 : b = 0 <;> by_cases h3 : c = 0 <;> simp [h1, h2, h3, zed, delC]
theorem new_1000 : newX [1000] 10 = two (Acc.mk 1000 0) (Acc.mk 0 0) := rfl
theorem ok_1000 : okP [1000] := one_ok (by decide) (by decide)
theorem lk_tr {C : List Ci} {m : Int} (h1 : 0 ≤ m) (h2 : m ≤ 1000) (hl : lockedL C 0 = m) : transE (two (Acc.mk 1000 0) (Acc.mk 0 0)) C 0 1 (1000 - m) = 0 ∧ transX (two (Acc.mk 1000 0) (Acc.mk 0 0)) C 0 1 (1000 - m) = two (Acc.mk m 0) (Acc.mk (1000 - m) 0) ∧ (m ≠ 0 → transE (two (Acc.mk m 0) (Acc.mk (1000 - m) 0)) C 0 1 1 = 7) := by
  have hs : spendsE (two (Acc.mk 1000 0) (Acc.mk 0 0)) C 0 (1000 - m) = 0 := by
    unfold spendsE
    rw [if_neg (by rw [isA0]; rintro (h | h); cases h; exact h ⟨by omega, by omega⟩), if_neg (by rw [acct_two0]; simp only []; omega), if_neg (by rw [acct_two0, hl]; simp only []; omega)]
  refine ⟨?_, ?_, fun h0 => ?_⟩
  · unfold transE; rw [if_neg (by rw [isA1]; decide), hs]; rfl
  · unfold transX; rw [if_pos ⟨isA1, hs⟩]; unfold addF subF; rw [acct_two0, set_two0, acct_two1, set_two1]; simp only [Int.sub_sub_self, Int.zero_add]
  · have hs2 : spendsE (two (Acc.mk m 0) (Acc.mk (1000 - m) 0)) C 0 1 = 7 := by
      unfold spendsE
      rw [if_neg (by rw [isA0]; rintro (h | h); cases h; omega), if_neg (by rw [acct_two0]; simp only []; omega), if_pos (by rw [acct_two0, hl]; simp only []; omega)]
    unfold transE; rw [if_neg (by rw [isA1]; decide), hs2]; rfl
theorem imax3 {a b c : Int} (ha : 0 ≤ a) (ha2 : a ≤ 1000) (hb : 0 ≤ b) (hb2 : b ≤ 1000) (hc : 0 ≤ c) (hc2 : c ≤ 1000) : 0 ≤ imax (imax a b) c ∧ imax (imax a b) c ≤ 1000 := by unfold imax; repeat' split <;> omega

set_option maxHeartbeats 1000000 in
theorem walk_LedgerLocks (a b c : Int) (gone : Nat) (w : World) : Calls Try.prog 3 #[.int .i64 a, .int .i64 b, .int .i64 c, .int .i64 (gone : Int)] w fun e w' => e = .returned (.bool true) ∧ Keep none_ w w' := by
  have hK0 : Keep none_ w w := Keep.refl _ _
  have hzhK0 := Keep.size hK0
  refine enterV Try.func3 rfl [.int .i64 a, .int .i64 b, .int .i64 c, .int .i64 ((gone : Nat) : Int)] 122 rfl rfl rfl ?_
  refine V_pick [(0, .int .i64 a), (1, .int .i64 b), (2, .int .i64 c), (3, .int .i64 ((gone : Nat) : Int))] rfl ?_
  refine V_seq ?_
  refine V_region ?_
  refine OI_static 1 [(0, .int .i64 a), (1, .int .i64 b), (2, .int .i64 c), (3, .int .i64 ((gone : Nat) : Int))] (by kernel_rfl) ?_
  refine OI_end rfl ?_
  refine X_then ?_
  refine V_seq ?_
  refine V_seq ?_
  refine V_region ?_
  refine OI_static 3 [(0, .int .i64 a), (1, .int .i64 b), (2, .int .i64 c), (3, .int .i64 ((gone : Nat) : Int)), (17, .bool (decide (a < 0)))] (by kernel_rfl) ?_
  by_cases hg1 : a < 0
  · skip
    refine OI_eq [(0, .int .i64 a), (1, .int .i64 b), (2, .int .i64 c), (3, .int .i64 ((gone : Nat) : Int)), (17, .bool true)] (by first | simp [hg1] | rfl) ?_
    refine OI_static 30 [(0, .int .i64 a), (1, .int .i64 b), (2, .int .i64 c), (3, .int .i64 ((gone : Nat) : Int)), (44, .bool true)] (by kernel_rfl) ?_
    refine OI_end rfl ?_
    refine X_then ?_
    refine V_true rfl ?_
    refine V_seq ?_
    refine V_region ?_
    refine OI_static 1 [(8, .bool true)] (by kernel_rfl) ?_
    refine OI_end rfl ?_
    refine X_then ?_
    refine V_ret ?_
    refine X_ret_then ?_
    exact X_return (.bool true) rfl ⟨rfl, hK0⟩
  · skip
    refine OI_eq [(0, .int .i64 a), (1, .int .i64 b), (2, .int .i64 c), (3, .int .i64 ((gone : Nat) : Int)), (17, .bool false)] (by first | simp [hg1] | rfl) ?_
    refine OI_static 7 [(0, .int .i64 a), (1, .int .i64 b), (2, .int .i64 c), (3, .int .i64 ((gone : Nat) : Int)), (21, .bool (decide (a > 1000)))] (by kernel_rfl) ?_
    by_cases hg2 : a > 1000
    · skip
      refine OI_eq [(0, .int .i64 a), (1, .int .i64 b), (2, .int .i64 c), (3, .int .i64 ((gone : Nat) : Int)), (21, .bool true)] (by first | simp [hg2] | rfl) ?_
      refine OI_static 30 [(0, .int .i64 a), (1, .int .i64 b), (2, .int .i64 c), (3, .int .i64 ((gone : Nat) : Int)), (44, .bool true)] (by kernel_rfl) ?_
      refine OI_end rfl ?_
      refine X_then ?_
      refine V_true rfl ?_
      refine V_seq ?_
      refine V_region ?_
      refine OI_static 1 [(8, .bool true)] (by kernel_rfl) ?_
      refine OI_end rfl ?_
      refine X_then ?_
      refine V_ret ?_
      refine X_ret_then ?_
      exact X_return (.bool true) rfl ⟨rfl, hK0⟩
    · skip
      refine OI_eq [(0, .int .i64 a), (1, .int .i64 b), (2, .int .i64 c), (3, .int .i64 ((gone : Nat) : Int)), (21, .bool false)] (by first | simp [hg2] | rfl) ?_
      refine OI_static 11 [(0, .int .i64 a), (1, .int .i64 b), (2, .int .i64 c), (3, .int .i64 ((gone : Nat) : Int)), (25, .bool (decide (b < 0)))] (by kernel_rfl) ?_
      by_cases hg3 : b < 0
      · skip
        refine OI_eq [(0, .int .i64 a), (1, .int .i64 b), (2, .int .i64 c), (3, .int .i64 ((gone : Nat) : Int)), (25, .bool true)] (by first | simp [hg3] | rfl) ?_
        refine OI_static 30 [(0, .int .i64 a), (1, .int .i64 b), (2, .int .i64 c), (3, .int .i64 ((gone : Nat) : Int)), (44, .bool true)] (by kernel_rfl) ?_
        refine OI_end rfl ?_
        refine X_then ?_
        refine V_true rfl ?_
        refine V_seq ?_
        refine V_region ?_
        refine OI_static 1 [(8, .bool true)] (by kernel_rfl) ?_
        refine OI_end rfl ?_
        refine X_then ?_
        refine V_ret ?_
        refine X_ret_then ?_
        exact X_return (.bool true) rfl ⟨rfl, hK0⟩
      · skip
        refine OI_eq [(0, .int .i64 a), (1, .int .i64 b), (2, .int .i64 c), (3, .int .i64 ((gone : Nat) : Int)), (25, .bool false)] (by first | simp [hg3] | rfl) ?_
        refine OI_static 15 [(0, .int .i64 a), (1, .int .i64 b), (2, .int .i64 c), (3, .int .i64 ((gone : Nat) : Int)), (29, .bool (decide (b > 1000)))] (by kernel_rfl) ?_
        by_cases hg4 : b > 1000
        · skip
          refine OI_eq [(0, .int .i64 a), (1, .int .i64 b), (2, .int .i64 c), (3, .int .i64 ((gone : Nat) : Int)), (29, .bool true)] (by first | simp [hg4] | rfl) ?_
          refine OI_static 30 [(0, .int .i64 a), (1, .int .i64 b), (2, .int .i64 c), (3, .int .i64 ((gone : Nat) : Int)), (44, .bool true)] (by kernel_rfl) ?_
          refine OI_end rfl ?_
          refine X_then ?_
          refine V_true rfl ?_
          refine V_seq ?_
          refine V_region ?_
          refine OI_static 1 [(8, .bool true)] (by kernel_rfl) ?_
          refine OI_end rfl ?_
          refine X_then ?_
          refine V_ret ?_
          refine X_ret_then ?_
          exact X_return (.bool true) rfl ⟨rfl, hK0⟩
        · skip
          refine OI_eq [(0, .int .i64 a), (1, .int .i64 b), (2, .int .i64 c), (3, .int .i64 ((gone : Nat) : Int)), (29, .bool false)] (by first | simp [hg4] | rfl) ?_
          refine OI_static 19 [(0, .int .i64 a), (1, .int .i64 b), (2, .int .i64 c), (3, .int .i64 ((gone : Nat) : Int)), (33, .bool (decide (c < 0)))] (by kernel_rfl) ?_
          by_cases hg5 : c < 0
          · skip
            refine OI_eq [(0, .int .i64 a), (1, .int .i64 b), (2, .int .i64 c), (3, .int .i64 ((gone : Nat) : Int)), (33, .bool true)] (by first | simp [hg5] | rfl) ?_
            refine OI_static 30 [(0, .int .i64 a), (1, .int .i64 b), (2, .int .i64 c), (3, .int .i64 ((gone : Nat) : Int)), (44, .bool true)] (by kernel_rfl) ?_
            refine OI_end rfl ?_
            refine X_then ?_
            refine V_true rfl ?_
            refine V_seq ?_
            refine V_region ?_
            refine OI_static 1 [(8, .bool true)] (by kernel_rfl) ?_
            refine OI_end rfl ?_
            refine X_then ?_
            refine V_ret ?_
            refine X_ret_then ?_
            exact X_return (.bool true) rfl ⟨rfl, hK0⟩
          · skip
            refine OI_eq [(0, .int .i64 a), (1, .int .i64 b), (2, .int .i64 c), (3, .int .i64 ((gone : Nat) : Int)), (33, .bool false)] (by first | simp [hg5] | rfl) ?_
            refine OI_static 23 [(0, .int .i64 a), (1, .int .i64 b), (2, .int .i64 c), (3, .int .i64 ((gone : Nat) : Int)), (37, .bool (decide (c > 1000)))] (by kernel_rfl) ?_
            by_cases hg6 : c > 1000
            · skip
              refine OI_eq [(0, .int .i64 a), (1, .int .i64 b), (2, .int .i64 c), (3, .int .i64 ((gone : Nat) : Int)), (37, .bool true)] (by first | simp [hg6] | rfl) ?_
              refine OI_static 30 [(0, .int .i64 a), (1, .int .i64 b), (2, .int .i64 c), (3, .int .i64 ((gone : Nat) : Int)), (44, .bool true)] (by kernel_rfl) ?_
              refine OI_end rfl ?_
              refine X_then ?_
              refine V_true rfl ?_
              refine V_seq ?_
              refine V_region ?_
              refine OI_static 1 [(8, .bool true)] (by kernel_rfl) ?_
              refine OI_end rfl ?_
              refine X_then ?_
              refine V_ret ?_
              refine X_ret_then ?_
              exact X_return (.bool true) rfl ⟨rfl, hK0⟩
            · skip
              refine OI_eq [(0, .int .i64 a), (1, .int .i64 b), (2, .int .i64 c), (3, .int .i64 ((gone : Nat) : Int)), (37, .bool false)] (by first | simp [hg6] | rfl) ?_
              refine OI_static 27 [(0, .int .i64 a), (1, .int .i64 b), (2, .int .i64 c), (3, .int .i64 ((gone : Nat) : Int)), (41, .bool (decide (((gone : Nat) : Int) < 0)))] (by kernel_rfl) ?_
              by_cases hg7 : ((gone : Nat) : Int) < 0
              · skip
                refine OI_eq [(0, .int .i64 a), (1, .int .i64 b), (2, .int .i64 c), (3, .int .i64 ((gone : Nat) : Int)), (41, .bool true)] (by first | simp [hg7] | rfl) ?_
                refine OI_static 30 [(0, .int .i64 a), (1, .int .i64 b), (2, .int .i64 c), (3, .int .i64 ((gone : Nat) : Int)), (44, .bool true)] (by kernel_rfl) ?_
                refine OI_end rfl ?_
                refine X_then ?_
                refine V_true rfl ?_
                refine V_seq ?_
                refine V_region ?_
                refine OI_static 1 [(8, .bool true)] (by kernel_rfl) ?_
                refine OI_end rfl ?_
                refine X_then ?_
                refine V_ret ?_
                refine X_ret_then ?_
                exact X_return (.bool true) rfl ⟨rfl, hK0⟩
              · skip
                refine OI_eq [(0, .int .i64 a), (1, .int .i64 b), (2, .int .i64 c), (3, .int .i64 ((gone : Nat) : Int)), (41, .bool false)] (by first | simp [hg7] | rfl) ?_
                refine OI_static 30 [(0, .int .i64 a), (1, .int .i64 b), (2, .int .i64 c), (3, .int .i64 ((gone : Nat) : Int)), (44, .bool (decide (((gone : Nat) : Int) > 2)))] (by kernel_rfl) ?_
                refine OI_end rfl ?_
                refine X_then ?_
                refine V_if (((gone : Nat) : Int) > 2) (by kernel_rfl) (fun hc8 => ?_) (fun hc8 => ?_)
                · skip
                  refine V_seq ?_
                  refine V_region ?_
                  refine OI_static 1 [(8, .bool true)] (by kernel_rfl) ?_
                  refine OI_end rfl ?_
                  refine X_then ?_
                  refine V_ret ?_
                  refine X_ret_then ?_
                  exact X_return (.bool true) rfl ⟨rfl, hK0⟩
                · skip
                  refine V_skip ?_
                  refine X_then ?_
                  refine V_seq ?_
                  refine V_region ?_
                  refine OI_slit (E := 3) (zv := .int .i64 0) (sz := 1) (by_ := 8) 26 1 #[(0, (Operand.const (Value.int IntKind.i64 1000)))] [.int .i64 1000] [.int .i64 1000] (some 46) (by kernel_rfl) (by kernel_rfl) (by kernel_rfl) (by omega) rfl (by omega) (by intro v hv; simp only [List.mem_cons, List.not_mem_nil, or_false] at hv; rcases hv with rfl <;> rfl) (by kernel_rfl) rfl ?_
                  intro b9 w9 e9 hb9 k9 z9
                  have hsz10 := Keep.size k9
                  replace hK0 := Keep.tr hK0 (Keep.ofNone k9); have hzhK0 := Keep.size hK0
                  have hb9lt := hb9.lt
                  refine OI_call { callee := (Callee.value (Operand.func 14)), args := #[(Operand.tmp 46)], argTypes := #[26] } 14 #[.slice (some ⟨b9, 0, none⟩) 1 1] (some 47) (by kernel_rfl) (by kernel_rfl) (by kernel_rfl) (new_ok (some ⟨b9, 0, none⟩) 1 [1000] _ (slt_blk (xs := [1000]) (f := intc) hb9 (fun _ => rfl) rfl).arg (by simp) ok_1000) ?_
                  rintro _ w11 ⟨l13, F14, rfl, ho15, hk12, hge16⟩
                  refine ⟨_, rfl, ?_⟩
                  have hsz17 := Keep.size hk12
                  replace hb9 := hb9.keep hk12 (fun f => f)
                  have hb9lt := hb9.lt
                  replace hK0 := Keep.tr hK0 (Keep.ofNone hk12); have hzhK0 := Keep.size hK0
                  have own18 : ∀ q, F14 q → w9.heap.size ≤ q ∧ q ≠ b9 := fun q hq => by have h1 := hge16 q hq; omega
                  have lt19 := Led.lt ho15
                  have hl13lt : l13 < w11.heap.size := Led.lt ho15 _ (Led.at_ ho15)
                  have hl13ge := hge16 _ (Led.at_ ho15)
                  rw [new_1000] at ho15
                  refine OI_static 7 [(0, .int .i64 a), (1, .int .i64 b), (2, .int .i64 c), (3, .int .i64 ((gone : Nat) : Int)), (9, .pointer (some ⟨l13, 0, none⟩)), (10, .int .i64 0)] (by kernel_rfl) ?_
                  refine OI_end rfl ?_
                  refine X_then ?_
                  refine V_seq ?_
                  refine V_seq ?_
                  refine V_region ?_
                  refine OI_static 6 [(0, .int .i64 a), (1, .int .i64 b), (2, .int .i64 c), (3, .int .i64 ((gone : Nat) : Int)), (9, .pointer (some ⟨l13, 0, none⟩)), (55, .bool false)] (by kernel_rfl) ?_
                  refine OI_end rfl ?_
                  refine X_then ?_
                  refine V_false rfl ?_
                  refine V_skip ?_
                  refine X_then ?_
                  refine V_seq ?_
                  refine V_region ?_
                  refine OI_static 3 [(0, .int .i64 a), (1, .int .i64 b), (2, .int .i64 c), (3, .int .i64 ((gone : Nat) : Int)), (9, .pointer (some ⟨l13, 0, none⟩)), (56, .int .i64 a), (57, .int .i64 b), (58, .int .i64 c)] (by kernel_rfl) ?_
                  refine OI_slit (E := 3) (zv := .int .i64 0) (sz := 1) (by_ := 8) 26 3 #[(0, (Operand.tmp 56)), (1, (Operand.tmp 57)), (2, (Operand.tmp 58))] [.int .i64 a, .int .i64 b, .int .i64 c] [.int .i64 a, .int .i64 b, .int .i64 c] (some 59) (by kernel_rfl) (by kernel_rfl) (by kernel_rfl) (by omega) rfl (by omega) (by intro v hv; simp only [List.mem_cons, List.not_mem_nil, or_false] at hv; rcases hv with rfl | rfl | rfl <;> rfl) (by kernel_rfl) rfl ?_
                  intro b20 w20 e20 hb20 k20 z20
                  have hsz21 := Keep.size k20
                  replace hb9 := hb9.keep k20 (fun f => f)
                  have hb9lt := hb9.lt
                  replace hK0 := Keep.tr hK0 (Keep.ofNone k20); have hzhK0 := Keep.size hK0
                  replace ho15 := Led.keep ho15 k20 (fun _ _ f => f)
                  have hb20lt := hb20.lt
                  refine OI_static 5 [(0, .int .i64 a), (1, .int .i64 b), (2, .int .i64 c), (3, .int .i64 ((gone : Nat) : Int)), (9, .pointer (some ⟨l13, 0, none⟩)), (11, .slice (some ⟨b20, 0, none⟩) 3 3)] (by kernel_rfl) ?_
                  refine OI_end rfl ?_
                  refine X_then ?_
                  refine V_seq ?_
                  refine V_seq ?_
                  refine V_region ?_
                  refine OI_static 1 [(0, .int .i64 a), (1, .int .i64 b), (2, .int .i64 c), (3, .int .i64 ((gone : Nat) : Int)), (9, .pointer (some ⟨l13, 0, none⟩)), (11, .slice (some ⟨b20, 0, none⟩) 3 3), (12, .int .i64 0)] (by kernel_rfl) ?_
                  refine OI_end rfl ?_
                  refine X_then ?_
                  refine V_block ?_
                  refine V_pick [(0, .int .i64 a), (1, .int .i64 b), (2, .int .i64 c), (3, .int .i64 ((gone : Nat) : Int)), (9, .pointer (some ⟨l13, 0, none⟩)), (11, .slice (some ⟨b20, 0, none⟩) 3 3), (12, .int .i64 0)] rfl ?_
                  refine V_loop (fun k wI e => ∃ i : Nat, ∃ F22 : Nat → Prop, (k + i = 3) ∧ (Led F22 wI l13 (two (Acc.mk 1000 0) (Acc.mk 0 0)) (lkC a b c i)) ∧ (∀ q, F22 q → w9.heap.size ≤ q ∧ q ≠ b9 ∧ q ≠ b20) ∧ (∀ q, F22 q → F14 q ∨ w20.heap.size ≤ q) ∧ Keep F14 w20 wI ∧ e = [(0, .int .i64 a), (1, .int .i64 b), (2, .int .i64 c), (3, .int .i64 ((gone : Nat) : Int)), (9, .pointer (some ⟨l13, 0, none⟩)), (11, .slice (some ⟨b20, 0, none⟩) 3 3), (12, .int .i64 ((i : Nat) : Int))]) 3 ⟨0, F14, by omega, ho15, (fun q hq => by have h1 := own18 q hq; have h2 := lt19 q hq; omega), fun q h => .inl h, Keep.refl _ _, rfl⟩ ?_
                  rintro k27 w26 _ ⟨i, F22, hki, ho23, own24, rel25, hk28, rfl⟩
                  have hsz29 := Keep.size hk28
                  replace hb9 := hb9.keep hk28 (fun hs => by have h1 := own18 _ hs; have h2 := lt19 _ hs; omega)
                  have hb9lt := hb9.lt
                  replace hb20 := hb20.keep hk28 (fun hs => by have h1 := own18 _ hs; have h2 := lt19 _ hs; omega)
                  have hb20lt := hb20.lt
                  replace hK0 := Keep.fresh hK0 hk28 (by intro i hi hs; have h1 := own18 i hs; have h2 := lt19 i hs; omega); have hzhK0 := Keep.size hK0
                  have hzhk28 := Keep.size hk28
                  have lt30 := Led.lt ho23
                  have hl13lt : l13 < w26.heap.size := Led.lt ho23 _ (Led.at_ ho23)
                  have hll := lkC_len a b c i
                  refine V_seq ?_
                  refine V_seq ?_
                  refine V_region ?_
                  refine OI_static 2 [(0, .int .i64 a), (1, .int .i64 b), (2, .int .i64 c), (3, .int .i64 ((gone : Nat) : Int)), (9, .pointer (some ⟨l13, 0, none⟩)), (11, .slice (some ⟨b20, 0, none⟩) 3 3), (12, .int .i64 ((i : Nat) : Int)), (61, .bool (decide (((i : Nat) : Int) < 3)))] (by kernel_rfl) ?_
                  refine OI_end rfl ?_
                  refine X_then ?_
                  refine V_if (((i : Nat) : Int) < 3) (by kernel_rfl) (fun hc31 => ?_) (fun hc31 => ?_)
                  · skip
                    refine V_skip ?_
                    refine X_then ?_
                    refine V_seq ?_
                    refine V_block ?_
                    refine V_region ?_
                    have hw32 : IntKind.i64.wrap (7 * ((i : Nat) : Int)) = 7 * ((i : Nat) : Int) := (wrap64_id (by omega) (by omega)).trans (by omega)
                    refine OI_static 3 [(0, .int .i64 a), (1, .int .i64 b), (2, .int .i64 c), (3, .int .i64 ((gone : Nat) : Int)), (9, .pointer (some ⟨l13, 0, none⟩)), (11, .slice (some ⟨b20, 0, none⟩) 3 3), (12, .int .i64 ((i : Nat) : Int)), (64, .pointer (some ⟨l13, 0, none⟩)), (66, .int .i64 (IntKind.i64.wrap (7 * ((i : Nat) : Int))))] (by kernel_rfl) ?_
                    refine OI_eq [(0, .int .i64 a), (1, .int .i64 b), (2, .int .i64 c), (3, .int .i64 ((gone : Nat) : Int)), (9, .pointer (some ⟨l13, 0, none⟩)), (11, .slice (some ⟨b20, 0, none⟩) 3 3), (12, .int .i64 ((i : Nat) : Int)), (64, .pointer (some ⟨l13, 0, none⟩)), (66, .int .i64 (7 * ((i : Nat) : Int)))] (by rw [hw32]) ?_
                    have hw33 : IntKind.i64.wrap ((7 * ((i : Nat) : Int)) - 3) = (7 * ((i : Nat) : Int)) - 3 := (wrap64_id (by omega) (by omega)).trans (by omega)
                    refine OI_static 4 [(0, .int .i64 a), (1, .int .i64 b), (2, .int .i64 c), (3, .int .i64 ((gone : Nat) : Int)), (9, .pointer (some ⟨l13, 0, none⟩)), (11, .slice (some ⟨b20, 0, none⟩) 3 3), (12, .int .i64 ((i : Nat) : Int)), (64, .pointer (some ⟨l13, 0, none⟩)), (67, .int .i64 (IntKind.i64.wrap ((7 * ((i : Nat) : Int)) - 3)))] (by kernel_rfl) ?_
                    refine OI_eq [(0, .int .i64 a), (1, .int .i64 b), (2, .int .i64 c), (3, .int .i64 ((gone : Nat) : Int)), (9, .pointer (some ⟨l13, 0, none⟩)), (11, .slice (some ⟨b20, 0, none⟩) 3 3), (12, .int .i64 ((i : Nat) : Int)), (64, .pointer (some ⟨l13, 0, none⟩)), (67, .int .i64 ((7 * ((i : Nat) : Int)) - 3))] (by rw [hw33]) ?_
                    refine OI_static 6 [(0, .int .i64 a), (1, .int .i64 b), (2, .int .i64 c), (3, .int .i64 ((gone : Nat) : Int)), (9, .pointer (some ⟨l13, 0, none⟩)), (11, .slice (some ⟨b20, 0, none⟩) 3 3), (12, .int .i64 ((i : Nat) : Int)), (64, .pointer (some ⟨l13, 0, none⟩)), (67, .int .i64 ((7 * ((i : Nat) : Int)) - 3)), (68, .slice (some ⟨b20, 0, none⟩) 3 3), (69, .int .i64 ((i : Nat) : Int))] (by kernel_rfl) ?_
                    refine OI_pure (some 70) (.indexAddr 26 (.tmp 68) (.tmp 69)) (by kernel_rfl) (pure_idxN (b := b20) (o := 0) (len := 3) (cap := 3) (kd := .i64) (j := i) (E := 3) (sz := 1) (by_ := 8) (by kernel_rfl) (by kernel_rfl) (by kernel_rfl) (by omega)) ?_
                    refine OI_cell 3 (.tmp 70) (0 + i * 1) (.int .i64 (pick3 a b c i)) (some 71) (by kernel_rfl) (by kernel_rfl) hb20 (m := 1) (by kernel_rfl) (pick3_at a b c (by omega)) ?_
                    refine OI_call { callee := (Callee.value (Operand.func 15)), args := #[(Operand.tmp 64), (Operand.const (Value.int IntKind.i64 0)), (Operand.tmp 67), (Operand.tmp 71)], argTypes := #[22, 3, 3, 3] } 15 #[.pointer (some ⟨l13, 0, none⟩), .int .i64 0, .int .i64 ((7 * ((i : Nat) : Int)) - 3), .int .i64 (pick3 a b c i)] (some 72) (by kernel_rfl) (by kernel_rfl) (by kernel_rfl) (lock_spec F22 l13 (two (Acc.mk 1000 0) (Acc.mk 0 0)) (lkC a b c i) 0 ((7 * ((i : Nat) : Int)) - 3) (pick3 a b c i) _ ho23 (by have := lkC_len a b c 3; omega)) ?_
                    rintro _ w36 ⟨rfl, ⟨F38, ho39, hfr40⟩, hk37⟩
                    refine ⟨_, rfl, ?_⟩
                    have hsz41 := Keep.size hk37
                    replace hb9 := hb9.keep hk37 (fun hs => by have h1 := own24 _ hs; have h2 := lt30 _ hs; omega)
                    have hb9lt := hb9.lt
                    replace hb20 := hb20.keep hk37 (fun hs => by have h1 := own24 _ hs; have h2 := lt30 _ hs; omega)
                    have hb20lt := hb20.lt
                    replace hK0 := Keep.fresh hK0 hk37 (by intro i hi hs; first | exact hs | (exfalso; have h1 := own24 i hs; have h2 := lt30 i hs; omega) | (have h1 := own24 i hs; have h2 := lt30 i hs; show _ ∨ _; omega)); have hzhK0 := Keep.size hK0
                    replace hk28 := Keep.fresh hk28 hk37 (fun i hi hs => by rcases rel25 i hs with h | h; exact h; (exfalso; omega)); have hzhk28 := Keep.size hk28
                    have own43 : ∀ q, F38 q → w9.heap.size ≤ q ∧ q ≠ b9 ∧ q ≠ b20 := fun q hq => by rcases hfr40 q hq with h | h; (have h1 := own24 q h; have h2 := lt30 q h; omega); omega
                    have lt42 := Led.lt ho39
                    have rel44 : ∀ q, F38 q → F14 q ∨ w20.heap.size ≤ q := fun q hq => by rcases hfr40 q hq with h | h; exact rel25 q h; exact .inr (by omega)
                    rw [show lockC (lkC a b c i) 0 (7 * ((i : Nat) : Int) - 3) (pick3 a b c i) = lkC a b c (i + 1) from rfl] at ho39
                    refine OI_end rfl ?_
                    refine X_block ?_
                    refine X_then ?_
                    refine V_region ?_
                    have hw45 : IntKind.i64.wrap (((i : Nat) : Int) + 1) = ((i + 1 : Nat) : Int) := (wrap64_id (by omega) (by omega)).trans (by omega)
                    refine OI_static 2 [(0, .int .i64 a), (1, .int .i64 b), (2, .int .i64 c), (3, .int .i64 ((gone : Nat) : Int)), (9, .pointer (some ⟨l13, 0, none⟩)), (11, .slice (some ⟨b20, 0, none⟩) 3 3), (63, .int .i64 (IntKind.i64.wrap (((i : Nat) : Int) + 1)))] (by kernel_rfl) ?_
                    refine OI_eq [(0, .int .i64 a), (1, .int .i64 b), (2, .int .i64 c), (3, .int .i64 ((gone : Nat) : Int)), (9, .pointer (some ⟨l13, 0, none⟩)), (11, .slice (some ⟨b20, 0, none⟩) 3 3), (63, .int .i64 ((i + 1 : Nat) : Int))] (by rw [hw45]) ?_
                    refine OI_static 3 [(0, .int .i64 a), (1, .int .i64 b), (2, .int .i64 c), (3, .int .i64 ((gone : Nat) : Int)), (9, .pointer (some ⟨l13, 0, none⟩)), (11, .slice (some ⟨b20, 0, none⟩) 3 3), (12, .int .i64 ((i + 1 : Nat) : Int))] (by kernel_rfl) ?_
                    refine OI_end rfl ?_
                    exact V_again (k27 - 1) (by omega) [(0, .int .i64 a), (1, .int .i64 b), (2, .int .i64 c), (3, .int .i64 ((gone : Nat) : Int)), (9, .pointer (some ⟨l13, 0, none⟩)), (11, .slice (some ⟨b20, 0, none⟩) 3 3), (12, .int .i64 ((i + 1 : Nat) : Int))] rfl ⟨i + 1, F38, by omega, ho39, (fun q hq => by have h1 := own43 q hq; have h2 := lt42 q hq; omega), rel44, hk28, rfl⟩
                  · skip
                    obtain rfl : i = 3 := by omega
                    have za := zed_bnd gone 0 (x := a) (by omega) (by omega)
                    have zb := zed_bnd gone 1 (x := b) (by omega) (by omega)
                    have zc := zed_bnd gone 2 (x := c) (by omega) (by omega)
                    have hm3 := imax3 za.1 za.2 zb.1 zb.2 zc.1 zc.2
                    refine V_exit ?_
                    refine X_exit_then ?_
                    refine X_exit_then ?_
                    refine X_exit_here ?_
                    refine X_then ?_
                    refine V_seq ?_
                    refine V_seq ?_
                    refine V_region ?_
                    refine OI_static 1 [(0, .int .i64 a), (1, .int .i64 b), (2, .int .i64 c), (3, .int .i64 ((gone : Nat) : Int)), (9, .pointer (some ⟨l13, 0, none⟩)), (11, .slice (some ⟨b20, 0, none⟩) 3 3), (73, .pointer (some ⟨l13, 0, none⟩))] (by kernel_rfl) ?_
                    refine OI_call { callee := (Callee.value (Operand.func 16)), args := #[(Operand.tmp 73), (Operand.const (Value.int IntKind.i64 0))], argTypes := #[22, 3] } 16 #[.pointer (some ⟨l13, 0, none⟩), .int .i64 0] (some 74) (by kernel_rfl) (by kernel_rfl) (by kernel_rfl) (locked_spec F22 l13 (two (Acc.mk 1000 0) (Acc.mk 0 0)) (lkC a b c 3) 0 _ ho23) ?_
                    rintro _ w46 ⟨rfl, hk47⟩
                    refine ⟨_, rfl, ?_⟩
                    have hsz48 := Keep.size hk47
                    replace hb9 := hb9.keep hk47 (fun f => f)
                    have hb9lt := hb9.lt
                    replace hb20 := hb20.keep hk47 (fun f => f)
                    have hb20lt := hb20.lt
                    replace hK0 := Keep.tr hK0 (Keep.ofNone hk47); have hzhK0 := Keep.size hK0
                    replace ho23 := Led.keep ho23 hk47 (fun _ _ f => f)
                    refine OI_pick [(0, .int .i64 a), (1, .int .i64 b), (2, .int .i64 c), (3, .int .i64 ((gone : Nat) : Int)), (9, .pointer (some ⟨l13, 0, none⟩)), (11, .slice (some ⟨b20, 0, none⟩) 3 3), (74, .int .i64 (lockedL (lkC a b c 3) 0))] (by kernel_rfl) ?_
                    refine OI_eq [(0, .int .i64 a), (1, .int .i64 b), (2, .int .i64 c), (3, .int .i64 ((gone : Nat) : Int)), (9, .pointer (some ⟨l13, 0, none⟩)), (11, .slice (some ⟨b20, 0, none⟩) 3 3), (74, .int .i64 (imax (imax a b) c))] (by rw [lk_max a b c (by omega) (by omega) (by omega) (by omega) (by omega) (by omega)]) ?_
                    refine OI_static 7 [(3, .int .i64 ((gone : Nat) : Int)), (9, .pointer (some ⟨l13, 0, none⟩)), (11, .slice (some ⟨b20, 0, none⟩) 3 3), (79, .bool (!(decide (imax (imax a b) c = imax (imax a b) c))))] (by kernel_rfl) ?_
                    refine OI_end rfl ?_
                    refine X_then ?_
                    refine V_eq [(3, .int .i64 ((gone : Nat) : Int)), (9, .pointer (some ⟨l13, 0, none⟩)), (11, .slice (some ⟨b20, 0, none⟩) 3 3), (79, .bool false)] (by rw [decide_eq_true (by omega : imax (imax a b) c = imax (imax a b) c)]; rfl) ?_
                    refine V_false rfl ?_
                    refine V_skip ?_
                    refine X_then ?_
                    refine V_seq ?_
                    refine V_region ?_
                    have hw50 : IntKind.i64.wrap (7 * ((gone : Nat) : Int)) = 7 * ((gone : Nat) : Int) := (wrap64_id (by omega) (by omega)).trans (by omega)
                    refine OI_static 3 [(3, .int .i64 ((gone : Nat) : Int)), (9, .pointer (some ⟨l13, 0, none⟩)), (11, .slice (some ⟨b20, 0, none⟩) 3 3), (80, .pointer (some ⟨l13, 0, none⟩)), (82, .int .i64 (IntKind.i64.wrap (7 * ((gone : Nat) : Int))))] (by kernel_rfl) ?_
                    refine OI_eq [(3, .int .i64 ((gone : Nat) : Int)), (9, .pointer (some ⟨l13, 0, none⟩)), (11, .slice (some ⟨b20, 0, none⟩) 3 3), (80, .pointer (some ⟨l13, 0, none⟩)), (82, .int .i64 (7 * ((gone : Nat) : Int)))] (by rw [hw50]) ?_
                    have hw51 : IntKind.i64.wrap ((7 * ((gone : Nat) : Int)) - 3) = (7 * ((gone : Nat) : Int)) - 3 := (wrap64_id (by omega) (by omega)).trans (by omega)
                    refine OI_static 4 [(3, .int .i64 ((gone : Nat) : Int)), (9, .pointer (some ⟨l13, 0, none⟩)), (11, .slice (some ⟨b20, 0, none⟩) 3 3), (80, .pointer (some ⟨l13, 0, none⟩)), (83, .int .i64 (IntKind.i64.wrap ((7 * ((gone : Nat) : Int)) - 3)))] (by kernel_rfl) ?_
                    refine OI_eq [(3, .int .i64 ((gone : Nat) : Int)), (9, .pointer (some ⟨l13, 0, none⟩)), (11, .slice (some ⟨b20, 0, none⟩) 3 3), (80, .pointer (some ⟨l13, 0, none⟩)), (83, .int .i64 ((7 * ((gone : Nat) : Int)) - 3))] (by rw [hw51]) ?_
                    refine OI_call { callee := (Callee.value (Operand.func 15)), args := #[(Operand.tmp 80), (Operand.const (Value.int IntKind.i64 0)), (Operand.tmp 83), (Operand.const (Value.int IntKind.i64 0))], argTypes := #[22, 3, 3, 3] } 15 #[.pointer (some ⟨l13, 0, none⟩), .int .i64 0, .int .i64 ((7 * ((gone : Nat) : Int)) - 3), .int .i64 0] (some 84) (by kernel_rfl) (by kernel_rfl) (by kernel_rfl) (lock_spec F22 l13 (two (Acc.mk 1000 0) (Acc.mk 0 0)) (lkC a b c 3) 0 ((7 * ((gone : Nat) : Int)) - 3) 0 _ ho23 (by have := lkC_len a b c 3; omega)) ?_
                    rintro _ w54 ⟨rfl, ⟨F56, ho57, hfr58⟩, hk55⟩
                    refine ⟨_, rfl, ?_⟩
                    have hsz59 := Keep.size hk55
                    replace hb9 := hb9.keep hk55 (fun hs => by have h1 := own24 _ hs; have h2 := lt30 _ hs; omega)
                    have hb9lt := hb9.lt
                    replace hb20 := hb20.keep hk55 (fun hs => by have h1 := own24 _ hs; have h2 := lt30 _ hs; omega)
                    have hb20lt := hb20.lt
                    replace hK0 := Keep.fresh hK0 hk55 (by intro i hi hs; first | exact hs | (exfalso; have h1 := own24 i hs; have h2 := lt30 i hs; omega) | (have h1 := own24 i hs; have h2 := lt30 i hs; show _ ∨ _; omega)); have hzhK0 := Keep.size hK0
                    have own61 : ∀ q, F56 q → w9.heap.size ≤ q ∧ q ≠ b9 ∧ q ≠ b20 := fun q hq => by rcases hfr58 q hq with h | h; (have h1 := own24 q h; have h2 := lt30 q h; omega); omega
                    have lt60 := Led.lt ho57
                    have rel62 : ∀ q, F56 q → F14 q ∨ w20.heap.size ≤ q := fun q hq => by rcases hfr58 q hq with h | h; exact rel25 q h; exact .inr (by omega)
                    rw [lk_gone a b c (g := gone) (by omega) (by omega) (by omega) (by omega) (by omega) (by omega) (by omega)] at ho57
                    refine OI_end rfl ?_
                    refine X_then ?_
                    refine V_seq ?_
                    refine V_region ?_
                    refine OI_static 2 [(9, .pointer (some ⟨l13, 0, none⟩)), (11, .slice (some ⟨b20, 0, none⟩) 3 3), (85, .slice (some ⟨b20, 0, none⟩) 3 3), (86, .int .i64 ((gone : Nat) : Int))] (by kernel_rfl) ?_
                    refine OI_pure (some 87) (.indexAddr 26 (.tmp 85) (.tmp 86)) (by kernel_rfl) (pure_idxN (b := b20) (o := 0) (len := 3) (cap := 3) (kd := .i64) (j := gone) (E := 3) (sz := 1) (by_ := 8) (by kernel_rfl) (by kernel_rfl) (by kernel_rfl) (by omega)) ?_
                    refine OI_set (m := 1) (kd := false) 3 (.tmp 87) (.const (Value.int IntKind.i64 0)) (0 + gone * 1) (.int .i64 0) [.int .i64 0] none (by kernel_rfl) (by kernel_rfl) (by kernel_rfl) hb20 (by kernel_rfl) (by kernel_rfl) (by kernel_rfl) (by simp; omega) (by simp [Value.oneCell']) ?_
                    intro w63 hb20_66 hk64 hz65
                    replace hb20_66 : Blk w63 b20 [.int .i64 (zed gone 0 a), .int .i64 (zed gone 1 b), .int .i64 (zed gone 2 c)] 3 := (by rw [pick3_put a b c (by omega)] at hb20_66; exact hb20_66)
                    have hsz67 := Keep.size hk64
                    replace hb9 := hb9.keep hk64 (by show ¬ (_ = _); omega)
                    have hb9lt := hb9.lt
                    replace hK0 := Keep.fresh hK0 hk64 (by intro i hi hs; first | exact hs | exact Or.inl hs | exact Or.inr hs | (exfalso; have hs2 : i = b20 := hs; omega)); have hzhK0 := Keep.size hK0
                    replace ho57 := Led.keep ho57 hk64 (fun q hq hs => by have hs : q = b20 := hs; have g0 := own61 q hq; have g1 := lt60 q hq; omega)
                    refine OI_end rfl ?_
                    refine X_then ?_
                    refine V_seq ?_
                    refine V_draws (acts []) none_ [[0, 1, 2, 3, 4, 5, 6, 7, 8, 9, 10]] (by kernel_rfl) (by repeat first | exact sure_body (by rintro _ _ ⟨h, _⟩; exact ⟨_, h⟩) | refine sure_then ?_ | refine sure_block ?_ | refine sure_join ?_) (by kernel_rfl) ?_
                    intro w69 hk68 he70 L hL71
                    have hsz72 := Keep.size hk68
                    replace hb9 := hb9.keep hk68 (fun f => f)
                    have hb9lt := hb9.lt
                    replace hb20_66 := hb20_66.keep hk68 (fun f => f)
                    have hb20lt := hb20_66.lt
                    replace hK0 := Keep.tr hK0 (Keep.ofNone hk68); have hzhK0 := Keep.size hK0
                    replace ho57 := Led.keep ho57 hk68 (fun _ _ f => f)
                    have qhb9 := hb9
                    have qhb20_66 := hb20_66
                    have K73 : Keep none_ w69 w69 := Keep.refl _ _
                    obtain rfl := List.mem_singleton.1 hL71
                    refine GI_static [1, 2, 3, 4, 5, 6, 7, 8, 9, 10] [(9, .pointer (some ⟨l13, 0, none⟩)), (11, .slice (some ⟨b20, 0, none⟩) 3 3), (88, .slice (some ⟨b20, 0, none⟩) 3 3)] (by kernel_rfl) ?_
                    refine GI_pure (some 89) (.indexAddr 26 (.tmp 88) (.const (Value.int IntKind.i64 0))) (by kernel_rfl) (by kernel_rfl) (pure_idxN (b := b20) (o := 0) (len := 3) (cap := 3) (kd := .i64) (j := 0) (E := 3) (sz := 1) (by_ := 8) (by kernel_rfl) (by kernel_rfl) (by kernel_rfl) (by omega)) ?_
                    refine GI_cell 3 (.tmp 89) 0 (.int .i64 (zed gone 0 a)) (some 90) (by kernel_rfl) (by kernel_rfl) (by kernel_rfl) qhb20_66 (fun f => f) (m := 1) (by kernel_rfl) rfl ?_
                    refine GI_static [4, 5, 6, 7, 8, 9, 10] [(9, .pointer (some ⟨l13, 0, none⟩)), (11, .slice (some ⟨b20, 0, none⟩) 3 3), (90, .int .i64 (zed gone 0 a)), (91, .slice (some ⟨b20, 0, none⟩) 3 3)] (by kernel_rfl) ?_
                    refine GI_pure (some 92) (.indexAddr 26 (.tmp 91) (.const (Value.int IntKind.i64 1))) (by kernel_rfl) (by kernel_rfl) (pure_idxN (b := b20) (o := 0) (len := 3) (cap := 3) (kd := .i64) (j := 1) (E := 3) (sz := 1) (by_ := 8) (by kernel_rfl) (by kernel_rfl) (by kernel_rfl) (by omega)) ?_
                    refine GI_cell 3 (.tmp 92) 1 (.int .i64 (zed gone 1 b)) (some 93) (by kernel_rfl) (by kernel_rfl) (by kernel_rfl) qhb20_66 (fun f => f) (m := 1) (by kernel_rfl) rfl ?_
                    refine GI_static [7, 8, 9, 10] [(9, .pointer (some ⟨l13, 0, none⟩)), (90, .int .i64 (zed gone 0 a)), (93, .int .i64 (zed gone 1 b)), (94, .slice (some ⟨b20, 0, none⟩) 3 3)] (by kernel_rfl) ?_
                    refine GI_pure (some 95) (.indexAddr 26 (.tmp 94) (.const (Value.int IntKind.i64 2))) (by kernel_rfl) (by kernel_rfl) (pure_idxN (b := b20) (o := 0) (len := 3) (cap := 3) (kd := .i64) (j := 2) (E := 3) (sz := 1) (by_ := 8) (by kernel_rfl) (by kernel_rfl) (by kernel_rfl) (by omega)) ?_
                    refine GI_cell 3 (.tmp 95) 2 (.int .i64 (zed gone 2 c)) (some 96) (by kernel_rfl) (by kernel_rfl) (by kernel_rfl) qhb20_66 (fun f => f) (m := 1) (by kernel_rfl) rfl ?_
                    refine GI_static [] [(9, .pointer (some ⟨l13, 0, none⟩)), (13, .int .i64 (imax (imax (zed gone 0 a) (zed gone 1 b)) (zed gone 2 c)))] (by kernel_rfl) ?_
                    refine GI_end ?_
                    refine X_then ?_
                    refine V_seq ?_
                    refine V_region ?_
                    have hw74 : IntKind.i64.wrap (1000 - (imax (imax (zed gone 0 a) (zed gone 1 b)) (zed gone 2 c))) = 1000 - (imax (imax (zed gone 0 a) (zed gone 1 b)) (zed gone 2 c)) := (wrap64_id (by omega) (by omega)).trans (by omega)
                    refine OI_static 3 [(9, .pointer (some ⟨l13, 0, none⟩)), (13, .int .i64 (imax (imax (zed gone 0 a) (zed gone 1 b)) (zed gone 2 c))), (98, .pointer (some ⟨l13, 0, none⟩)), (100, .int .i64 (IntKind.i64.wrap (1000 - (imax (imax (zed gone 0 a) (zed gone 1 b)) (zed gone 2 c)))))] (by kernel_rfl) ?_
                    refine OI_eq [(9, .pointer (some ⟨l13, 0, none⟩)), (13, .int .i64 (imax (imax (zed gone 0 a) (zed gone 1 b)) (zed gone 2 c))), (98, .pointer (some ⟨l13, 0, none⟩)), (100, .int .i64 (1000 - (imax (imax (zed gone 0 a) (zed gone 1 b)) (zed gone 2 c))))] (by rw [hw74]) ?_
                    have hlm := lk_max (zed gone 0 a) (zed gone 1 b) (zed gone 2 c) za.1 za.2 zb.1 zb.2 zc.1 zc.2
                    obtain ⟨ht1, ht2, ht3⟩ := lk_tr hm3.1 hm3.2 hlm
                    refine OI_call { callee := (Callee.value (Operand.func 17)), args := #[(Operand.tmp 98), (Operand.const (Value.int IntKind.i64 0)), (Operand.const (Value.int IntKind.i64 1)), (Operand.tmp 100)], argTypes := #[22, 3, 3, 3] } 17 #[.pointer (some ⟨l13, 0, none⟩), .int .i64 0, .int .i64 1, .int .i64 (1000 - (imax (imax (zed gone 0 a) (zed gone 1 b)) (zed gone 2 c)))] (some 101) (by kernel_rfl) (by kernel_rfl) (by kernel_rfl) (transfer_spec F56 l13 (two (Acc.mk 1000 0) (Acc.mk 0 0)) (lkC (zed gone 0 a) (zed gone 1 b) (zed gone 2 c) 3) 0 1 (1000 - (imax (imax (zed gone 0 a) (zed gone 1 b)) (zed gone 2 c))) _ ho57) ?_
                    rintro _ w77 ⟨rfl, ⟨F79, ho80, hfr81⟩, hk78⟩
                    refine ⟨_, rfl, ?_⟩
                    have hsz82 := Keep.size hk78
                    replace hb9 := hb9.keep hk78 (fun hs => by have h1 := own61 _ hs; have h2 := lt60 _ hs; omega)
                    have hb9lt := hb9.lt
                    replace hb20_66 := hb20_66.keep hk78 (fun hs => by have h1 := own61 _ hs; have h2 := lt60 _ hs; omega)
                    have hb20lt := hb20_66.lt
                    replace hK0 := Keep.fresh hK0 hk78 (by intro i hi hs; first | exact hs | (exfalso; have h1 := own61 i hs; have h2 := lt60 i hs; omega) | (have h1 := own61 i hs; have h2 := lt60 i hs; show _ ∨ _; omega)); have hzhK0 := Keep.size hK0
                    have own84 : ∀ q, F79 q → w9.heap.size ≤ q ∧ q ≠ b9 ∧ q ≠ b20 := fun q hq => by rcases hfr81 q hq with h | h; (have h1 := own61 q h; have h2 := lt60 q h; omega); omega
                    have lt83 := Led.lt ho80
                    have rel85 : ∀ q, F79 q → F14 q ∨ w20.heap.size ≤ q := fun q hq => by rcases hfr81 q hq with h | h; exact rel62 q h; exact .inr (by omega)
                    rw [ht2] at ho80
                    refine OI_pick [(9, .pointer (some ⟨l13, 0, none⟩)), (13, .int .i64 (imax (imax (zed gone 0 a) (zed gone 1 b)) (zed gone 2 c))), (101, .int .i64 (transE (two (Acc.mk 1000 0) (Acc.mk 0 0)) (lkC (zed gone 0 a) (zed gone 1 b) (zed gone 2 c) 3) 0 1 (1000 - (imax (imax (zed gone 0 a) (zed gone 1 b)) (zed gone 2 c)))))] (by kernel_rfl) ?_
                    refine OI_eq [(9, .pointer (some ⟨l13, 0, none⟩)), (13, .int .i64 (imax (imax (zed gone 0 a) (zed gone 1 b)) (zed gone 2 c))), (101, .int .i64 0)] (by rw [ht1]) ?_
                    refine OI_static 5 [(9, .pointer (some ⟨l13, 0, none⟩)), (13, .int .i64 (imax (imax (zed gone 0 a) (zed gone 1 b)) (zed gone 2 c))), (14, .int .i64 0)] (by kernel_rfl) ?_
                    refine OI_end rfl ?_
                    refine X_then ?_
                    refine V_seq ?_
                    refine V_region ?_
                    refine OI_static 1 [(9, .pointer (some ⟨l13, 0, none⟩)), (13, .int .i64 (imax (imax (zed gone 0 a) (zed gone 1 b)) (zed gone 2 c))), (14, .int .i64 0), (102, .pointer (some ⟨l13, 0, none⟩))] (by kernel_rfl) ?_
                    refine OI_call { callee := (Callee.value (Operand.func 16)), args := #[(Operand.tmp 102), (Operand.const (Value.int IntKind.i64 0))], argTypes := #[22, 3] } 16 #[.pointer (some ⟨l13, 0, none⟩), .int .i64 0] (some 103) (by kernel_rfl) (by kernel_rfl) (by kernel_rfl) (locked_spec F79 l13 (two (Acc.mk (imax (imax (zed gone 0 a) (zed gone 1 b)) (zed gone 2 c)) 0) (Acc.mk (1000 - imax (imax (zed gone 0 a) (zed gone 1 b)) (zed gone 2 c)) 0)) (lkC (zed gone 0 a) (zed gone 1 b) (zed gone 2 c) 3) 0 _ ho80) ?_
                    rintro _ w86 ⟨rfl, hk87⟩
                    refine ⟨_, rfl, ?_⟩
                    have hsz88 := Keep.size hk87
                    replace hb9 := hb9.keep hk87 (fun f => f)
                    have hb9lt := hb9.lt
                    replace hb20_66 := hb20_66.keep hk87 (fun f => f)
                    have hb20lt := hb20_66.lt
                    replace hK0 := Keep.tr hK0 (Keep.ofNone hk87); have hzhK0 := Keep.size hK0
                    replace ho80 := Led.keep ho80 hk87 (fun _ _ f => f)
                    refine OI_pick [(9, .pointer (some ⟨l13, 0, none⟩)), (13, .int .i64 (imax (imax (zed gone 0 a) (zed gone 1 b)) (zed gone 2 c))), (14, .int .i64 0), (103, .int .i64 (lockedL (lkC (zed gone 0 a) (zed gone 1 b) (zed gone 2 c) 3) 0))] (by kernel_rfl) ?_
                    refine OI_eq [(9, .pointer (some ⟨l13, 0, none⟩)), (13, .int .i64 (imax (imax (zed gone 0 a) (zed gone 1 b)) (zed gone 2 c))), (14, .int .i64 0), (103, .int .i64 (imax (imax (zed gone 0 a) (zed gone 1 b)) (zed gone 2 c)))] (by rw [hlm]) ?_
                    refine OI_static 5 [(9, .pointer (some ⟨l13, 0, none⟩)), (13, .int .i64 (imax (imax (zed gone 0 a) (zed gone 1 b)) (zed gone 2 c))), (14, .int .i64 0), (106, .bool (decide (imax (imax (zed gone 0 a) (zed gone 1 b)) (zed gone 2 c) = imax (imax (zed gone 0 a) (zed gone 1 b)) (zed gone 2 c))))] (by kernel_rfl) ?_
                    refine OI_eq [(9, .pointer (some ⟨l13, 0, none⟩)), (13, .int .i64 (imax (imax (zed gone 0 a) (zed gone 1 b)) (zed gone 2 c))), (14, .int .i64 0), (106, .bool true)] (by rw [decide_eq_true (by omega : imax (imax (zed gone 0 a) (zed gone 1 b)) (zed gone 2 c) = imax (imax (zed gone 0 a) (zed gone 1 b)) (zed gone 2 c))]) ?_
                    refine OI_static 12 [(9, .pointer (some ⟨l13, 0, none⟩)), (110, .bool true), (113, .bool (decide (imax (imax (zed gone 0 a) (zed gone 1 b)) (zed gone 2 c) = 0)))] (by kernel_rfl) ?_
                    by_cases hg90 : imax (imax (zed gone 0 a) (zed gone 1 b)) (zed gone 2 c) = 0
                    · skip
                      refine OI_eq [(9, .pointer (some ⟨l13, 0, none⟩)), (110, .bool true), (113, .bool true)] (by first | simp [hg90] | rfl) ?_
                      refine OI_static 18 [(119, .bool true)] (by kernel_rfl) ?_
                      refine OI_call { callee := (Callee.value (Operand.func 18)), args := #[], argTypes := #[] } 18 #[] (some 120) (by kernel_rfl) (by kernel_rfl) (by kernel_rfl) (known_spec _) ?_
                      rintro _ w91 ⟨rfl, hk92⟩
                      refine ⟨_, rfl, ?_⟩
                      have hsz93 := Keep.size hk92
                      replace hb9 := hb9.keep hk92 (fun f => f)
                      have hb9lt := hb9.lt
                      replace hb20_66 := hb20_66.keep hk92 (fun f => f)
                      have hb20lt := hb20_66.lt
                      replace hK0 := Keep.tr hK0 (Keep.ofNone hk92); have hzhK0 := Keep.size hK0
                      replace ho80 := Led.keep ho80 hk92 (fun _ _ f => f)
                      refine OI_static 21 [(8, .bool true)] (by kernel_rfl) ?_
                      refine OI_end rfl ?_
                      refine X_then ?_
                      refine V_ret ?_
                      exact X_return (.bool true) rfl ⟨rfl, hK0⟩
                    · skip
                      refine OI_eq [(9, .pointer (some ⟨l13, 0, none⟩)), (110, .bool true), (113, .bool false)] (by first | simp [hg90] | rfl) ?_
                      refine OI_static 13 [(110, .bool true), (113, .bool false), (114, .pointer (some ⟨l13, 0, none⟩))] (by kernel_rfl) ?_
                      refine OI_call { callee := (Callee.value (Operand.func 17)), args := #[(Operand.tmp 114), (Operand.const (Value.int IntKind.i64 0)), (Operand.const (Value.int IntKind.i64 1)), (Operand.const (Value.int IntKind.i64 1))], argTypes := #[22, 3, 3, 3] } 17 #[.pointer (some ⟨l13, 0, none⟩), .int .i64 0, .int .i64 1, .int .i64 1] (some 115) (by kernel_rfl) (by kernel_rfl) (by kernel_rfl) (transfer_spec F79 l13 (two (Acc.mk (imax (imax (zed gone 0 a) (zed gone 1 b)) (zed gone 2 c)) 0) (Acc.mk (1000 - imax (imax (zed gone 0 a) (zed gone 1 b)) (zed gone 2 c)) 0)) (lkC (zed gone 0 a) (zed gone 1 b) (zed gone 2 c) 3) 0 1 1 _ ho80) ?_
                      rintro _ w96 ⟨rfl, ⟨F98, ho99, hfr100⟩, hk97⟩
                      refine ⟨_, rfl, ?_⟩
                      have hsz101 := Keep.size hk97
                      replace hb9 := hb9.keep hk97 (fun hs => by have h1 := own84 _ hs; have h2 := lt83 _ hs; omega)
                      have hb9lt := hb9.lt
                      replace hb20_66 := hb20_66.keep hk97 (fun hs => by have h1 := own84 _ hs; have h2 := lt83 _ hs; omega)
                      have hb20lt := hb20_66.lt
                      replace hK0 := Keep.fresh hK0 hk97 (by intro i hi hs; first | exact hs | (exfalso; have h1 := own84 i hs; have h2 := lt83 i hs; omega) | (have h1 := own84 i hs; have h2 := lt83 i hs; show _ ∨ _; omega)); have hzhK0 := Keep.size hK0
                      have own103 : ∀ q, F98 q → w9.heap.size ≤ q ∧ q ≠ b9 ∧ q ≠ b20 := fun q hq => by rcases hfr100 q hq with h | h; (have h1 := own84 q h; have h2 := lt83 q h; omega); omega
                      have lt102 := Led.lt ho99
                      have rel104 : ∀ q, F98 q → F14 q ∨ w20.heap.size ≤ q := fun q hq => by rcases hfr100 q hq with h | h; exact rel85 q h; exact .inr (by omega)
                      refine OI_pick [(110, .bool true), (113, .bool false), (115, .int .i64 (transE (two (Acc.mk (imax (imax (zed gone 0 a) (zed gone 1 b)) (zed gone 2 c)) 0) (Acc.mk (1000 - imax (imax (zed gone 0 a) (zed gone 1 b)) (zed gone 2 c)) 0)) (lkC (zed gone 0 a) (zed gone 1 b) (zed gone 2 c) 3) 0 1 1))] (by kernel_rfl) ?_
                      refine OI_eq [(110, .bool true), (113, .bool false), (115, .int .i64 7)] (by rw [ht3 hg90]) ?_
                      refine OI_static 18 [(119, .bool true)] (by kernel_rfl) ?_
                      refine OI_call { callee := (Callee.value (Operand.func 18)), args := #[], argTypes := #[] } 18 #[] (some 120) (by kernel_rfl) (by kernel_rfl) (by kernel_rfl) (known_spec _) ?_
                      rintro _ w105 ⟨rfl, hk106⟩
                      refine ⟨_, rfl, ?_⟩
                      have hsz107 := Keep.size hk106
                      replace hb9 := hb9.keep hk106 (fun f => f)
                      have hb9lt := hb9.lt
                      replace hb20_66 := hb20_66.keep hk106 (fun f => f)
                      have hb20lt := hb20_66.lt
                      replace hK0 := Keep.tr hK0 (Keep.ofNone hk106); have hzhK0 := Keep.size hK0
                      replace ho99 := Led.keep ho99 hk106 (fun _ _ f => f)
                      refine OI_static 21 [(8, .bool true)] (by kernel_rfl) ?_
                      refine OI_end rfl ?_
                      refine X_then ?_
                      refine V_ret ?_
                      exact X_return (.bool true) rfl ⟨rfl, hK0⟩

theorem walk_LedgerLocks_neg (a b c g : Int) (h : g < 0) (w : World) : Calls Try.prog 3 #[.int .i64 a, .int .i64 b, .int .i64 c, .int .i64 g] w fun e w' => e = .returned (.bool true) ∧ Keep none_ w w' := by
  have hK0 : Keep none_ w w := Keep.refl _ _
  have hzhK0 := Keep.size hK0
  refine enterV Try.func3 rfl [.int .i64 a, .int .i64 b, .int .i64 c, .int .i64 g] 122 rfl rfl rfl ?_
  refine V_pick [(0, .int .i64 a), (1, .int .i64 b), (2, .int .i64 c), (3, .int .i64 g)] rfl ?_
  refine V_seq ?_
  refine V_region ?_
  refine OI_static 1 [(0, .int .i64 a), (1, .int .i64 b), (2, .int .i64 c), (3, .int .i64 g)] (by kernel_rfl) ?_
  refine OI_end rfl ?_
  refine X_then ?_
  refine V_seq ?_
  refine V_seq ?_
  refine V_region ?_
  refine OI_static 3 [(0, .int .i64 a), (1, .int .i64 b), (2, .int .i64 c), (3, .int .i64 g), (17, .bool (decide (a < 0)))] (by kernel_rfl) ?_
  by_cases hg1 : a < 0
  · skip
    refine OI_eq [(0, .int .i64 a), (1, .int .i64 b), (2, .int .i64 c), (3, .int .i64 g), (17, .bool true)] (by first | simp [hg1] | rfl) ?_
    refine OI_static 30 [(0, .int .i64 a), (1, .int .i64 b), (2, .int .i64 c), (3, .int .i64 g), (44, .bool true)] (by kernel_rfl) ?_
    refine OI_end rfl ?_
    refine X_then ?_
    refine V_true rfl ?_
    refine V_seq ?_
    refine V_region ?_
    refine OI_static 1 [(8, .bool true)] (by kernel_rfl) ?_
    refine OI_end rfl ?_
    refine X_then ?_
    refine V_ret ?_
    refine X_ret_then ?_
    exact X_return (.bool true) rfl ⟨rfl, hK0⟩
  · skip
    refine OI_eq [(0, .int .i64 a), (1, .int .i64 b), (2, .int .i64 c), (3, .int .i64 g), (17, .bool false)] (by first | simp [hg1] | rfl) ?_
    refine OI_static 7 [(0, .int .i64 a), (1, .int .i64 b), (2, .int .i64 c), (3, .int .i64 g), (21, .bool (decide (a > 1000)))] (by kernel_rfl) ?_
    by_cases hg2 : a > 1000
    · skip
      refine OI_eq [(0, .int .i64 a), (1, .int .i64 b), (2, .int .i64 c), (3, .int .i64 g), (21, .bool true)] (by first | simp [hg2] | rfl) ?_
      refine OI_static 30 [(0, .int .i64 a), (1, .int .i64 b), (2, .int .i64 c), (3, .int .i64 g), (44, .bool true)] (by kernel_rfl) ?_
      refine OI_end rfl ?_
      refine X_then ?_
      refine V_true rfl ?_
      refine V_seq ?_
      refine V_region ?_
      refine OI_static 1 [(8, .bool true)] (by kernel_rfl) ?_
      refine OI_end rfl ?_
      refine X_then ?_
      refine V_ret ?_
      refine X_ret_then ?_
      exact X_return (.bool true) rfl ⟨rfl, hK0⟩
    · skip
      refine OI_eq [(0, .int .i64 a), (1, .int .i64 b), (2, .int .i64 c), (3, .int .i64 g), (21, .bool false)] (by first | simp [hg2] | rfl) ?_
      refine OI_static 11 [(0, .int .i64 a), (1, .int .i64 b), (2, .int .i64 c), (3, .int .i64 g), (25, .bool (decide (b < 0)))] (by kernel_rfl) ?_
      by_cases hg3 : b < 0
      · skip
        refine OI_eq [(0, .int .i64 a), (1, .int .i64 b), (2, .int .i64 c), (3, .int .i64 g), (25, .bool true)] (by first | simp [hg3] | rfl) ?_
        refine OI_static 30 [(0, .int .i64 a), (1, .int .i64 b), (2, .int .i64 c), (3, .int .i64 g), (44, .bool true)] (by kernel_rfl) ?_
        refine OI_end rfl ?_
        refine X_then ?_
        refine V_true rfl ?_
        refine V_seq ?_
        refine V_region ?_
        refine OI_static 1 [(8, .bool true)] (by kernel_rfl) ?_
        refine OI_end rfl ?_
        refine X_then ?_
        refine V_ret ?_
        refine X_ret_then ?_
        exact X_return (.bool true) rfl ⟨rfl, hK0⟩
      · skip
        refine OI_eq [(0, .int .i64 a), (1, .int .i64 b), (2, .int .i64 c), (3, .int .i64 g), (25, .bool false)] (by first | simp [hg3] | rfl) ?_
        refine OI_static 15 [(0, .int .i64 a), (1, .int .i64 b), (2, .int .i64 c), (3, .int .i64 g), (29, .bool (decide (b > 1000)))] (by kernel_rfl) ?_
        by_cases hg4 : b > 1000
        · skip
          refine OI_eq [(0, .int .i64 a), (1, .int .i64 b), (2, .int .i64 c), (3, .int .i64 g), (29, .bool true)] (by first | simp [hg4] | rfl) ?_
          refine OI_static 30 [(0, .int .i64 a), (1, .int .i64 b), (2, .int .i64 c), (3, .int .i64 g), (44, .bool true)] (by kernel_rfl) ?_
          refine OI_end rfl ?_
          refine X_then ?_
          refine V_true rfl ?_
          refine V_seq ?_
          refine V_region ?_
          refine OI_static 1 [(8, .bool true)] (by kernel_rfl) ?_
          refine OI_end rfl ?_
          refine X_then ?_
          refine V_ret ?_
          refine X_ret_then ?_
          exact X_return (.bool true) rfl ⟨rfl, hK0⟩
        · skip
          refine OI_eq [(0, .int .i64 a), (1, .int .i64 b), (2, .int .i64 c), (3, .int .i64 g), (29, .bool false)] (by first | simp [hg4] | rfl) ?_
          refine OI_static 19 [(0, .int .i64 a), (1, .int .i64 b), (2, .int .i64 c), (3, .int .i64 g), (33, .bool (decide (c < 0)))] (by kernel_rfl) ?_
          by_cases hg5 : c < 0
          · skip
            refine OI_eq [(0, .int .i64 a), (1, .int .i64 b), (2, .int .i64 c), (3, .int .i64 g), (33, .bool true)] (by first | simp [hg5] | rfl) ?_
            refine OI_static 30 [(0, .int .i64 a), (1, .int .i64 b), (2, .int .i64 c), (3, .int .i64 g), (44, .bool true)] (by kernel_rfl) ?_
            refine OI_end rfl ?_
            refine X_then ?_
            refine V_true rfl ?_
            refine V_seq ?_
            refine V_region ?_
            refine OI_static 1 [(8, .bool true)] (by kernel_rfl) ?_
            refine OI_end rfl ?_
            refine X_then ?_
            refine V_ret ?_
            refine X_ret_then ?_
            exact X_return (.bool true) rfl ⟨rfl, hK0⟩
          · skip
            refine OI_eq [(0, .int .i64 a), (1, .int .i64 b), (2, .int .i64 c), (3, .int .i64 g), (33, .bool false)] (by first | simp [hg5] | rfl) ?_
            refine OI_static 23 [(0, .int .i64 a), (1, .int .i64 b), (2, .int .i64 c), (3, .int .i64 g), (37, .bool (decide (c > 1000)))] (by kernel_rfl) ?_
            by_cases hg6 : c > 1000
            · skip
              refine OI_eq [(0, .int .i64 a), (1, .int .i64 b), (2, .int .i64 c), (3, .int .i64 g), (37, .bool true)] (by first | simp [hg6] | rfl) ?_
              refine OI_static 30 [(0, .int .i64 a), (1, .int .i64 b), (2, .int .i64 c), (3, .int .i64 g), (44, .bool true)] (by kernel_rfl) ?_
              refine OI_end rfl ?_
              refine X_then ?_
              refine V_true rfl ?_
              refine V_seq ?_
              refine V_region ?_
              refine OI_static 1 [(8, .bool true)] (by kernel_rfl) ?_
              refine OI_end rfl ?_
              refine X_then ?_
              refine V_ret ?_
              refine X_ret_then ?_
              exact X_return (.bool true) rfl ⟨rfl, hK0⟩
            · skip
              refine OI_eq [(0, .int .i64 a), (1, .int .i64 b), (2, .int .i64 c), (3, .int .i64 g), (37, .bool false)] (by first | simp [hg6] | rfl) ?_
              refine OI_static 27 [(0, .int .i64 a), (1, .int .i64 b), (2, .int .i64 c), (3, .int .i64 g), (41, .bool (decide (g < 0)))] (by kernel_rfl) ?_
              by_cases hg7 : g < 0
              · skip
                refine OI_eq [(0, .int .i64 a), (1, .int .i64 b), (2, .int .i64 c), (3, .int .i64 g), (41, .bool true)] (by first | simp [hg7] | rfl) ?_
                refine OI_static 30 [(0, .int .i64 a), (1, .int .i64 b), (2, .int .i64 c), (3, .int .i64 g), (44, .bool true)] (by kernel_rfl) ?_
                refine OI_end rfl ?_
                refine X_then ?_
                refine V_true rfl ?_
                refine V_seq ?_
                refine V_region ?_
                refine OI_static 1 [(8, .bool true)] (by kernel_rfl) ?_
                refine OI_end rfl ?_
                refine X_then ?_
                refine V_ret ?_
                refine X_ret_then ?_
                exact X_return (.bool true) rfl ⟨rfl, hK0⟩
              · skip
                exact (by omega : False).elim

theorem said_LedgerLocks (a b c g : Int) (w : World) : Calls Try.prog 3 #[.int .i64 a, .int .i64 b, .int .i64 c, .int .i64 g] w fun e w' => e = .returned (.bool true) ∧ Keep none_ w w' := by
  by_cases h : g < 0
  · exact walk_LedgerLocks_neg a b c g h w
  · obtain ⟨n, rfl⟩ : ∃ x : Nat, g = x := ⟨g.toNat, by omega⟩
    exact walk_LedgerLocks a b c n w
end Go.Al
