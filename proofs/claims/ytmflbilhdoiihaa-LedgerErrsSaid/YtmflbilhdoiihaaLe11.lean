/-
  Walks of the laws of ledger: what is held.
-/
import Derived.Test.YtmflbilhdoiihaaLe10
namespace Go.Al
open Go Go.RowKit Go.Proofs
/-! ### Few accounts -/
def two (a b : Acc) : List Acc := [a, b, Acc.mk 0 0, Acc.mk 0 0, Acc.mk 0 0, Acc.mk 0 0, Acc.mk 0 0, Acc.mk 0 0, Acc.mk 0 0, Acc.mk 0 0]
theorem new_two (x y : Int) : newX [x, y] 10 = two (Acc.mk x 0) (Acc.mk y 0) := rfl
theorem two_ok {x y : Int} (h1 : 0 ≤ x) (h2 : 0 ≤ y) (h3 : x + y ≤ 1073741824) : okP [x, y] := by
  refine ⟨by simp, fun z hz => ?_, ?_⟩
  · simp only [List.mem_cons, List.not_mem_nil, or_false] at hz
    rcases hz with rfl | rfl <;> omega
  · rw [new_two]; simp only [two, tot]; omega
theorem acct_two0 (a b : Acc) : acct (two a b) 0 = a := rfl
theorem acct_two1 (a b : Acc) : acct (two a b) 1 = b := rfl
theorem acct_two2 (a b : Acc) : acct (two a b) 2 = Acc.mk 0 0 := rfl
theorem set_two0 (a b y : Acc) : setA (two a b) 0 y = two y b := rfl
theorem set_two1 (a b y : Acc) : setA (two a b) 1 y = two a y := rfl
theorem set_two2 (a b : Acc) : setA (two a b) 2 (Acc.mk 0 0) = two a b := rfl
theorem tot_two (a b : Acc) : tot (two a b) = a.free + a.held + (b.free + b.held) := by simp [two, tot]
theorem isA1 : isA 1 = true := rfl
theorem isA0 : isA 0 = true := rfl
theorem isA2 : isA 2 = true := rfl
theorem locked0 (a : Int) : lockedL [] a = 0 := rfl
theorem sp_two {a b : Acc} {n : Int} (h1 : 0 ≤ n) (h2 : n ≤ b.free) (h3 : b.free ≤ 1073741824) : spendsE (two a b) [] 1 n = 0 := by
  unfold spendsE
  rw [if_neg (by rw [isA1]; rintro (h | h); cases h; exact h ⟨h1, by omega⟩), if_neg (by rw [acct_two1]; omega), if_neg (by rw [acct_two1, locked0]; omega)]
theorem imin_bnd (a b : Int) (h1 : 0 ≤ a) (h2 : 0 ≤ b) : 0 ≤ imin a b ∧ imin a b ≤ a ∧ imin a b ≤ b ∧ imax (imin b a) 0 = imin a b := by unfold imax imin; repeat' split <;> omega
theorem tk_two {a b : Acc} {n : Int} (h1 : 0 ≤ n) (h2 : 0 ≤ b.held) : tkN (two a b) 1 n = imin b.held n ∧ tkX (two a b) 1 n = two a (Acc.mk b.free (b.held - imin b.held n)) := by
  have h := (imin_bnd b.held n h2 h1).2.2.2
  have e1 : tkN (two a b) 1 n = imin b.held n := by unfold tkN; rw [if_pos isA1, acct_two1, h]
  refine ⟨e1, ?_⟩
  unfold tkX; rw [if_pos isA1, e1]; rfl
theorem sl_two {f h n : Int} (h1 : 0 ≤ n) (h2 : 0 ≤ h) : slX (two (Acc.mk 0 0) (Acc.mk f h)) 1 n = two (Acc.mk (imin h n) 0) (Acc.mk f (h - imin h n)) := by
  obtain ⟨e1, e2⟩ := tk_two (a := Acc.mk 0 0) (b := Acc.mk f h) h1 h2
  have hb := imin_bnd h n h2 h1
  unfold slX
  rw [e1, e2]
  simp only []
  split
  · unfold addF; rw [acct_two0, set_two0]; simp
  · rw [show imin h n = 0 by omega]
theorem rl_two {f h n : Int} (h1 : 0 ≤ n) (h2 : 0 ≤ h) : relX (two (Acc.mk 0 0) (Acc.mk f h)) 1 n = two (Acc.mk 0 0) (Acc.mk (f + imin h n) (h - imin h n)) := by
  obtain ⟨e1, e2⟩ := tk_two (a := Acc.mk 0 0) (b := Acc.mk f h) h1 h2
  have hb := imin_bnd h n h2 h1
  unfold relX
  rw [e1, e2]
  simp only []
  split
  · unfold addF; rw [acct_two1, set_two1]
  · rw [show imin h n = 0 by omega]; simp

theorem walk_LedgerHolds (free hold ask : Int) (slash : Bool) (w : World) : Calls Try.prog 9 #[.int .i64 free, .int .i64 hold, .int .i64 ask, .bool slash] w fun e w' => e = .returned (.bool true) ∧ Keep none_ w w' := by
  have hK0 : Keep none_ w w := Keep.refl _ _
  have hzhK0 := Keep.size hK0
  refine enterV Try.func9 rfl [.int .i64 free, .int .i64 hold, .int .i64 ask, .bool slash] 107 rfl rfl rfl ?_
  refine V_pick [(0, .int .i64 free), (1, .int .i64 hold), (2, .int .i64 ask), (3, .bool slash)] rfl ?_
  refine V_seq ?_
  refine V_region ?_
  refine OI_static 1 [(0, .int .i64 free), (1, .int .i64 hold), (2, .int .i64 ask), (3, .bool slash)] (by kernel_rfl) ?_
  refine OI_end rfl ?_
  refine X_then ?_
  refine V_seq ?_
  refine V_seq ?_
  refine V_region ?_
  refine OI_static 3 [(0, .int .i64 free), (1, .int .i64 hold), (2, .int .i64 ask), (3, .bool slash), (15, .bool (decide (free < 0)))] (by kernel_rfl) ?_
  by_cases hg1 : free < 0
  · skip
    refine OI_eq [(0, .int .i64 free), (1, .int .i64 hold), (2, .int .i64 ask), (3, .bool slash), (15, .bool true)] (by first | simp [hg1] | rfl) ?_
    refine OI_static 23 [(0, .int .i64 free), (1, .int .i64 hold), (2, .int .i64 ask), (3, .bool slash), (35, .bool true)] (by kernel_rfl) ?_
    refine OI_end rfl ?_
    refine X_then ?_
    refine V_true rfl ?_
    refine V_seq ?_
    refine V_region ?_
    refine OI_static 1 [(8, .bool true)] (by kernel_rfl) ?_
    refine OI_end rfl ?_
    refine X_then ?_
    refine V_ret ?_
    refine X_ret_then ?_
    exact X_return (.bool true) rfl ⟨rfl, hK0⟩
  · skip
    refine OI_eq [(0, .int .i64 free), (1, .int .i64 hold), (2, .int .i64 ask), (3, .bool slash), (15, .bool false)] (by first | simp [hg1] | rfl) ?_
    refine OI_static 7 [(0, .int .i64 free), (1, .int .i64 hold), (2, .int .i64 ask), (3, .bool slash), (19, .bool (decide (free > 1073741824)))] (by kernel_rfl) ?_
    by_cases hg2 : free > 1073741824
    · skip
      refine OI_eq [(0, .int .i64 free), (1, .int .i64 hold), (2, .int .i64 ask), (3, .bool slash), (19, .bool true)] (by first | simp [hg2] | rfl) ?_
      refine OI_static 23 [(0, .int .i64 free), (1, .int .i64 hold), (2, .int .i64 ask), (3, .bool slash), (35, .bool true)] (by kernel_rfl) ?_
      refine OI_end rfl ?_
      refine X_then ?_
      refine V_true rfl ?_
      refine V_seq ?_
      refine V_region ?_
      refine OI_static 1 [(8, .bool true)] (by kernel_rfl) ?_
      refine OI_end rfl ?_
      refine X_then ?_
      refine V_ret ?_
      refine X_ret_then ?_
      exact X_return (.bool true) rfl ⟨rfl, hK0⟩
    · skip
      refine OI_eq [(0, .int .i64 free), (1, .int .i64 hold), (2, .int .i64 ask), (3, .bool slash), (19, .bool false)] (by first | simp [hg2] | rfl) ?_
      refine OI_static 11 [(0, .int .i64 free), (1, .int .i64 hold), (2, .int .i64 ask), (3, .bool slash), (23, .bool (decide (hold < 0)))] (by kernel_rfl) ?_
      by_cases hg3 : hold < 0
      · skip
        refine OI_eq [(0, .int .i64 free), (1, .int .i64 hold), (2, .int .i64 ask), (3, .bool slash), (23, .bool true)] (by first | simp [hg3] | rfl) ?_
        refine OI_static 23 [(0, .int .i64 free), (1, .int .i64 hold), (2, .int .i64 ask), (3, .bool slash), (35, .bool true)] (by kernel_rfl) ?_
        refine OI_end rfl ?_
        refine X_then ?_
        refine V_true rfl ?_
        refine V_seq ?_
        refine V_region ?_
        refine OI_static 1 [(8, .bool true)] (by kernel_rfl) ?_
        refine OI_end rfl ?_
        refine X_then ?_
        refine V_ret ?_
        refine X_ret_then ?_
        exact X_return (.bool true) rfl ⟨rfl, hK0⟩
      · skip
        refine OI_eq [(0, .int .i64 free), (1, .int .i64 hold), (2, .int .i64 ask), (3, .bool slash), (23, .bool false)] (by first | simp [hg3] | rfl) ?_
        refine OI_static 16 [(0, .int .i64 free), (1, .int .i64 hold), (2, .int .i64 ask), (3, .bool slash), (28, .bool (decide (hold > free)))] (by kernel_rfl) ?_
        by_cases hg4 : hold > free
        · skip
          refine OI_eq [(0, .int .i64 free), (1, .int .i64 hold), (2, .int .i64 ask), (3, .bool slash), (28, .bool true)] (by first | simp [hg4] | rfl) ?_
          refine OI_static 23 [(0, .int .i64 free), (1, .int .i64 hold), (2, .int .i64 ask), (3, .bool slash), (35, .bool true)] (by kernel_rfl) ?_
          refine OI_end rfl ?_
          refine X_then ?_
          refine V_true rfl ?_
          refine V_seq ?_
          refine V_region ?_
          refine OI_static 1 [(8, .bool true)] (by kernel_rfl) ?_
          refine OI_end rfl ?_
          refine X_then ?_
          refine V_ret ?_
          refine X_ret_then ?_
          exact X_return (.bool true) rfl ⟨rfl, hK0⟩
        · skip
          refine OI_eq [(0, .int .i64 free), (1, .int .i64 hold), (2, .int .i64 ask), (3, .bool slash), (28, .bool false)] (by first | simp [hg4] | rfl) ?_
          refine OI_static 20 [(0, .int .i64 free), (1, .int .i64 hold), (2, .int .i64 ask), (3, .bool slash), (32, .bool (decide (ask < 0)))] (by kernel_rfl) ?_
          by_cases hg5 : ask < 0
          · skip
            refine OI_eq [(0, .int .i64 free), (1, .int .i64 hold), (2, .int .i64 ask), (3, .bool slash), (32, .bool true)] (by first | simp [hg5] | rfl) ?_
            refine OI_static 23 [(0, .int .i64 free), (1, .int .i64 hold), (2, .int .i64 ask), (3, .bool slash), (35, .bool true)] (by kernel_rfl) ?_
            refine OI_end rfl ?_
            refine X_then ?_
            refine V_true rfl ?_
            refine V_seq ?_
            refine V_region ?_
            refine OI_static 1 [(8, .bool true)] (by kernel_rfl) ?_
            refine OI_end rfl ?_
            refine X_then ?_
            refine V_ret ?_
            refine X_ret_then ?_
            exact X_return (.bool true) rfl ⟨rfl, hK0⟩
          · skip
            refine OI_eq [(0, .int .i64 free), (1, .int .i64 hold), (2, .int .i64 ask), (3, .bool slash), (32, .bool false)] (by first | simp [hg5] | rfl) ?_
            refine OI_static 23 [(0, .int .i64 free), (1, .int .i64 hold), (2, .int .i64 ask), (3, .bool slash), (35, .bool (decide (ask > 1073741824)))] (by kernel_rfl) ?_
            refine OI_end rfl ?_
            refine X_then ?_
            refine V_if (ask > 1073741824) (by kernel_rfl) (fun hc6 => ?_) (fun hc6 => ?_)
            · skip
              refine V_seq ?_
              refine V_region ?_
              refine OI_static 1 [(8, .bool true)] (by kernel_rfl) ?_
              refine OI_end rfl ?_
              refine X_then ?_
              refine V_ret ?_
              refine X_ret_then ?_
              exact X_return (.bool true) rfl ⟨rfl, hK0⟩
            · skip
              refine V_skip ?_
              refine X_then ?_
              refine V_seq ?_
              refine V_region ?_
              refine OI_static 1 [(0, .int .i64 free), (1, .int .i64 hold), (2, .int .i64 ask), (3, .bool slash), (37, .int .i64 free)] (by kernel_rfl) ?_
              refine OI_slit (E := 3) (zv := .int .i64 0) (sz := 1) (by_ := 8) 26 2 #[(0, (Operand.const (Value.int IntKind.i64 0))), (1, (Operand.tmp 37))] [.int .i64 0, .int .i64 free] [.int .i64 0, .int .i64 free] (some 38) (by kernel_rfl) (by kernel_rfl) (by kernel_rfl) (by omega) rfl (by omega) (by intro v hv; simp only [List.mem_cons, List.not_mem_nil, or_false] at hv; rcases hv with rfl | rfl <;> rfl) (by kernel_rfl) rfl ?_
              intro b7 w7 e7 hb7 k7 z7
              have hsz8 := Keep.size k7
              replace hK0 := Keep.tr hK0 (Keep.ofNone k7); have hzhK0 := Keep.size hK0
              have hb7lt := hb7.lt
              have hmb := imin_bnd hold ask (by omega) (by omega)
              refine OI_call { callee := (Callee.value (Operand.func 14)), args := #[(Operand.tmp 38)], argTypes := #[26] } 14 #[.slice (some ⟨b7, 0, none⟩) 2 2] (some 39) (by kernel_rfl) (by kernel_rfl) (by kernel_rfl) (new_ok (some ⟨b7, 0, none⟩) 2 [0, free] _ (slt_blk (xs := [0, free]) (f := intc) hb7 (fun _ => rfl) rfl).arg (by simp) (two_ok (by omega) (by omega) (by omega))) ?_
              rintro _ w9 ⟨l11, F12, rfl, ho13, hk10, hge14⟩
              refine ⟨_, rfl, ?_⟩
              have hsz15 := Keep.size hk10
              replace hb7 := hb7.keep hk10 (fun f => f)
              have hb7lt := hb7.lt
              replace hK0 := Keep.tr hK0 (Keep.ofNone hk10); have hzhK0 := Keep.size hK0
              have own16 : ∀ q, F12 q → w7.heap.size ≤ q ∧ q ≠ b7 := fun q hq => by have h1 := hge14 q hq; omega
              have lt17 := Led.lt ho13
              have hl11lt : l11 < w9.heap.size := Led.lt ho13 _ (Led.at_ ho13)
              have hl11ge := hge14 _ (Led.at_ ho13)
              rw [new_two] at ho13
              refine OI_static 8 [(0, .int .i64 free), (1, .int .i64 hold), (2, .int .i64 ask), (3, .bool slash), (9, .pointer (some ⟨l11, 0, none⟩)), (10, .int .i64 0)] (by kernel_rfl) ?_
              refine OI_end rfl ?_
              refine X_then ?_
              refine V_seq ?_
              refine V_seq ?_
              refine V_region ?_
              refine OI_static 9 [(0, .int .i64 free), (1, .int .i64 hold), (2, .int .i64 ask), (3, .bool slash), (9, .pointer (some ⟨l11, 0, none⟩)), (48, .bool false), (49, .pointer (some ⟨l11, 0, none⟩)), (50, .int .i64 hold)] (by kernel_rfl) ?_
              have hsp := sp_two (a := Acc.mk 0 0) (b := Acc.mk free 0) (n := hold) (by omega) (by show hold ≤ free; omega) (by show free ≤ 1073741824; omega)
              refine OI_call { callee := (Callee.value (Operand.func 21)), args := #[(Operand.tmp 49), (Operand.const (Value.int IntKind.i64 1)), (Operand.tmp 50)], argTypes := #[22, 3, 3] } 21 #[.pointer (some ⟨l11, 0, none⟩), .int .i64 1, .int .i64 hold] (some 51) (by kernel_rfl) (by kernel_rfl) (by kernel_rfl) (reserve_spec F12 l11 (two (Acc.mk 0 0) (Acc.mk free 0)) ([] : List Ci) 1 hold _ ho13) ?_
              rintro _ w20 ⟨rfl, ⟨F22, ho23, hfr24⟩, hk21⟩
              refine ⟨_, rfl, ?_⟩
              have hsz25 := Keep.size hk21
              replace hb7 := hb7.keep hk21 (fun hs => by have h1 := own16 _ hs; have h2 := lt17 _ hs; omega)
              have hb7lt := hb7.lt
              replace hK0 := Keep.fresh hK0 hk21 (by intro i hi hs; first | exact hs | (exfalso; have h1 := own16 i hs; have h2 := lt17 i hs; omega) | (have h1 := own16 i hs; have h2 := lt17 i hs; show _ ∨ _; omega)); have hzhK0 := Keep.size hK0
              have own27 : ∀ q, F22 q → w7.heap.size ≤ q ∧ q ≠ b7 := fun q hq => by rcases hfr24 q hq with h | h; (have h1 := own16 q h; have h2 := lt17 q h; omega); omega
              have lt26 := Led.lt ho23
              rw [show resX (two (Acc.mk 0 0) (Acc.mk free 0)) ([] : List Ci) 1 hold = two (Acc.mk 0 0) (Acc.mk (free - hold) hold) from by unfold resX; rw [if_pos hsp]; unfold addH subF; simp [acct_two1, set_two1]] at ho23
              refine OI_pick [(0, .int .i64 free), (1, .int .i64 hold), (2, .int .i64 ask), (3, .bool slash), (9, .pointer (some ⟨l11, 0, none⟩)), (48, .bool false), (51, .int .i64 (spendsE (two (Acc.mk 0 0) (Acc.mk free 0)) ([] : List Ci) 1 hold))] (by kernel_rfl) ?_
              refine OI_eq [(0, .int .i64 free), (1, .int .i64 hold), (2, .int .i64 ask), (3, .bool slash), (9, .pointer (some ⟨l11, 0, none⟩)), (48, .bool false), (51, .int .i64 0)] (by rw [hsp]) ?_
              refine OI_static 12 [(0, .int .i64 free), (1, .int .i64 hold), (2, .int .i64 ask), (3, .bool slash), (9, .pointer (some ⟨l11, 0, none⟩)), (53, .bool false)] (by kernel_rfl) ?_
              refine OI_end rfl ?_
              refine X_then ?_
              refine V_false rfl ?_
              refine V_skip ?_
              refine X_then ?_
              refine V_seq ?_
              refine V_region ?_
              refine OI_static 1 [(0, .int .i64 free), (1, .int .i64 hold), (2, .int .i64 ask), (3, .bool slash), (9, .pointer (some ⟨l11, 0, none⟩))] (by kernel_rfl) ?_
              refine OI_end rfl ?_
              refine X_then ?_
              refine V_seq ?_
              refine V_seq ?_
              refine V_region ?_
              refine OI_static 1 [(0, .int .i64 free), (1, .int .i64 hold), (2, .int .i64 ask), (3, .bool slash), (9, .pointer (some ⟨l11, 0, none⟩)), (54, .bool slash)] (by kernel_rfl) ?_
              refine OI_end rfl ?_
              refine X_then ?_
              refine V_ifb (slash) (by kernel_rfl) (fun hc28 => ?_) (fun hc28 => ?_)
              · skip
                refine V_region ?_
                refine OI_static 2 [(0, .int .i64 free), (1, .int .i64 hold), (2, .int .i64 ask), (3, .bool slash), (9, .pointer (some ⟨l11, 0, none⟩)), (55, .pointer (some ⟨l11, 0, none⟩)), (56, .int .i64 ask)] (by kernel_rfl) ?_
                refine OI_call { callee := (Callee.value (Operand.func 26)), args := #[(Operand.tmp 55), (Operand.const (Value.int IntKind.i64 1)), (Operand.tmp 56)], argTypes := #[22, 3, 3] } 26 #[.pointer (some ⟨l11, 0, none⟩), .int .i64 1, .int .i64 ask] (some 57) (by kernel_rfl) (by kernel_rfl) (by kernel_rfl) (slash_spec F22 l11 (two (Acc.mk 0 0) (Acc.mk (free - hold) hold)) ([] : List Ci) 1 ask _ ho23) ?_
                rintro _ w31 ⟨rfl, ⟨F33, ho34, hfr35⟩, hk32⟩
                refine ⟨_, rfl, ?_⟩
                have hsz36 := Keep.size hk32
                replace hb7 := hb7.keep hk32 (fun hs => by have h1 := own27 _ hs; have h2 := lt26 _ hs; omega)
                have hb7lt := hb7.lt
                replace hK0 := Keep.fresh hK0 hk32 (by intro i hi hs; first | exact hs | (exfalso; have h1 := own27 i hs; have h2 := lt26 i hs; omega) | (have h1 := own27 i hs; have h2 := lt26 i hs; show _ ∨ _; omega)); have hzhK0 := Keep.size hK0
                have own38 : ∀ q, F33 q → w7.heap.size ≤ q ∧ q ≠ b7 := fun q hq => by rcases hfr35 q hq with h | h; (have h1 := own27 q h; have h2 := lt26 q h; omega); omega
                have lt37 := Led.lt ho34
                rw [sl_two (by omega) (by omega)] at ho34
                refine OI_pick [(0, .int .i64 free), (1, .int .i64 hold), (2, .int .i64 ask), (3, .bool slash), (9, .pointer (some ⟨l11, 0, none⟩)), (57, .int .i64 (tkN (two (Acc.mk 0 0) (Acc.mk (free - hold) hold)) 1 ask))] (by kernel_rfl) ?_
                refine OI_eq [(0, .int .i64 free), (1, .int .i64 hold), (2, .int .i64 ask), (3, .bool slash), (9, .pointer (some ⟨l11, 0, none⟩)), (57, .int .i64 (imin hold ask))] (by rw [(tk_two (a := Acc.mk 0 0) (b := Acc.mk (free - hold) hold) (n := ask) (by omega) (by show 0 ≤ hold; omega)).1]) ?_
                refine OI_static 4 [(0, .int .i64 free), (1, .int .i64 hold), (2, .int .i64 ask), (3, .bool slash), (9, .pointer (some ⟨l11, 0, none⟩)), (11, .int .i64 (imin hold ask))] (by kernel_rfl) ?_
                refine OI_end rfl ?_
                refine X_then ?_
                refine V_seq ?_
                refine V_region ?_
                refine OI_static 4 [(0, .int .i64 free), (1, .int .i64 hold), (3, .bool slash), (9, .pointer (some ⟨l11, 0, none⟩)), (11, .int .i64 (imin hold ask)), (12, .int .i64 (imin hold ask))] (by kernel_rfl) ?_
                refine OI_end rfl ?_
                refine X_then ?_
                refine V_seq ?_
                refine V_seq ?_
                refine V_region ?_
                refine OI_static 4 [(0, .int .i64 free), (1, .int .i64 hold), (3, .bool slash), (9, .pointer (some ⟨l11, 0, none⟩)), (12, .int .i64 (imin hold ask)), (67, .bool (!(decide (imin hold ask = imin hold ask))))] (by kernel_rfl) ?_
                refine OI_eq [(0, .int .i64 free), (1, .int .i64 hold), (3, .bool slash), (9, .pointer (some ⟨l11, 0, none⟩)), (12, .int .i64 (imin hold ask)), (67, .bool false)] (by rw [decide_eq_true (by omega : imin hold ask = imin hold ask)]; rfl) ?_
                refine OI_static 5 [(0, .int .i64 free), (1, .int .i64 hold), (3, .bool slash), (9, .pointer (some ⟨l11, 0, none⟩)), (12, .int .i64 (imin hold ask)), (67, .bool false), (68, .pointer (some ⟨l11, 0, none⟩))] (by kernel_rfl) ?_
                refine OI_call { callee := (Callee.value (Operand.func 22)), args := #[(Operand.tmp 68), (Operand.const (Value.int IntKind.i64 1))], argTypes := #[22, 3] } 22 #[.pointer (some ⟨l11, 0, none⟩), .int .i64 1] (some 69) (by kernel_rfl) (by kernel_rfl) (by kernel_rfl) (held_spec F33 l11 (two (Acc.mk (imin hold ask) 0) (Acc.mk (free - hold) (hold - imin hold ask))) ([] : List Ci) 1 _ ho34) ?_
                rintro _ w40 ⟨rfl, hk41⟩
                refine ⟨_, rfl, ?_⟩
                have hsz42 := Keep.size hk41
                replace hb7 := hb7.keep hk41 (fun f => f)
                have hb7lt := hb7.lt
                replace hK0 := Keep.tr hK0 (Keep.ofNone hk41); have hzhK0 := Keep.size hK0
                replace ho34 := Led.keep ho34 hk41 (fun _ _ f => f)
                refine OI_pick [(0, .int .i64 free), (1, .int .i64 hold), (3, .bool slash), (9, .pointer (some ⟨l11, 0, none⟩)), (12, .int .i64 (imin hold ask)), (67, .bool false), (69, .int .i64 ((acct (two (Acc.mk (imin hold ask) 0) (Acc.mk (free - hold) (hold - imin hold ask))) 1).held))] (by kernel_rfl) ?_
                refine OI_eq [(0, .int .i64 free), (1, .int .i64 hold), (3, .bool slash), (9, .pointer (some ⟨l11, 0, none⟩)), (12, .int .i64 (imin hold ask)), (67, .bool false), (69, .int .i64 (hold - imin hold ask))] (by rfl) ?_
                have hw43 : IntKind.i64.wrap (hold - (imin hold ask)) = hold - (imin hold ask) := (wrap64_id (by omega) (by omega)).trans (by omega)
                refine OI_static 9 [(0, .int .i64 free), (1, .int .i64 hold), (3, .bool slash), (9, .pointer (some ⟨l11, 0, none⟩)), (12, .int .i64 (imin hold ask)), (67, .bool false), (69, .int .i64 (hold - imin hold ask)), (72, .int .i64 (IntKind.i64.wrap (hold - (imin hold ask))))] (by kernel_rfl) ?_
                refine OI_eq [(0, .int .i64 free), (1, .int .i64 hold), (3, .bool slash), (9, .pointer (some ⟨l11, 0, none⟩)), (12, .int .i64 (imin hold ask)), (67, .bool false), (69, .int .i64 (hold - imin hold ask)), (72, .int .i64 (hold - (imin hold ask)))] (by rw [hw43]) ?_
                refine OI_static 11 [(0, .int .i64 free), (1, .int .i64 hold), (3, .bool slash), (9, .pointer (some ⟨l11, 0, none⟩)), (12, .int .i64 (imin hold ask)), (74, .bool (!(decide (hold - imin hold ask = hold - (imin hold ask)))))] (by kernel_rfl) ?_
                refine OI_end rfl ?_
                refine X_then ?_
                refine V_eq [(0, .int .i64 free), (1, .int .i64 hold), (3, .bool slash), (9, .pointer (some ⟨l11, 0, none⟩)), (12, .int .i64 (imin hold ask)), (74, .bool false)] (by rw [decide_eq_true (by omega : hold - imin hold ask = hold - (imin hold ask))]; rfl) ?_
                refine V_false rfl ?_
                refine V_skip ?_
                refine X_then ?_
                refine V_seq ?_
                refine V_seq ?_
                refine V_region ?_
                refine OI_static 1 [(0, .int .i64 free), (1, .int .i64 hold), (9, .pointer (some ⟨l11, 0, none⟩)), (12, .int .i64 (imin hold ask)), (75, .bool slash)] (by kernel_rfl) ?_
                refine OI_end rfl ?_
                refine X_then ?_
                refine V_eq [(0, .int .i64 free), (1, .int .i64 hold), (9, .pointer (some ⟨l11, 0, none⟩)), (12, .int .i64 (imin hold ask)), (75, .bool true)] (by rw [hc28]) ?_
                refine V_true rfl ?_
                refine V_seq ?_
                refine V_region ?_
                refine OI_static 1 [(0, .int .i64 free), (1, .int .i64 hold), (9, .pointer (some ⟨l11, 0, none⟩)), (12, .int .i64 (imin hold ask)), (76, .pointer (some ⟨l11, 0, none⟩))] (by kernel_rfl) ?_
                refine OI_call { callee := (Callee.value (Operand.func 20)), args := #[(Operand.tmp 76), (Operand.const (Value.int IntKind.i64 1))], argTypes := #[22, 3] } 20 #[.pointer (some ⟨l11, 0, none⟩), .int .i64 1] (some 77) (by kernel_rfl) (by kernel_rfl) (by kernel_rfl) (free_spec F33 l11 (two (Acc.mk (imin hold ask) 0) (Acc.mk (free - hold) (hold - imin hold ask))) ([] : List Ci) 1 _ ho34) ?_
                rintro _ w46 ⟨rfl, hk47⟩
                refine ⟨_, rfl, ?_⟩
                have hsz48 := Keep.size hk47
                replace hb7 := hb7.keep hk47 (fun f => f)
                have hb7lt := hb7.lt
                replace hK0 := Keep.tr hK0 (Keep.ofNone hk47); have hzhK0 := Keep.size hK0
                replace ho34 := Led.keep ho34 hk47 (fun _ _ f => f)
                refine OI_pick [(0, .int .i64 free), (1, .int .i64 hold), (9, .pointer (some ⟨l11, 0, none⟩)), (12, .int .i64 (imin hold ask)), (77, .int .i64 ((acct (two (Acc.mk (imin hold ask) 0) (Acc.mk (free - hold) (hold - imin hold ask))) 1).free))] (by kernel_rfl) ?_
                refine OI_eq [(0, .int .i64 free), (1, .int .i64 hold), (9, .pointer (some ⟨l11, 0, none⟩)), (12, .int .i64 (imin hold ask)), (77, .int .i64 (free - hold))] (by rfl) ?_
                have hw49 : IntKind.i64.wrap (free - hold) = free - hold := (wrap64_id (by omega) (by omega)).trans (by omega)
                refine OI_static 5 [(9, .pointer (some ⟨l11, 0, none⟩)), (12, .int .i64 (imin hold ask)), (77, .int .i64 (free - hold)), (80, .int .i64 (IntKind.i64.wrap (free - hold)))] (by kernel_rfl) ?_
                refine OI_eq [(9, .pointer (some ⟨l11, 0, none⟩)), (12, .int .i64 (imin hold ask)), (77, .int .i64 (free - hold)), (80, .int .i64 (free - hold))] (by rw [hw49]) ?_
                refine OI_static 7 [(9, .pointer (some ⟨l11, 0, none⟩)), (12, .int .i64 (imin hold ask)), (82, .bool (decide (free - hold = free - hold)))] (by kernel_rfl) ?_
                refine OI_eq [(9, .pointer (some ⟨l11, 0, none⟩)), (12, .int .i64 (imin hold ask)), (82, .bool true)] (by rw [decide_eq_true (by omega : free - hold = free - hold)]) ?_
                refine OI_static 8 [(12, .int .i64 (imin hold ask)), (82, .bool true), (83, .pointer (some ⟨l11, 0, none⟩))] (by kernel_rfl) ?_
                refine OI_call { callee := (Callee.value (Operand.func 20)), args := #[(Operand.tmp 83), (Operand.const (Value.int IntKind.i64 0))], argTypes := #[22, 3] } 20 #[.pointer (some ⟨l11, 0, none⟩), .int .i64 0] (some 84) (by kernel_rfl) (by kernel_rfl) (by kernel_rfl) (free_spec F33 l11 (two (Acc.mk (imin hold ask) 0) (Acc.mk (free - hold) (hold - imin hold ask))) ([] : List Ci) 0 _ ho34) ?_
                rintro _ w51 ⟨rfl, hk52⟩
                refine ⟨_, rfl, ?_⟩
                have hsz53 := Keep.size hk52
                replace hb7 := hb7.keep hk52 (fun f => f)
                have hb7lt := hb7.lt
                replace hK0 := Keep.tr hK0 (Keep.ofNone hk52); have hzhK0 := Keep.size hK0
                replace ho34 := Led.keep ho34 hk52 (fun _ _ f => f)
                refine OI_pick [(12, .int .i64 (imin hold ask)), (82, .bool true), (84, .int .i64 ((acct (two (Acc.mk (imin hold ask) 0) (Acc.mk (free - hold) (hold - imin hold ask))) 0).free))] (by kernel_rfl) ?_
                refine OI_eq [(12, .int .i64 (imin hold ask)), (82, .bool true), (84, .int .i64 (imin hold ask))] (by rfl) ?_
                refine OI_static 13 [(88, .bool (decide (imin hold ask = imin hold ask)))] (by kernel_rfl) ?_
                refine OI_eq [(88, .bool true)] (by rw [decide_eq_true (by omega : imin hold ask = imin hold ask)]) ?_
                refine OI_call { callee := (Callee.value (Operand.func 18)), args := #[], argTypes := #[] } 18 #[] (some 89) (by kernel_rfl) (by kernel_rfl) (by kernel_rfl) (known_spec _) ?_
                rintro _ w55 ⟨rfl, hk56⟩
                refine ⟨_, rfl, ?_⟩
                have hsz57 := Keep.size hk56
                replace hb7 := hb7.keep hk56 (fun f => f)
                have hb7lt := hb7.lt
                replace hK0 := Keep.tr hK0 (Keep.ofNone hk56); have hzhK0 := Keep.size hK0
                replace ho34 := Led.keep ho34 hk56 (fun _ _ f => f)
                refine OI_static 16 [(8, .bool true)] (by kernel_rfl) ?_
                refine OI_end rfl ?_
                refine X_then ?_
                refine V_ret ?_
                refine X_ret_then ?_
                exact X_return (.bool true) rfl ⟨rfl, hK0⟩
              · skip
                refine V_region ?_
                refine OI_static 2 [(0, .int .i64 free), (1, .int .i64 hold), (2, .int .i64 ask), (3, .bool slash), (9, .pointer (some ⟨l11, 0, none⟩)), (58, .pointer (some ⟨l11, 0, none⟩)), (59, .int .i64 ask)] (by kernel_rfl) ?_
                refine OI_call { callee := (Callee.value (Operand.func 27)), args := #[(Operand.tmp 58), (Operand.const (Value.int IntKind.i64 1)), (Operand.tmp 59)], argTypes := #[22, 3, 3] } 27 #[.pointer (some ⟨l11, 0, none⟩), .int .i64 1, .int .i64 ask] (some 60) (by kernel_rfl) (by kernel_rfl) (by kernel_rfl) (release_spec F22 l11 (two (Acc.mk 0 0) (Acc.mk (free - hold) hold)) ([] : List Ci) 1 ask _ ho23) ?_
                rintro _ w60 ⟨rfl, ⟨F62, ho63, hfr64⟩, hk61⟩
                refine ⟨_, rfl, ?_⟩
                have hsz65 := Keep.size hk61
                replace hb7 := hb7.keep hk61 (fun hs => by have h1 := own27 _ hs; have h2 := lt26 _ hs; omega)
                have hb7lt := hb7.lt
                replace hK0 := Keep.fresh hK0 hk61 (by intro i hi hs; first | exact hs | (exfalso; have h1 := own27 i hs; have h2 := lt26 i hs; omega) | (have h1 := own27 i hs; have h2 := lt26 i hs; show _ ∨ _; omega)); have hzhK0 := Keep.size hK0
                have own67 : ∀ q, F62 q → w7.heap.size ≤ q ∧ q ≠ b7 := fun q hq => by rcases hfr64 q hq with h | h; (have h1 := own27 q h; have h2 := lt26 q h; omega); omega
                have lt66 := Led.lt ho63
                rw [rl_two (by omega) (by omega)] at ho63
                refine OI_pick [(0, .int .i64 free), (1, .int .i64 hold), (2, .int .i64 ask), (3, .bool slash), (9, .pointer (some ⟨l11, 0, none⟩)), (60, .int .i64 (tkN (two (Acc.mk 0 0) (Acc.mk (free - hold) hold)) 1 ask))] (by kernel_rfl) ?_
                refine OI_eq [(0, .int .i64 free), (1, .int .i64 hold), (2, .int .i64 ask), (3, .bool slash), (9, .pointer (some ⟨l11, 0, none⟩)), (60, .int .i64 (imin hold ask))] (by rw [(tk_two (a := Acc.mk 0 0) (b := Acc.mk (free - hold) hold) (n := ask) (by omega) (by show 0 ≤ hold; omega)).1]) ?_
                refine OI_static 4 [(0, .int .i64 free), (1, .int .i64 hold), (2, .int .i64 ask), (3, .bool slash), (9, .pointer (some ⟨l11, 0, none⟩)), (11, .int .i64 (imin hold ask))] (by kernel_rfl) ?_
                refine OI_end rfl ?_
                refine X_then ?_
                refine V_seq ?_
                refine V_region ?_
                refine OI_static 4 [(0, .int .i64 free), (1, .int .i64 hold), (3, .bool slash), (9, .pointer (some ⟨l11, 0, none⟩)), (11, .int .i64 (imin hold ask)), (12, .int .i64 (imin hold ask))] (by kernel_rfl) ?_
                refine OI_end rfl ?_
                refine X_then ?_
                refine V_seq ?_
                refine V_seq ?_
                refine V_region ?_
                refine OI_static 4 [(0, .int .i64 free), (1, .int .i64 hold), (3, .bool slash), (9, .pointer (some ⟨l11, 0, none⟩)), (12, .int .i64 (imin hold ask)), (67, .bool (!(decide (imin hold ask = imin hold ask))))] (by kernel_rfl) ?_
                refine OI_eq [(0, .int .i64 free), (1, .int .i64 hold), (3, .bool slash), (9, .pointer (some ⟨l11, 0, none⟩)), (12, .int .i64 (imin hold ask)), (67, .bool false)] (by rw [decide_eq_true (by omega : imin hold ask = imin hold ask)]; rfl) ?_
                refine OI_static 5 [(0, .int .i64 free), (1, .int .i64 hold), (3, .bool slash), (9, .pointer (some ⟨l11, 0, none⟩)), (12, .int .i64 (imin hold ask)), (67, .bool false), (68, .pointer (some ⟨l11, 0, none⟩))] (by kernel_rfl) ?_
                refine OI_call { callee := (Callee.value (Operand.func 22)), args := #[(Operand.tmp 68), (Operand.const (Value.int IntKind.i64 1))], argTypes := #[22, 3] } 22 #[.pointer (some ⟨l11, 0, none⟩), .int .i64 1] (some 69) (by kernel_rfl) (by kernel_rfl) (by kernel_rfl) (held_spec F62 l11 (two (Acc.mk 0 0) (Acc.mk (free - hold + imin hold ask) (hold - imin hold ask))) ([] : List Ci) 1 _ ho63) ?_
                rintro _ w69 ⟨rfl, hk70⟩
                refine ⟨_, rfl, ?_⟩
                have hsz71 := Keep.size hk70
                replace hb7 := hb7.keep hk70 (fun f => f)
                have hb7lt := hb7.lt
                replace hK0 := Keep.tr hK0 (Keep.ofNone hk70); have hzhK0 := Keep.size hK0
                replace ho63 := Led.keep ho63 hk70 (fun _ _ f => f)
                refine OI_pick [(0, .int .i64 free), (1, .int .i64 hold), (3, .bool slash), (9, .pointer (some ⟨l11, 0, none⟩)), (12, .int .i64 (imin hold ask)), (67, .bool false), (69, .int .i64 ((acct (two (Acc.mk 0 0) (Acc.mk (free - hold + imin hold ask) (hold - imin hold ask))) 1).held))] (by kernel_rfl) ?_
                refine OI_eq [(0, .int .i64 free), (1, .int .i64 hold), (3, .bool slash), (9, .pointer (some ⟨l11, 0, none⟩)), (12, .int .i64 (imin hold ask)), (67, .bool false), (69, .int .i64 (hold - imin hold ask))] (by rfl) ?_
                have hw72 : IntKind.i64.wrap (hold - (imin hold ask)) = hold - (imin hold ask) := (wrap64_id (by omega) (by omega)).trans (by omega)
                refine OI_static 9 [(0, .int .i64 free), (1, .int .i64 hold), (3, .bool slash), (9, .pointer (some ⟨l11, 0, none⟩)), (12, .int .i64 (imin hold ask)), (67, .bool false), (69, .int .i64 (hold - imin hold ask)), (72, .int .i64 (IntKind.i64.wrap (hold - (imin hold ask))))] (by kernel_rfl) ?_
                refine OI_eq [(0, .int .i64 free), (1, .int .i64 hold), (3, .bool slash), (9, .pointer (some ⟨l11, 0, none⟩)), (12, .int .i64 (imin hold ask)), (67, .bool false), (69, .int .i64 (hold - imin hold ask)), (72, .int .i64 (hold - (imin hold ask)))] (by rw [hw72]) ?_
                refine OI_static 11 [(0, .int .i64 free), (1, .int .i64 hold), (3, .bool slash), (9, .pointer (some ⟨l11, 0, none⟩)), (12, .int .i64 (imin hold ask)), (74, .bool (!(decide (hold - imin hold ask = hold - (imin hold ask)))))] (by kernel_rfl) ?_
                refine OI_end rfl ?_
                refine X_then ?_
                refine V_eq [(0, .int .i64 free), (1, .int .i64 hold), (3, .bool slash), (9, .pointer (some ⟨l11, 0, none⟩)), (12, .int .i64 (imin hold ask)), (74, .bool false)] (by rw [decide_eq_true (by omega : hold - imin hold ask = hold - (imin hold ask))]; rfl) ?_
                refine V_false rfl ?_
                refine V_skip ?_
                refine X_then ?_
                refine V_seq ?_
                refine V_seq ?_
                refine V_region ?_
                refine OI_static 1 [(0, .int .i64 free), (1, .int .i64 hold), (9, .pointer (some ⟨l11, 0, none⟩)), (12, .int .i64 (imin hold ask)), (75, .bool slash)] (by kernel_rfl) ?_
                refine OI_end rfl ?_
                refine X_then ?_
                refine V_eq [(0, .int .i64 free), (1, .int .i64 hold), (9, .pointer (some ⟨l11, 0, none⟩)), (12, .int .i64 (imin hold ask)), (75, .bool false)] (by rw [hc28]) ?_
                refine V_false rfl ?_
                refine V_skip ?_
                refine X_then ?_
                refine V_seq ?_
                refine V_region ?_
                refine OI_static 1 [(0, .int .i64 free), (1, .int .i64 hold), (9, .pointer (some ⟨l11, 0, none⟩)), (12, .int .i64 (imin hold ask)), (91, .pointer (some ⟨l11, 0, none⟩))] (by kernel_rfl) ?_
                refine OI_call { callee := (Callee.value (Operand.func 20)), args := #[(Operand.tmp 91), (Operand.const (Value.int IntKind.i64 1))], argTypes := #[22, 3] } 20 #[.pointer (some ⟨l11, 0, none⟩), .int .i64 1] (some 92) (by kernel_rfl) (by kernel_rfl) (by kernel_rfl) (free_spec F62 l11 (two (Acc.mk 0 0) (Acc.mk (free - hold + imin hold ask) (hold - imin hold ask))) ([] : List Ci) 1 _ ho63) ?_
                rintro _ w75 ⟨rfl, hk76⟩
                refine ⟨_, rfl, ?_⟩
                have hsz77 := Keep.size hk76
                replace hb7 := hb7.keep hk76 (fun f => f)
                have hb7lt := hb7.lt
                replace hK0 := Keep.tr hK0 (Keep.ofNone hk76); have hzhK0 := Keep.size hK0
                replace ho63 := Led.keep ho63 hk76 (fun _ _ f => f)
                refine OI_pick [(0, .int .i64 free), (1, .int .i64 hold), (9, .pointer (some ⟨l11, 0, none⟩)), (12, .int .i64 (imin hold ask)), (92, .int .i64 ((acct (two (Acc.mk 0 0) (Acc.mk (free - hold + imin hold ask) (hold - imin hold ask))) 1).free))] (by kernel_rfl) ?_
                refine OI_eq [(0, .int .i64 free), (1, .int .i64 hold), (9, .pointer (some ⟨l11, 0, none⟩)), (12, .int .i64 (imin hold ask)), (92, .int .i64 (free - hold + imin hold ask))] (by rfl) ?_
                have hw78 : IntKind.i64.wrap (free - hold) = free - hold := (wrap64_id (by omega) (by omega)).trans (by omega)
                refine OI_static 5 [(9, .pointer (some ⟨l11, 0, none⟩)), (12, .int .i64 (imin hold ask)), (92, .int .i64 (free - hold + imin hold ask)), (95, .int .i64 (IntKind.i64.wrap (free - hold)))] (by kernel_rfl) ?_
                refine OI_eq [(9, .pointer (some ⟨l11, 0, none⟩)), (12, .int .i64 (imin hold ask)), (92, .int .i64 (free - hold + imin hold ask)), (95, .int .i64 (free - hold))] (by rw [hw78]) ?_
                have hw79 : IntKind.i64.wrap ((free - hold) + (imin hold ask)) = (free - hold) + (imin hold ask) := (wrap64_id (by omega) (by omega)).trans (by omega)
                refine OI_static 7 [(9, .pointer (some ⟨l11, 0, none⟩)), (92, .int .i64 (free - hold + imin hold ask)), (97, .int .i64 (IntKind.i64.wrap ((free - hold) + (imin hold ask))))] (by kernel_rfl) ?_
                refine OI_eq [(9, .pointer (some ⟨l11, 0, none⟩)), (92, .int .i64 (free - hold + imin hold ask)), (97, .int .i64 ((free - hold) + (imin hold ask)))] (by rw [hw79]) ?_
                refine OI_static 9 [(9, .pointer (some ⟨l11, 0, none⟩)), (99, .bool (decide (free - hold + imin hold ask = (free - hold) + (imin hold ask))))] (by kernel_rfl) ?_
                refine OI_eq [(9, .pointer (some ⟨l11, 0, none⟩)), (99, .bool true)] (by rw [decide_eq_true (by omega : free - hold + imin hold ask = (free - hold) + (imin hold ask))]) ?_
                refine OI_static 10 [(99, .bool true), (100, .pointer (some ⟨l11, 0, none⟩))] (by kernel_rfl) ?_
                refine OI_call { callee := (Callee.value (Operand.func 20)), args := #[(Operand.tmp 100), (Operand.const (Value.int IntKind.i64 0))], argTypes := #[22, 3] } 20 #[.pointer (some ⟨l11, 0, none⟩), .int .i64 0] (some 101) (by kernel_rfl) (by kernel_rfl) (by kernel_rfl) (free_spec F62 l11 (two (Acc.mk 0 0) (Acc.mk (free - hold + imin hold ask) (hold - imin hold ask))) ([] : List Ci) 0 _ ho63) ?_
                rintro _ w81 ⟨rfl, hk82⟩
                refine ⟨_, rfl, ?_⟩
                have hsz83 := Keep.size hk82
                replace hb7 := hb7.keep hk82 (fun f => f)
                have hb7lt := hb7.lt
                replace hK0 := Keep.tr hK0 (Keep.ofNone hk82); have hzhK0 := Keep.size hK0
                replace ho63 := Led.keep ho63 hk82 (fun _ _ f => f)
                refine OI_pick [(99, .bool true), (101, .int .i64 ((acct (two (Acc.mk 0 0) (Acc.mk (free - hold + imin hold ask) (hold - imin hold ask))) 0).free))] (by kernel_rfl) ?_
                refine OI_eq [(99, .bool true), (101, .int .i64 0)] (by rfl) ?_
                refine OI_static 14 [(104, .bool true)] (by kernel_rfl) ?_
                refine OI_call { callee := (Callee.value (Operand.func 18)), args := #[], argTypes := #[] } 18 #[] (some 105) (by kernel_rfl) (by kernel_rfl) (by kernel_rfl) (known_spec _) ?_
                rintro _ w84 ⟨rfl, hk85⟩
                refine ⟨_, rfl, ?_⟩
                have hsz86 := Keep.size hk85
                replace hb7 := hb7.keep hk85 (fun f => f)
                have hb7lt := hb7.lt
                replace hK0 := Keep.tr hK0 (Keep.ofNone hk85); have hzhK0 := Keep.size hK0
                replace ho63 := Led.keep ho63 hk85 (fun _ _ f => f)
                refine OI_static 17 [(8, .bool true)] (by kernel_rfl) ?_
                refine OI_end rfl ?_
                refine X_then ?_
                refine V_ret ?_
                exact X_return (.bool true) rfl ⟨rfl, hK0⟩
end Go.Al
