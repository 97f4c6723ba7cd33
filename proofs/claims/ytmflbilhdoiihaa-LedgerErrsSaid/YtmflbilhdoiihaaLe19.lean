/-
  Walks of the laws of ledger: what errs.
-/
import Derived.Test.YtmflbilhdoiihaaLe16
namespace Go.Al
open Go Go.RowKit Go.Proofs
/-! ### What errs changes nothing -/
def arrL (f : Acc → Int) (X : List Acc) (j : Nat) : List Value := (List.range 10).map fun k : Nat => .int .i64 (if k < j then f (acct X (k : Int)) else 0)
theorem arrL_len (f : Acc → Int) (X : List Acc) (j : Nat) : (arrL f X j).length = 10 := by simp [arrL]
theorem arrL_0 (f : Acc → Int) (X : List Acc) : arrL f X 0 = [.int .i64 0, .int .i64 0, .int .i64 0, .int .i64 0, .int .i64 0, .int .i64 0, .int .i64 0, .int .i64 0, .int .i64 0, .int .i64 0] := rfl
theorem arrL_get (f : Acc → Int) (X : List Acc) {j : Nat} (h : j < 10) : (arrL f X 10)[0 + j * 1]? = some (.int .i64 (f (acct X (j : Int)))) := by simp [arrL, h]
theorem arrL_put (f : Acc → Int) (X : List Acc) {j : Nat} (h : j < 10) : over (arrL f X j) (0 + j * 1) [.int .i64 (f (acct X (j : Int)))] = arrL f X (j + 1) := by
  unfold over
  apply List.ext_getElem?
  intro k
  have hl : ((arrL f X j).take (0 + j * 1)).length = j := by simp [arrL_len]; omega
  rcases Nat.lt_trichotomy k j with hk | hk | hk
  · rw [List.append_assoc, List.getElem?_append_left (by omega), List.getElem?_take, if_pos (by omega)]
    simp only [arrL, List.getElem?_map, List.getElem?_range (show k < 10 by omega), Option.map_some]
    rw [if_pos hk, if_pos (by omega)]
  · subst hk
    rw [List.append_assoc, List.getElem?_append_right (by omega), hl, Nat.sub_self]
    simp only [arrL, List.getElem?_map, List.getElem?_range h, Option.map_some, List.cons_append, List.getElem?_cons_zero]
    rw [if_pos (by omega)]
  · rw [List.getElem?_append_right (by simp [hl]; omega), List.getElem?_drop]
    simp only [List.length_append, hl, List.length_cons, List.length_nil]
    rw [show 0 + j * 1 + (0 + 1) + (k - (j + (0 + 1))) = k by omega]
    by_cases hk2 : k < 10
    · simp only [arrL, List.getElem?_map, List.getElem?_range hk2, Option.map_some]
      rw [if_neg (by omega), if_neg (by omega)]
    · rw [List.getElem?_eq_none (by rw [arrL_len]; omega), List.getElem?_eq_none (by rw [arrL_len]; omega)]
theorem trans_err {X : List Acc} {C : List Ci} {a b n : Int} (h : transE X C a b n ≠ 0) : transX X C a b n = X := by
  unfold transX
  rw [if_neg]
  rintro ⟨h1, h2⟩
  exact h (by unfold transE; rw [if_neg (by rw [h1]; decide), h2]; rfl)
theorem res_err {X : List Acc} {C : List Ci} {a n : Int} (h : spendsE X C a n ≠ 0) : resX X C a n = X ∧ burnX X C a n = X := by
  unfold resX burnX
  exact ⟨if_neg h, if_neg h⟩
theorem mint_err {X : List Acc} {a n : Int} (h : mintE X a n ≠ 0) : mintX X a n = X := by unfold mintX; exact if_neg h

set_option maxHeartbeats 4000000 in
set_option maxRecDepth 10000 in
theorem walk_LedgerErrs (z : Ac4) (A B : Option Addr) (cap capb : Nat) (fs : List Int) (xs : List Ac4) (w : World) (hA0 : ArgT w 1 intc A cap fs) (hB0 : ArgT w 4 Ac4.cells B capb xs) (hcap : fs.length ≤ 9223372036854775807) (hcapb : xs.length ≤ 9223372036854775807) : Calls Try.prog 8 #[.slice A fs.length cap, .slice B xs.length capb, .agg z.cells.toArray] w fun e w' => e = .returned (.bool true) ∧ Keep none_ w w' := by
  have hA := hA0
  have hB := hB0
  have hK0 : Keep none_ w w := Keep.refl _ _
  have hzhK0 := Keep.size hK0
  refine enterV Try.func8 rfl [.slice A fs.length cap, .slice B xs.length capb, .agg (Ac4.cells z).toArray] 128 rfl rfl rfl ?_
  refine V_pick [(0, .slice A fs.length cap), (1, .slice B xs.length capb), (2, .agg (Ac4.cells z).toArray)] rfl ?_
  refine V_seq ?_
  refine V_region ?_
  refine OI_box 40 (.tmp 2) (.agg (Ac4.cells z).toArray) (Ac4.cells z) (some 5) (by kernel_rfl) (by kernel_rfl) rfl ?_
  intro b1 w1 e1 hb1 k1 z1
  have hsz2 := Keep.size k1
  replace hA := ArgT.keep0 hA k1
  replace hB := ArgT.keep0 hB k1
  replace hK0 := Keep.tr hK0 (Keep.ofNone k1); have hzhK0 := Keep.size hK0
  have hb1lt := hb1.lt
  refine OI_static 2 [(0, .slice A fs.length cap), (1, .slice B xs.length capb), (5, .pointer (some ⟨b1, 0, none⟩))] (by kernel_rfl) ?_
  refine OI_end rfl ?_
  refine X_then ?_
  refine V_seq ?_
  refine V_seq ?_
  refine V_region ?_
  refine OI_static 4 [(0, .slice A fs.length cap), (1, .slice B xs.length capb), (5, .pointer (some ⟨b1, 0, none⟩)), (17, .bool (decide (((fs.length : Nat) : Int) > 10)))] (by kernel_rfl) ?_
  by_cases hg3 : ((fs.length : Nat) : Int) > 10
  · skip
    refine OI_eq [(0, .slice A fs.length cap), (1, .slice B xs.length capb), (5, .pointer (some ⟨b1, 0, none⟩)), (17, .bool true)] (by first | simp [hg3] | rfl) ?_
    refine OI_static 8 [(0, .slice A fs.length cap), (1, .slice B xs.length capb), (5, .pointer (some ⟨b1, 0, none⟩)), (21, .bool true)] (by kernel_rfl) ?_
    refine OI_end rfl ?_
    refine X_then ?_
    refine V_true rfl ?_
    refine V_seq ?_
    refine V_region ?_
    refine OI_static 1 [(6, .bool true)] (by kernel_rfl) ?_
    refine OI_end rfl ?_
    refine X_then ?_
    refine V_ret ?_
    refine X_ret_then ?_
    exact X_return (.bool true) rfl ⟨rfl, hK0⟩
  · skip
    refine OI_eq [(0, .slice A fs.length cap), (1, .slice B xs.length capb), (5, .pointer (some ⟨b1, 0, none⟩)), (17, .bool false)] (by first | simp [hg3] | rfl) ?_
    refine OI_static 8 [(0, .slice A fs.length cap), (1, .slice B xs.length capb), (5, .pointer (some ⟨b1, 0, none⟩)), (21, .bool (decide (((xs.length : Nat) : Int) > 10000)))] (by kernel_rfl) ?_
    refine OI_end rfl ?_
    refine X_then ?_
    refine V_if (((xs.length : Nat) : Int) > 10000) (by kernel_rfl) (fun hc4 => ?_) (fun hc4 => ?_)
    · skip
      refine V_seq ?_
      refine V_region ?_
      refine OI_static 1 [(6, .bool true)] (by kernel_rfl) ?_
      refine OI_end rfl ?_
      refine X_then ?_
      refine V_ret ?_
      refine X_ret_then ?_
      exact X_return (.bool true) rfl ⟨rfl, hK0⟩
    · skip
      refine V_skip ?_
      refine X_then ?_
      refine V_seq ?_
      refine V_region ?_
      refine OI_static 1 [(1, .slice B xs.length capb), (5, .pointer (some ⟨b1, 0, none⟩)), (22, .slice A fs.length cap)] (by kernel_rfl) ?_
      refine OI_call { callee := (Callee.value (Operand.func 25)), args := #[(Operand.tmp 22)], argTypes := #[26] } 25 #[.slice A fs.length cap] (some 23) (by kernel_rfl) (by kernel_rfl) (by kernel_rfl) (begin_spec A cap fs _ hA (by omega)) ?_
      rintro _ w5 ⟨l7, F8, rfl, ho9, hk6, hge10⟩
      refine ⟨_, rfl, ?_⟩
      have hsz11 := Keep.size hk6
      replace hb1 := hb1.keep hk6 (fun f => f)
      have hb1lt := hb1.lt
      replace hA := ArgT.keep0 hA hk6
      replace hB := ArgT.keep0 hB hk6
      replace hK0 := Keep.tr hK0 (Keep.ofNone hk6); have hzhK0 := Keep.size hK0
      have own12 : ∀ q, F8 q → w1.heap.size ≤ q ∧ q ≠ b1 := fun q hq => by have h1 := hge10 q hq; omega
      have lt13 := Led.lt ho9
      have hl7lt : l7 < w5.heap.size := Led.lt ho9 _ (Led.at_ ho9)
      have hl7ge := hge10 _ (Led.at_ ho9)
      refine OI_static 3 [(1, .slice B xs.length capb), (5, .pointer (some ⟨b1, 0, none⟩)), (7, .pointer (some ⟨l7, 0, none⟩))] (by kernel_rfl) ?_
      refine OI_end rfl ?_
      refine X_then ?_
      refine V_seq ?_
      refine V_seq ?_
      refine V_region ?_
      refine OI_static 2 [(1, .slice B xs.length capb), (5, .pointer (some ⟨b1, 0, none⟩)), (7, .pointer (some ⟨l7, 0, none⟩)), (25, .bool false)] (by kernel_rfl) ?_
      refine OI_end rfl ?_
      refine X_then ?_
      refine V_false rfl ?_
      refine V_skip ?_
      refine X_then ?_
      refine V_seq ?_
      refine V_seq ?_
      refine V_region ?_
      refine OI_static 1 [(1, .slice B xs.length capb), (5, .pointer (some ⟨b1, 0, none⟩)), (7, .pointer (some ⟨l7, 0, none⟩)), (8, .int .i64 0)] (by kernel_rfl) ?_
      refine OI_end rfl ?_
      refine X_then ?_
      refine V_block ?_
      refine V_pick [(1, .slice B xs.length capb), (5, .pointer (some ⟨b1, 0, none⟩)), (7, .pointer (some ⟨l7, 0, none⟩)), (8, .int .i64 0)] rfl ?_
      refine V_loop (fun k wI e => ∃ i : Nat, ∃ C : List Ci, ∃ F14 : Nat → Prop, (k + i = min xs.length 100) ∧ (i ≤ 100) ∧ (C.length ≤ i) ∧ (Led F14 wI l7 (newX (msk fs) 10) C) ∧ (∀ q, F14 q → w1.heap.size ≤ q ∧ q ≠ b1) ∧ (∀ q, F14 q → F8 q ∨ w5.heap.size ≤ q) ∧ Keep F8 w5 wI ∧ e = [(1, .slice B xs.length capb), (5, .pointer (some ⟨b1, 0, none⟩)), (7, .pointer (some ⟨l7, 0, none⟩)), (8, .int .i64 ((i : Nat) : Int))]) (min xs.length 100) ⟨0, [], F8, by omega, by omega, by simp, ho9, (fun q hq => by have h1 := own12 q hq; have h2 := lt13 q hq; omega), fun q h => .inl h, Keep.refl _ _, rfl⟩ ?_
      rintro k19 w18 _ ⟨i, C, F14, hki, hi9, hcl, ho15, own16, rel17, hk20, rfl⟩
      have hsz21 := Keep.size hk20
      replace hb1 := hb1.keep hk20 (fun hs => by have h1 := own12 _ hs; have h2 := lt13 _ hs; omega)
      have hb1lt := hb1.lt
      replace hA := ArgT.keep hA hk20 hA0 (fun k hk hs => by have h1 := own12 k hs; have h2 := lt13 k hs; omega)
      replace hB := ArgT.keep hB hk20 hB0 (fun k hk hs => by have h1 := own12 k hs; have h2 := lt13 k hs; omega)
      replace hK0 := Keep.fresh hK0 hk20 (by intro i hi hs; have h1 := own12 i hs; have h2 := lt13 i hs; omega); have hzhK0 := Keep.size hK0
      have hzhk20 := Keep.size hk20
      have lt22 := Led.lt ho15
      have hl7lt : l7 < w18.heap.size := Led.lt ho15 _ (Led.at_ ho15)
      refine V_seq ?_
      refine V_seq ?_
      refine V_region ?_
      refine OI_static 5 [(1, .slice B xs.length capb), (5, .pointer (some ⟨b1, 0, none⟩)), (7, .pointer (some ⟨l7, 0, none⟩)), (8, .int .i64 ((i : Nat) : Int)), (30, .bool (decide (((i : Nat) : Int) < ((xs.length : Nat) : Int))))] (by kernel_rfl) ?_
      by_cases hg23 : ((i : Nat) : Int) < ((xs.length : Nat) : Int)
      · skip
        refine OI_eq [(1, .slice B xs.length capb), (5, .pointer (some ⟨b1, 0, none⟩)), (7, .pointer (some ⟨l7, 0, none⟩)), (8, .int .i64 ((i : Nat) : Int)), (30, .bool true)] (by first | simp [hg23] | rfl) ?_
        refine OI_static 8 [(1, .slice B xs.length capb), (5, .pointer (some ⟨b1, 0, none⟩)), (7, .pointer (some ⟨l7, 0, none⟩)), (8, .int .i64 ((i : Nat) : Int)), (31, .int .i64 ((i : Nat) : Int)), (32, .bool (decide (((i : Nat) : Int) < 100))), (33, .bool (decide (((i : Nat) : Int) < 100)))] (by kernel_rfl) ?_
        refine OI_end rfl ?_
        refine X_then ?_
        refine V_if (((i : Nat) : Int) < 100) (by kernel_rfl) (fun hc24 => ?_) (fun hc24 => ?_)
        · skip
          refine V_skip ?_
          refine X_then ?_
          refine V_seq ?_
          refine V_block ?_
          refine V_draws (acts [16]) none_ [[0, 1, 2, 3, 4, 5, 6, 7, 8, 9, 10, 11, 12, 13, 14, 15, 16]] (by kernel_rfl) (by repeat first | exact sure_body (by rintro _ _ ⟨h, _⟩; exact ⟨_, h⟩) | refine sure_then ?_ | refine sure_block ?_ | refine sure_join ?_) (by kernel_rfl) ?_
          intro w26 hk25 he27 L hL28
          have hsz29 := Keep.size hk25
          replace hb1 := hb1.keep hk25 (fun f => f)
          have hb1lt := hb1.lt
          replace hA := ArgT.keep0 hA hk25
          replace hB := ArgT.keep0 hB hk25
          replace hK0 := Keep.tr hK0 (Keep.ofNone hk25); have hzhK0 := Keep.size hK0
          replace hk20 := Keep.tr hk20 (Keep.ofNone hk25); have hzhk20 := Keep.size hk20
          replace ho15 := Led.keep ho15 hk25 (fun _ _ f => f)
          have qhb1 := hb1
          have K30 : Keep none_ w26 w26 := Keep.refl _ _
          obtain rfl := List.mem_singleton.1 hL28
          refine GI_static [3, 4, 5, 6, 7, 8, 9, 10, 11, 12, 13, 14, 15, 16] [(1, .slice B xs.length capb), (5, .pointer (some ⟨b1, 0, none⟩)), (7, .pointer (some ⟨l7, 0, none⟩)), (8, .int .i64 ((i : Nat) : Int)), (31, .int .i64 ((i : Nat) : Int)), (32, .bool (decide (((i : Nat) : Int) < 100))), (36, .pointer (some ⟨l7, 0, none⟩)), (37, .slice B xs.length capb), (38, .int .i64 ((i : Nat) : Int))] (by kernel_rfl) ?_
          obtain ⟨b31, o31, L31, rfl, hat31⟩ := ArgT.open_ hB (by first | omega | (simp only [List.length_map]; omega) | (simp; done) | (simp; omega))
          have hb31lt0 := ArgT.lt hB0 (by first | omega | (simp only [List.length_map]; omega) | (simp; done) | (simp; omega))
          have hb31lt := hat31.blk.lt
          refine GI_pure (some 39) (.indexAddr 38 (.tmp 37) (.tmp 38)) (by kernel_rfl) (by kernel_rfl) (pure_idxN (b := b31) (o := o31) (len := xs.length) (cap := capb) (kd := .i64) (j := i) (E := 40) (sz := 4) (by_ := 32) (by kernel_rfl) (by kernel_rfl) (by kernel_rfl) (by omega)) ?_
          refine GI_static [5, 6, 7, 8, 9, 10, 11, 12, 13, 14, 15, 16] [(1, .slice (some ⟨b31, o31, none⟩) xs.length capb), (5, .pointer (some ⟨b1, 0, none⟩)), (7, .pointer (some ⟨l7, 0, none⟩)), (8, .int .i64 ((i : Nat) : Int)), (31, .int .i64 ((i : Nat) : Int)), (32, .bool (decide (((i : Nat) : Int) < 100))), (36, .pointer (some ⟨l7, 0, none⟩)), (40, .pointer (some ⟨b31, o31 + i * 4 + 1, none⟩))] (by kernel_rfl) ?_
          obtain ⟨x32, hx33⟩ : ∃ x, xs[i]? = some x := ⟨_, List.getElem?_eq_getElem (by first | omega | (simp only [List.length_map]; omega))⟩
          refine GI_cellR 3 (.tmp 40) (o31 + i * 4 + 1) (.int .i64 x32.a) (some 41) (by kernel_rfl) (by kernel_rfl) (by kernel_rfl) hat31.blk (fun f => f) (m := 1) (by kernel_rfl) (AtR.cell hat31 (es_at hx33) rfl) ?_
          refine GI_static [8, 9, 10, 11, 12, 13, 14, 15, 16] [(1, .slice (some ⟨b31, o31, none⟩) xs.length capb), (5, .pointer (some ⟨b1, 0, none⟩)), (7, .pointer (some ⟨l7, 0, none⟩)), (8, .int .i64 ((i : Nat) : Int)), (31, .int .i64 ((i : Nat) : Int)), (32, .bool (decide (((i : Nat) : Int) < 100))), (36, .pointer (some ⟨l7, 0, none⟩)), (41, .int .i64 x32.a), (42, .slice (some ⟨b31, o31, none⟩) xs.length capb), (43, .int .i64 ((i : Nat) : Int))] (by kernel_rfl) ?_
          refine GI_pure (some 44) (.indexAddr 38 (.tmp 42) (.tmp 43)) (by kernel_rfl) (by kernel_rfl) (pure_idxN (b := b31) (o := o31) (len := xs.length) (cap := capb) (kd := .i64) (j := i) (E := 40) (sz := 4) (by_ := 32) (by kernel_rfl) (by kernel_rfl) (by kernel_rfl) (by omega)) ?_
          refine GI_static [10, 11, 12, 13, 14, 15, 16] [(1, .slice (some ⟨b31, o31, none⟩) xs.length capb), (5, .pointer (some ⟨b1, 0, none⟩)), (7, .pointer (some ⟨l7, 0, none⟩)), (8, .int .i64 ((i : Nat) : Int)), (31, .int .i64 ((i : Nat) : Int)), (32, .bool (decide (((i : Nat) : Int) < 100))), (36, .pointer (some ⟨l7, 0, none⟩)), (41, .int .i64 x32.a), (45, .pointer (some ⟨b31, o31 + i * 4 + 2, none⟩))] (by kernel_rfl) ?_
          refine GI_cellR 3 (.tmp 45) (o31 + i * 4 + 2) (.int .i64 x32.b) (some 46) (by kernel_rfl) (by kernel_rfl) (by kernel_rfl) hat31.blk (fun f => f) (m := 1) (by kernel_rfl) (AtR.cell hat31 (es_at hx33) rfl) ?_
          refine GI_static [13, 14, 15, 16] [(1, .slice (some ⟨b31, o31, none⟩) xs.length capb), (5, .pointer (some ⟨b1, 0, none⟩)), (7, .pointer (some ⟨l7, 0, none⟩)), (8, .int .i64 ((i : Nat) : Int)), (31, .int .i64 ((i : Nat) : Int)), (32, .bool (decide (((i : Nat) : Int) < 100))), (36, .pointer (some ⟨l7, 0, none⟩)), (41, .int .i64 x32.a), (46, .int .i64 x32.b), (47, .slice (some ⟨b31, o31, none⟩) xs.length capb), (48, .int .i64 ((i : Nat) : Int))] (by kernel_rfl) ?_
          refine GI_pure (some 49) (.indexAddr 38 (.tmp 47) (.tmp 48)) (by kernel_rfl) (by kernel_rfl) (pure_idxN (b := b31) (o := o31) (len := xs.length) (cap := capb) (kd := .i64) (j := i) (E := 40) (sz := 4) (by_ := 32) (by kernel_rfl) (by kernel_rfl) (by kernel_rfl) (by omega)) ?_
          refine GI_static [15, 16] [(1, .slice (some ⟨b31, o31, none⟩) xs.length capb), (5, .pointer (some ⟨b1, 0, none⟩)), (7, .pointer (some ⟨l7, 0, none⟩)), (8, .int .i64 ((i : Nat) : Int)), (31, .int .i64 ((i : Nat) : Int)), (32, .bool (decide (((i : Nat) : Int) < 100))), (36, .pointer (some ⟨l7, 0, none⟩)), (41, .int .i64 x32.a), (46, .int .i64 x32.b), (50, .pointer (some ⟨b31, o31 + i * 4 + 3, none⟩))] (by kernel_rfl) ?_
          refine GI_cellR 3 (.tmp 50) (o31 + i * 4 + 3) (.int .i64 x32.n) (some 51) (by kernel_rfl) (by kernel_rfl) (by kernel_rfl) hat31.blk (fun f => f) (m := 1) (by kernel_rfl) (AtR.cell hat31 (es_at hx33) rfl) ?_
          refine GI_final 16 (by kernel_rfl) (by kernel_rfl) ?_
          refine OI_call { callee := (Callee.value (Operand.func 15)), args := #[(Operand.tmp 36), (Operand.tmp 41), (Operand.tmp 46), (Operand.tmp 51)], argTypes := #[22, 3, 3, 3] } 15 #[.pointer (some ⟨l7, 0, none⟩), .int .i64 x32.a, .int .i64 x32.b, .int .i64 x32.n] (some 52) (by kernel_rfl) (by kernel_rfl) (by kernel_rfl) (lock_spec F14 l7 (newX (msk fs) 10) C x32.a x32.b x32.n _ ho15 (by omega)) ?_
          rintro _ w36 ⟨rfl, ⟨F38, ho39, hfr40⟩, hk37⟩
          refine ⟨_, rfl, ?_⟩
          have hsz41 := Keep.size hk37
          replace hb1 := hb1.keep hk37 (fun hs => by have h1 := own16 _ hs; have h2 := lt22 _ hs; omega)
          have hb1lt := hb1.lt
          replace hat31 := hat31.keep hk37 (fun hs => by have h1 := own16 _ hs; have h2 := lt22 _ hs; omega)
          have hb31lt := hat31.blk.lt
          replace hA := ArgT.keep hA hk37 hA0 (fun k hk hs => by have h1 := own16 k hs; have h2 := lt22 k hs; omega)
          replace hK0 := Keep.fresh hK0 hk37 (by intro i hi hs; first | exact hs | (exfalso; have h1 := own16 i hs; have h2 := lt22 i hs; omega) | (have h1 := own16 i hs; have h2 := lt22 i hs; show _ ∨ _; omega)); have hzhK0 := Keep.size hK0
          replace hk20 := Keep.fresh hk20 hk37 (fun i hi hs => by rcases rel17 i hs with h | h; exact h; (exfalso; omega)); have hzhk20 := Keep.size hk20
          have own43 : ∀ q, F38 q → w1.heap.size ≤ q ∧ q ≠ b1 := fun q hq => by rcases hfr40 q hq with h | h; (have h1 := own16 q h; have h2 := lt22 q h; omega); omega
          have lt42 := Led.lt ho39
          have rel44 : ∀ q, F38 q → F8 q ∨ w5.heap.size ≤ q := fun q hq => by rcases hfr40 q hq with h | h; exact rel17 q h; exact .inr (by omega)
          refine OI_end rfl ?_
          refine X_block ?_
          refine X_then ?_
          refine V_region ?_
          have hw45 : IntKind.i64.wrap (((i : Nat) : Int) + 1) = ((i + 1 : Nat) : Int) := (wrap64_id (by omega) (by omega)).trans (by omega)
          refine OI_static 2 [(1, .slice (some ⟨b31, o31, none⟩) xs.length capb), (5, .pointer (some ⟨b1, 0, none⟩)), (7, .pointer (some ⟨l7, 0, none⟩)), (31, .int .i64 ((i : Nat) : Int)), (32, .bool (decide (((i : Nat) : Int) < 100))), (35, .int .i64 (IntKind.i64.wrap (((i : Nat) : Int) + 1)))] (by kernel_rfl) ?_
          refine OI_eq [(1, .slice (some ⟨b31, o31, none⟩) xs.length capb), (5, .pointer (some ⟨b1, 0, none⟩)), (7, .pointer (some ⟨l7, 0, none⟩)), (31, .int .i64 ((i : Nat) : Int)), (32, .bool (decide (((i : Nat) : Int) < 100))), (35, .int .i64 ((i + 1 : Nat) : Int))] (by rw [hw45]) ?_
          refine OI_static 3 [(1, .slice (some ⟨b31, o31, none⟩) xs.length capb), (5, .pointer (some ⟨b1, 0, none⟩)), (7, .pointer (some ⟨l7, 0, none⟩)), (8, .int .i64 ((i + 1 : Nat) : Int)), (31, .int .i64 ((i : Nat) : Int)), (32, .bool (decide (((i : Nat) : Int) < 100)))] (by kernel_rfl) ?_
          refine OI_end rfl ?_
          exact V_again (k19 - 1) (by omega) [(1, .slice (some ⟨b31, o31, none⟩) xs.length capb), (5, .pointer (some ⟨b1, 0, none⟩)), (7, .pointer (some ⟨l7, 0, none⟩)), (8, .int .i64 ((i + 1 : Nat) : Int))] rfl ⟨i + 1, (lockC C x32.a x32.b x32.n), F38, by omega, by omega, Nat.le_trans (lockC_len _ _ _ _) (by omega), ho39, (fun q hq => by have h1 := own43 q hq; have h2 := lt42 q hq; omega), rel44, hk20, rfl⟩
        · skip
          refine V_exit ?_
          refine X_exit_then ?_
          refine X_exit_then ?_
          refine X_exit_here ?_
          refine X_then ?_
          refine V_seq ?_
          refine V_region ?_
          refine OI_alloc 42 (.agg #[.int .i64 0, .int .i64 0, .int .i64 0, .int .i64 0, .int .i64 0, .int .i64 0, .int .i64 0, .int .i64 0, .int .i64 0, .int .i64 0]) [.int .i64 0, .int .i64 0, .int .i64 0, .int .i64 0, .int .i64 0, .int .i64 0, .int .i64 0, .int .i64 0, .int .i64 0, .int .i64 0] (some 9) (by kernel_rfl) (by kernel_rfl) (by kernel_rfl) ?_
          intro b46 w46 e46 hb46 k46 z46
          have hsz47 := Keep.size k46
          replace hb1 := hb1.keep k46 (fun f => f)
          have hb1lt := hb1.lt
          replace hA := ArgT.keep0 hA k46
          replace hB := ArgT.keep0 hB k46
          replace hK0 := Keep.tr hK0 (Keep.ofNone k46); have hzhK0 := Keep.size hK0
          replace ho15 := Led.keep ho15 k46 (fun _ _ f => f)
          have hb46lt := hb46.lt
          refine OI_alloc 42 (.agg #[.int .i64 0, .int .i64 0, .int .i64 0, .int .i64 0, .int .i64 0, .int .i64 0, .int .i64 0, .int .i64 0, .int .i64 0, .int .i64 0]) [.int .i64 0, .int .i64 0, .int .i64 0, .int .i64 0, .int .i64 0, .int .i64 0, .int .i64 0, .int .i64 0, .int .i64 0, .int .i64 0] (some 10) (by kernel_rfl) (by kernel_rfl) (by kernel_rfl) ?_
          intro b48 w48 e48 hb48 k48 z48
          have hsz49 := Keep.size k48
          replace hb1 := hb1.keep k48 (fun f => f)
          have hb1lt := hb1.lt
          replace hb46 := hb46.keep k48 (fun f => f)
          have hb46lt := hb46.lt
          replace hA := ArgT.keep0 hA k48
          replace hB := ArgT.keep0 hB k48
          replace hK0 := Keep.tr hK0 (Keep.ofNone k48); have hzhK0 := Keep.size hK0
          replace ho15 := Led.keep ho15 k48 (fun _ _ f => f)
          have hb48lt := hb48.lt
          refine OI_end rfl ?_
          refine X_then ?_
          refine V_seq ?_
          refine V_seq ?_
          refine V_region ?_
          refine OI_static 1 [(5, .pointer (some ⟨b1, 0, none⟩)), (7, .pointer (some ⟨l7, 0, none⟩)), (9, .pointer (some ⟨b46, 0, none⟩)), (10, .pointer (some ⟨b48, 0, none⟩)), (11, .int .i64 0)] (by kernel_rfl) ?_
          refine OI_end rfl ?_
          refine X_then ?_
          refine V_block ?_
          refine V_pick [(5, .pointer (some ⟨b1, 0, none⟩)), (7, .pointer (some ⟨l7, 0, none⟩)), (9, .pointer (some ⟨b46, 0, none⟩)), (10, .pointer (some ⟨b48, 0, none⟩)), (11, .int .i64 0)] rfl ?_
          refine V_loop (fun k wI e => ∃ j : Nat, (k + j = 10) ∧ (Blk wI b46 (arrL Acc.free (newX (msk fs) 10) j) 42) ∧ (Blk wI b48 (arrL Acc.held (newX (msk fs) 10) j) 42) ∧ Keep (fun q => q = b46 ∨ q = b48) w48 wI ∧ e = [(5, .pointer (some ⟨b1, 0, none⟩)), (7, .pointer (some ⟨l7, 0, none⟩)), (9, .pointer (some ⟨b46, 0, none⟩)), (10, .pointer (some ⟨b48, 0, none⟩)), (11, .int .i64 ((j : Nat) : Int))]) 10 ⟨0, by omega, hb46, hb48, Keep.refl _ _, rfl⟩ ?_
          rintro k51 w50 _ ⟨j, hkj, haf, hah, hk52, rfl⟩
          have hsz53 := Keep.size hk52
          replace hb1 := hb1.keep hk52 (by show ¬ (b1 = b46 ∨ b1 = b48); omega)
          have hb1lt := hb1.lt
          replace hA := ArgT.keep hA hk52 hA0 (fun k hk hs => by have hs2 : k = b46 ∨ k = b48 := hs; omega)
          replace hB := ArgT.keep hB hk52 hB0 (fun k hk hs => by have hs2 : k = b46 ∨ k = b48 := hs; omega)
          replace hK0 := Keep.fresh hK0 hk52 (by intro i hi hs; first | exact hs | (exfalso; have hs2 : i = b46 ∨ i = b48 := hs; omega)); have hzhK0 := Keep.size hK0
          replace ho15 := Led.keep ho15 hk52 (fun q hq hs => by have hs2 : q = b46 ∨ q = b48 := hs; have g0 := own16 q hq; have g1 := lt22 q hq; omega)
          have hzhk52 := Keep.size hk52
          have hb46lt := haf.lt
          have hb48lt := hah.lt
          refine V_seq ?_
          refine V_seq ?_
          refine V_region ?_
          refine OI_static 2 [(5, .pointer (some ⟨b1, 0, none⟩)), (7, .pointer (some ⟨l7, 0, none⟩)), (9, .pointer (some ⟨b46, 0, none⟩)), (10, .pointer (some ⟨b48, 0, none⟩)), (11, .int .i64 ((j : Nat) : Int)), (54, .bool (decide (((j : Nat) : Int) < 10)))] (by kernel_rfl) ?_
          refine OI_end rfl ?_
          refine X_then ?_
          refine V_if (((j : Nat) : Int) < 10) (by kernel_rfl) (fun hc54 => ?_) (fun hc54 => ?_)
          · skip
            refine V_skip ?_
            refine X_then ?_
            refine V_seq ?_
            refine V_block ?_
            refine V_draws (acts [4, 7, 9, 11]) none_ [[2, 3, 4, 5, 6, 7, 0, 8, 9, 1, 10, 11]] (by kernel_rfl) (by repeat first | exact sure_body (by rintro _ _ ⟨h, _⟩; exact ⟨_, h⟩) | refine sure_then ?_ | refine sure_block ?_ | refine sure_join ?_) (by kernel_rfl) ?_
            intro w56 hk55 he57 L hL58
            have hsz59 := Keep.size hk55
            replace hb1 := hb1.keep hk55 (fun f => f)
            have hb1lt := hb1.lt
            replace haf := haf.keep hk55 (fun f => f)
            have hb46lt := haf.lt
            replace hah := hah.keep hk55 (fun f => f)
            have hb48lt := hah.lt
            replace hA := ArgT.keep0 hA hk55
            replace hB := ArgT.keep0 hB hk55
            replace hK0 := Keep.tr hK0 (Keep.ofNone hk55); have hzhK0 := Keep.size hK0
            replace ho15 := Led.keep ho15 hk55 (fun _ _ f => f)
            replace hk52 := Keep.tr hk52 (Keep.ofNone hk55); have hzhk52 := Keep.size hk52
            have qhb1 := hb1
            have qhaf := haf
            have qhah := hah
            have K60 : Keep none_ w56 w56 := Keep.refl _ _
            obtain rfl := List.mem_singleton.1 hL58
            refine GI_static [4, 5, 6, 7, 0, 8, 9, 1, 10, 11] [(5, .pointer (some ⟨b1, 0, none⟩)), (7, .pointer (some ⟨l7, 0, none⟩)), (9, .pointer (some ⟨b46, 0, none⟩)), (10, .pointer (some ⟨b48, 0, none⟩)), (11, .int .i64 ((j : Nat) : Int)), (59, .pointer (some ⟨l7, 0, none⟩)), (60, .int .i64 ((j : Nat) : Int))] (by kernel_rfl) ?_
            refine GI_call0 { callee := (Callee.value (Operand.func 20)), args := #[(Operand.tmp 59), (Operand.tmp 60)], argTypes := #[22, 3] } 20 #[.pointer (some ⟨l7, 0, none⟩), .int .i64 ((j : Nat) : Int)] (some 61) (by kernel_rfl) (by kernel_rfl) (by kernel_rfl) (by kernel_rfl) (by kernel_rfl) (free_spec F14 l7 (newX (msk fs) 10) C ((j : Nat) : Int) _ ho15) ?_
            rintro _ w61 ⟨rfl, hk62⟩
            refine ⟨_, rfl, ?_⟩
            have hsz63 := Keep.size hk62
            replace hb1 := hb1.keep hk62 (fun f => f)
            have hb1lt := hb1.lt
            replace haf := haf.keep hk62 (fun f => f)
            have hb46lt := haf.lt
            replace hah := hah.keep hk62 (fun f => f)
            have hb48lt := hah.lt
            replace hA := ArgT.keep0 hA hk62
            replace hB := ArgT.keep0 hB hk62
            replace hK0 := Keep.tr hK0 (Keep.ofNone hk62); have hzhK0 := Keep.size hK0
            replace ho15 := Led.keep ho15 hk62 (fun _ _ f => f)
            replace hk52 := Keep.tr hk52 (Keep.ofNone hk62); have hzhk52 := Keep.size hk52
            refine GI_static [7, 0, 8, 9, 1, 10, 11] [(5, .pointer (some ⟨b1, 0, none⟩)), (7, .pointer (some ⟨l7, 0, none⟩)), (9, .pointer (some ⟨b46, 0, none⟩)), (10, .pointer (some ⟨b48, 0, none⟩)), (11, .int .i64 ((j : Nat) : Int)), (61, .int .i64 ((acct (newX (msk fs) 10) ((j : Nat) : Int)).free)), (62, .pointer (some ⟨l7, 0, none⟩)), (63, .int .i64 ((j : Nat) : Int))] (by kernel_rfl) ?_
            refine GI_call0 { callee := (Callee.value (Operand.func 22)), args := #[(Operand.tmp 62), (Operand.tmp 63)], argTypes := #[22, 3] } 22 #[.pointer (some ⟨l7, 0, none⟩), .int .i64 ((j : Nat) : Int)] (some 64) (by kernel_rfl) (by kernel_rfl) (by kernel_rfl) (by kernel_rfl) (by kernel_rfl) (held_spec F14 l7 (newX (msk fs) 10) C ((j : Nat) : Int) _ ho15) ?_
            rintro _ w64 ⟨rfl, hk65⟩
            refine ⟨_, rfl, ?_⟩
            have hsz66 := Keep.size hk65
            replace hb1 := hb1.keep hk65 (fun f => f)
            have hb1lt := hb1.lt
            replace haf := haf.keep hk65 (fun f => f)
            have hb46lt := haf.lt
            replace hah := hah.keep hk65 (fun f => f)
            have hb48lt := hah.lt
            replace hA := ArgT.keep0 hA hk65
            replace hB := ArgT.keep0 hB hk65
            replace hK0 := Keep.tr hK0 (Keep.ofNone hk65); have hzhK0 := Keep.size hK0
            replace ho15 := Led.keep ho15 hk65 (fun _ _ f => f)
            replace hk52 := Keep.tr hk52 (Keep.ofNone hk65); have hzhk52 := Keep.size hk52
            refine GI_static [8, 9, 1, 10, 11] [(5, .pointer (some ⟨b1, 0, none⟩)), (7, .pointer (some ⟨l7, 0, none⟩)), (9, .pointer (some ⟨b46, 0, none⟩)), (10, .pointer (some ⟨b48, 0, none⟩)), (11, .int .i64 ((j : Nat) : Int)), (57, .int .i64 ((j : Nat) : Int)), (61, .int .i64 ((acct (newX (msk fs) 10) ((j : Nat) : Int)).free)), (64, .int .i64 ((acct (newX (msk fs) 10) ((j : Nat) : Int)).held))] (by kernel_rfl) ?_
            refine GI_pure (some 65) (.indexAddr 42 (.tmp 9) (.tmp 57)) (by kernel_rfl) (by kernel_rfl) (pure_idxArr (b := b46) (o := 0) (m := 10) (kd := .i64) (j := j) (E := 3) (sz := 1) (by kernel_rfl) (by kernel_rfl) (by kernel_rfl) (by omega)) ?_
            refine GI_set0 (m := 1) (kd := false) 3 (.tmp 65) (.tmp 61) (0 + j * 1) (.int .i64 ((acct (newX (msk fs) 10) ((j : Nat) : Int)).free)) [.int .i64 ((acct (newX (msk fs) 10) ((j : Nat) : Int)).free)] none (by kernel_rfl) (by kernel_rfl) (by kernel_rfl) (by kernel_rfl) (by kernel_rfl) haf (by kernel_rfl) (by kernel_rfl) (by kernel_rfl) (by rw [arrL_len]; omega) (by simp [Value.oneCell']) ?_
            intro w67 hb46_70 hk68 hz69
            replace hb46_70 : Blk w67 b46 (arrL Acc.free (newX (msk fs) 10) (j + 1)) 42 := (by rw [← arrL_put Acc.free (newX (msk fs) 10) (by omega)]; exact hb46_70)
            have hsz71 := Keep.size hk68
            replace hb1 := hb1.keep hk68 (by show ¬ (_ = _); omega)
            have hb1lt := hb1.lt
            replace hah := hah.keep hk68 (by show ¬ (_ = _); omega)
            have hb48lt := hah.lt
            replace hA := ArgT.keep hA hk68 hA0 (fun k hk hs => by have hs : k = b46 := hs; omega)
            replace hB := ArgT.keep hB hk68 hB0 (fun k hk hs => by have hs : k = b46 := hs; omega)
            replace hK0 := Keep.fresh hK0 hk68 (by intro i hi hs; first | exact hs | exact Or.inl hs | exact Or.inr hs | (exfalso; have hs2 : i = b46 := hs; omega)); have hzhK0 := Keep.size hK0
            replace ho15 := Led.keep ho15 hk68 (fun q hq hs => by have hs : q = b46 := hs; have g0 := own16 q hq; have g1 := lt22 q hq; omega)
            replace hk52 := Keep.fresh hk52 hk68 (by intro i hi hs; first | exact hs | exact Or.inl hs | exact Or.inr hs | (exfalso; have hs2 : i = b46 := hs; omega)); have hzhk52 := Keep.size hk52
            refine GI_static [10, 11] [(5, .pointer (some ⟨b1, 0, none⟩)), (7, .pointer (some ⟨l7, 0, none⟩)), (9, .pointer (some ⟨b46, 0, none⟩)), (10, .pointer (some ⟨b48, 0, none⟩)), (11, .int .i64 ((j : Nat) : Int)), (58, .int .i64 ((j : Nat) : Int)), (64, .int .i64 ((acct (newX (msk fs) 10) ((j : Nat) : Int)).held))] (by kernel_rfl) ?_
            refine GI_pure (some 66) (.indexAddr 42 (.tmp 10) (.tmp 58)) (by kernel_rfl) (by kernel_rfl) (pure_idxArr (b := b48) (o := 0) (m := 10) (kd := .i64) (j := j) (E := 3) (sz := 1) (by kernel_rfl) (by kernel_rfl) (by kernel_rfl) (by omega)) ?_
            refine GI_final 11 (by kernel_rfl) (by kernel_rfl) ?_
            refine OI_set (m := 1) (kd := false) 3 (.tmp 66) (.tmp 64) (0 + j * 1) (.int .i64 ((acct (newX (msk fs) 10) ((j : Nat) : Int)).held)) [.int .i64 ((acct (newX (msk fs) 10) ((j : Nat) : Int)).held)] none (by kernel_rfl) (by kernel_rfl) (by kernel_rfl) hah (by kernel_rfl) (by kernel_rfl) (by kernel_rfl) (by rw [arrL_len]; omega) (by simp [Value.oneCell']) ?_
            intro w72 hb48_75 hk73 hz74
            replace hb48_75 : Blk w72 b48 (arrL Acc.held (newX (msk fs) 10) (j + 1)) 42 := (by rw [← arrL_put Acc.held (newX (msk fs) 10) (by omega)]; exact hb48_75)
            have hsz76 := Keep.size hk73
            replace hb1 := hb1.keep hk73 (by show ¬ (_ = _); omega)
            have hb1lt := hb1.lt
            replace hb46_70 := hb46_70.keep hk73 (by show ¬ (_ = _); omega)
            have hb46lt := hb46_70.lt
            replace hA := ArgT.keep hA hk73 hA0 (fun k hk hs => by have hs : k = b48 := hs; omega)
            replace hB := ArgT.keep hB hk73 hB0 (fun k hk hs => by have hs : k = b48 := hs; omega)
            replace hK0 := Keep.fresh hK0 hk73 (by intro i hi hs; first | exact hs | exact Or.inl hs | exact Or.inr hs | (exfalso; have hs2 : i = b48 := hs; omega)); have hzhK0 := Keep.size hK0
            replace ho15 := Led.keep ho15 hk73 (fun q hq hs => by have hs : q = b48 := hs; have g0 := own16 q hq; have g1 := lt22 q hq; omega)
            replace hk52 := Keep.fresh hk52 hk73 (by intro i hi hs; first | exact hs | exact Or.inl hs | exact Or.inr hs | (exfalso; have hs2 : i = b48 := hs; omega)); have hzhk52 := Keep.size hk52
            refine OI_end rfl ?_
            refine X_block ?_
            refine X_then ?_
            refine V_region ?_
            have hw77 : IntKind.i64.wrap (((j : Nat) : Int) + 1) = ((j + 1 : Nat) : Int) := (wrap64_id (by omega) (by omega)).trans (by omega)
            refine OI_static 2 [(5, .pointer (some ⟨b1, 0, none⟩)), (7, .pointer (some ⟨l7, 0, none⟩)), (9, .pointer (some ⟨b46, 0, none⟩)), (10, .pointer (some ⟨b48, 0, none⟩)), (56, .int .i64 (IntKind.i64.wrap (((j : Nat) : Int) + 1)))] (by kernel_rfl) ?_
            refine OI_eq [(5, .pointer (some ⟨b1, 0, none⟩)), (7, .pointer (some ⟨l7, 0, none⟩)), (9, .pointer (some ⟨b46, 0, none⟩)), (10, .pointer (some ⟨b48, 0, none⟩)), (56, .int .i64 ((j + 1 : Nat) : Int))] (by rw [hw77]) ?_
            refine OI_static 3 [(5, .pointer (some ⟨b1, 0, none⟩)), (7, .pointer (some ⟨l7, 0, none⟩)), (9, .pointer (some ⟨b46, 0, none⟩)), (10, .pointer (some ⟨b48, 0, none⟩)), (11, .int .i64 ((j + 1 : Nat) : Int))] (by kernel_rfl) ?_
            refine OI_end rfl ?_
            exact V_again (k51 - 1) (by omega) [(5, .pointer (some ⟨b1, 0, none⟩)), (7, .pointer (some ⟨l7, 0, none⟩)), (9, .pointer (some ⟨b46, 0, none⟩)), (10, .pointer (some ⟨b48, 0, none⟩)), (11, .int .i64 ((j + 1 : Nat) : Int))] rfl ⟨j + 1, by omega, hb46_70, hb48_75, hk52, rfl⟩
          · skip
            obtain rfl : j = 10 := by omega
            refine V_exit ?_
            refine X_exit_then ?_
            refine X_exit_then ?_
            refine X_exit_here ?_
            refine X_then ?_
            refine V_seq ?_
            refine V_region ?_
            refine OI_static 1 [(5, .pointer (some ⟨b1, 0, none⟩)), (7, .pointer (some ⟨l7, 0, none⟩)), (9, .pointer (some ⟨b46, 0, none⟩)), (10, .pointer (some ⟨b48, 0, none⟩)), (12, .int .i64 0)] (by kernel_rfl) ?_
            refine OI_end rfl ?_
            refine X_then ?_
            refine V_seq ?_
            refine V_seq ?_
            refine V_region ?_
            refine OI_static 1 [(5, .pointer (some ⟨b1, 0, none⟩)), (7, .pointer (some ⟨l7, 0, none⟩)), (9, .pointer (some ⟨b46, 0, none⟩)), (10, .pointer (some ⟨b48, 0, none⟩)), (12, .int .i64 0), (67, .pointer (some ⟨b1, 0, none⟩))] (by kernel_rfl) ?_
            refine OI_cell 3 (.tmp 67) 0 (.int .i64 z.k) (some 68) (by kernel_rfl) (by kernel_rfl) hb1 (m := 1) (by kernel_rfl) rfl ?_
            refine OI_end rfl ?_
            refine X_then ?_
            refine V_blockJ (fun wI e => ∃ X2 : List Acc, ∃ e2 : Int, ∃ F78 : Nat → Prop, (e2 ≠ 0 → X2 = (newX (msk fs) 10)) ∧ (Led F78 wI l7 X2 C) ∧ (∀ q, F78 q → w1.heap.size ≤ q ∧ q ≠ b1 ∧ q ≠ b46 ∧ q ≠ b48) ∧ (∀ q, F78 q → F14 q ∨ w50.heap.size ≤ q) ∧ Keep F14 w50 wI ∧ e = [(7, .pointer (some ⟨l7, 0, none⟩)), (9, .pointer (some ⟨b46, 0, none⟩)), (10, .pointer (some ⟨b48, 0, none⟩)), (12, .int .i64 e2)]) ?_ ?_
            · skip
              have hk82 : Keep F14 w50 w50 := Keep.refl _ _
              have rel83 : ∀ q, F14 q → F14 q ∨ w50.heap.size ≤ q := fun q h => .inl h
              refine V_seq ?_
              refine V_region ?_
              refine OI_static 2 [(5, .pointer (some ⟨b1, 0, none⟩)), (7, .pointer (some ⟨l7, 0, none⟩)), (9, .pointer (some ⟨b46, 0, none⟩)), (10, .pointer (some ⟨b48, 0, none⟩)), (12, .int .i64 0), (68, .int .i64 z.k), (69, .bool (decide (z.k = 1)))] (by kernel_rfl) ?_
              refine OI_end rfl ?_
              refine X_then ?_
              refine V_if (z.k = 1) (by kernel_rfl) (fun hc84 => ?_) (fun hc84 => ?_)
              · skip
                refine V_region ?_
                refine OI_static 2 [(5, .pointer (some ⟨b1, 0, none⟩)), (7, .pointer (some ⟨l7, 0, none⟩)), (9, .pointer (some ⟨b46, 0, none⟩)), (10, .pointer (some ⟨b48, 0, none⟩)), (71, .pointer (some ⟨l7, 0, none⟩)), (72, .pointer (some ⟨b1, 1, none⟩))] (by kernel_rfl) ?_
                refine OI_cell 3 (.tmp 72) 1 (.int .i64 z.a) (some 73) (by kernel_rfl) (by kernel_rfl) hb1 (m := 1) (by kernel_rfl) rfl ?_
                refine OI_static 4 [(5, .pointer (some ⟨b1, 0, none⟩)), (7, .pointer (some ⟨l7, 0, none⟩)), (9, .pointer (some ⟨b46, 0, none⟩)), (10, .pointer (some ⟨b48, 0, none⟩)), (71, .pointer (some ⟨l7, 0, none⟩)), (73, .int .i64 z.a), (74, .pointer (some ⟨b1, 2, none⟩))] (by kernel_rfl) ?_
                refine OI_cell 3 (.tmp 74) 2 (.int .i64 z.b) (some 75) (by kernel_rfl) (by kernel_rfl) hb1 (m := 1) (by kernel_rfl) rfl ?_
                refine OI_static 6 [(7, .pointer (some ⟨l7, 0, none⟩)), (9, .pointer (some ⟨b46, 0, none⟩)), (10, .pointer (some ⟨b48, 0, none⟩)), (71, .pointer (some ⟨l7, 0, none⟩)), (73, .int .i64 z.a), (75, .int .i64 z.b), (76, .pointer (some ⟨b1, 3, none⟩))] (by kernel_rfl) ?_
                refine OI_cell 3 (.tmp 76) 3 (.int .i64 z.n) (some 77) (by kernel_rfl) (by kernel_rfl) hb1 (m := 1) (by kernel_rfl) rfl ?_
                refine OI_call { callee := (Callee.value (Operand.func 17)), args := #[(Operand.tmp 71), (Operand.tmp 73), (Operand.tmp 75), (Operand.tmp 77)], argTypes := #[22, 3, 3, 3] } 17 #[.pointer (some ⟨l7, 0, none⟩), .int .i64 z.a, .int .i64 z.b, .int .i64 z.n] (some 78) (by kernel_rfl) (by kernel_rfl) (by kernel_rfl) (transfer_spec F14 l7 (newX (msk fs) 10) C z.a z.b z.n _ ho15) ?_
                rintro _ w87 ⟨rfl, ⟨F89, ho90, hfr91⟩, hk88⟩
                refine ⟨_, rfl, ?_⟩
                have hsz92 := Keep.size hk88
                replace hb1 := hb1.keep hk88 (fun hs => by have h1 := own16 _ hs; have h2 := lt22 _ hs; omega)
                have hb1lt := hb1.lt
                replace haf := haf.keep hk88 (fun hs => by have h1 := own16 _ hs; have h2 := lt22 _ hs; omega)
                have hb46lt := haf.lt
                replace hah := hah.keep hk88 (fun hs => by have h1 := own16 _ hs; have h2 := lt22 _ hs; omega)
                have hb48lt := hah.lt
                replace hA := ArgT.keep hA hk88 hA0 (fun k hk hs => by have h1 := own16 k hs; have h2 := lt22 k hs; omega)
                replace hB := ArgT.keep hB hk88 hB0 (fun k hk hs => by have h1 := own16 k hs; have h2 := lt22 k hs; omega)
                replace hK0 := Keep.fresh hK0 hk88 (by intro i hi hs; first | exact hs | (exfalso; have h1 := own16 i hs; have h2 := lt22 i hs; omega) | (have h1 := own16 i hs; have h2 := lt22 i hs; show _ ∨ _; omega)); have hzhK0 := Keep.size hK0
                replace hk82 := Keep.fresh hk82 hk88 (fun i hi hs => by rcases rel83 i hs with h | h; exact h; (exfalso; omega)); have hzhk82 := Keep.size hk82
                have own94 : ∀ q, F89 q → w1.heap.size ≤ q ∧ q ≠ b1 ∧ q ≠ b46 ∧ q ≠ b48 := fun q hq => by rcases hfr91 q hq with h | h; (have h1 := own16 q h; have h2 := lt22 q h; omega); omega
                have lt93 := Led.lt ho90
                have rel95 : ∀ q, F89 q → F8 q ∨ w5.heap.size ≤ q := fun q hq => by rcases hfr91 q hq with h | h; exact rel17 q h; exact .inr (by omega)
                have rel96 : ∀ q, F89 q → F14 q ∨ w50.heap.size ≤ q := fun q hq => by rcases hfr91 q hq with h | h; exact rel83 q h; exact .inr (by omega)
                refine OI_static 9 [(7, .pointer (some ⟨l7, 0, none⟩)), (9, .pointer (some ⟨b46, 0, none⟩)), (10, .pointer (some ⟨b48, 0, none⟩)), (12, .int .i64 (transE (newX (msk fs) 10) C z.a z.b z.n))] (by kernel_rfl) ?_
                refine OI_end rfl ?_
                refine X_block ?_
                exact X_join [(7, .pointer (some ⟨l7, 0, none⟩)), (9, .pointer (some ⟨b46, 0, none⟩)), (10, .pointer (some ⟨b48, 0, none⟩)), (12, .int .i64 (transE (newX (msk fs) 10) C z.a z.b z.n))] rfl ⟨(transX (newX (msk fs) 10) C z.a z.b z.n), transE (newX (msk fs) 10) C z.a z.b z.n, F89, fun h => trans_err h, ho90, (fun q hq => by have h1 := own94 q hq; have h2 := lt93 q hq; omega), rel96, hk82, rfl⟩
              · skip
                refine V_seq ?_
                refine V_region ?_
                refine OI_static 2 [(5, .pointer (some ⟨b1, 0, none⟩)), (7, .pointer (some ⟨l7, 0, none⟩)), (9, .pointer (some ⟨b46, 0, none⟩)), (10, .pointer (some ⟨b48, 0, none⟩)), (12, .int .i64 0), (68, .int .i64 z.k), (79, .bool (decide (z.k = 2)))] (by kernel_rfl) ?_
                refine OI_end rfl ?_
                refine X_then ?_
                refine V_if (z.k = 2) (by kernel_rfl) (fun hc97 => ?_) (fun hc97 => ?_)
                · skip
                  refine V_region ?_
                  refine OI_static 2 [(5, .pointer (some ⟨b1, 0, none⟩)), (7, .pointer (some ⟨l7, 0, none⟩)), (9, .pointer (some ⟨b46, 0, none⟩)), (10, .pointer (some ⟨b48, 0, none⟩)), (81, .pointer (some ⟨l7, 0, none⟩)), (82, .pointer (some ⟨b1, 1, none⟩))] (by kernel_rfl) ?_
                  refine OI_cell 3 (.tmp 82) 1 (.int .i64 z.a) (some 83) (by kernel_rfl) (by kernel_rfl) hb1 (m := 1) (by kernel_rfl) rfl ?_
                  refine OI_static 4 [(7, .pointer (some ⟨l7, 0, none⟩)), (9, .pointer (some ⟨b46, 0, none⟩)), (10, .pointer (some ⟨b48, 0, none⟩)), (81, .pointer (some ⟨l7, 0, none⟩)), (83, .int .i64 z.a), (84, .pointer (some ⟨b1, 3, none⟩))] (by kernel_rfl) ?_
                  refine OI_cell 3 (.tmp 84) 3 (.int .i64 z.n) (some 85) (by kernel_rfl) (by kernel_rfl) hb1 (m := 1) (by kernel_rfl) rfl ?_
                  refine OI_call { callee := (Callee.value (Operand.func 21)), args := #[(Operand.tmp 81), (Operand.tmp 83), (Operand.tmp 85)], argTypes := #[22, 3, 3] } 21 #[.pointer (some ⟨l7, 0, none⟩), .int .i64 z.a, .int .i64 z.n] (some 86) (by kernel_rfl) (by kernel_rfl) (by kernel_rfl) (reserve_spec F14 l7 (newX (msk fs) 10) C z.a z.n _ ho15) ?_
                  rintro _ w100 ⟨rfl, ⟨F102, ho103, hfr104⟩, hk101⟩
                  refine ⟨_, rfl, ?_⟩
                  have hsz105 := Keep.size hk101
                  replace hb1 := hb1.keep hk101 (fun hs => by have h1 := own16 _ hs; have h2 := lt22 _ hs; omega)
                  have hb1lt := hb1.lt
                  replace haf := haf.keep hk101 (fun hs => by have h1 := own16 _ hs; have h2 := lt22 _ hs; omega)
                  have hb46lt := haf.lt
                  replace hah := hah.keep hk101 (fun hs => by have h1 := own16 _ hs; have h2 := lt22 _ hs; omega)
                  have hb48lt := hah.lt
                  replace hA := ArgT.keep hA hk101 hA0 (fun k hk hs => by have h1 := own16 k hs; have h2 := lt22 k hs; omega)
                  replace hB := ArgT.keep hB hk101 hB0 (fun k hk hs => by have h1 := own16 k hs; have h2 := lt22 k hs; omega)
                  replace hK0 := Keep.fresh hK0 hk101 (by intro i hi hs; first | exact hs | (exfalso; have h1 := own16 i hs; have h2 := lt22 i hs; omega) | (have h1 := own16 i hs; have h2 := lt22 i hs; show _ ∨ _; omega)); have hzhK0 := Keep.size hK0
                  replace hk82 := Keep.fresh hk82 hk101 (fun i hi hs => by rcases rel83 i hs with h | h; exact h; (exfalso; omega)); have hzhk82 := Keep.size hk82
                  have own107 : ∀ q, F102 q → w1.heap.size ≤ q ∧ q ≠ b1 ∧ q ≠ b46 ∧ q ≠ b48 := fun q hq => by rcases hfr104 q hq with h | h; (have h1 := own16 q h; have h2 := lt22 q h; omega); omega
                  have lt106 := Led.lt ho103
                  have rel108 : ∀ q, F102 q → F8 q ∨ w5.heap.size ≤ q := fun q hq => by rcases hfr104 q hq with h | h; exact rel17 q h; exact .inr (by omega)
                  have rel109 : ∀ q, F102 q → F14 q ∨ w50.heap.size ≤ q := fun q hq => by rcases hfr104 q hq with h | h; exact rel83 q h; exact .inr (by omega)
                  refine OI_static 7 [(7, .pointer (some ⟨l7, 0, none⟩)), (9, .pointer (some ⟨b46, 0, none⟩)), (10, .pointer (some ⟨b48, 0, none⟩)), (12, .int .i64 (spendsE (newX (msk fs) 10) C z.a z.n))] (by kernel_rfl) ?_
                  refine OI_end rfl ?_
                  refine X_block ?_
                  exact X_join [(7, .pointer (some ⟨l7, 0, none⟩)), (9, .pointer (some ⟨b46, 0, none⟩)), (10, .pointer (some ⟨b48, 0, none⟩)), (12, .int .i64 (spendsE (newX (msk fs) 10) C z.a z.n))] rfl ⟨(resX (newX (msk fs) 10) C z.a z.n), spendsE (newX (msk fs) 10) C z.a z.n, F102, fun h => (res_err h).1, ho103, (fun q hq => by have h1 := own107 q hq; have h2 := lt106 q hq; omega), rel109, hk82, rfl⟩
                · skip
                  refine V_seq ?_
                  refine V_region ?_
                  refine OI_static 2 [(5, .pointer (some ⟨b1, 0, none⟩)), (7, .pointer (some ⟨l7, 0, none⟩)), (9, .pointer (some ⟨b46, 0, none⟩)), (10, .pointer (some ⟨b48, 0, none⟩)), (12, .int .i64 0), (68, .int .i64 z.k), (87, .bool (decide (z.k = 6)))] (by kernel_rfl) ?_
                  refine OI_end rfl ?_
                  refine X_then ?_
                  refine V_if (z.k = 6) (by kernel_rfl) (fun hc110 => ?_) (fun hc110 => ?_)
                  · skip
                    refine V_region ?_
                    refine OI_static 2 [(5, .pointer (some ⟨b1, 0, none⟩)), (7, .pointer (some ⟨l7, 0, none⟩)), (9, .pointer (some ⟨b46, 0, none⟩)), (10, .pointer (some ⟨b48, 0, none⟩)), (89, .pointer (some ⟨l7, 0, none⟩)), (90, .pointer (some ⟨b1, 1, none⟩))] (by kernel_rfl) ?_
                    refine OI_cell 3 (.tmp 90) 1 (.int .i64 z.a) (some 91) (by kernel_rfl) (by kernel_rfl) hb1 (m := 1) (by kernel_rfl) rfl ?_
                    refine OI_static 4 [(7, .pointer (some ⟨l7, 0, none⟩)), (9, .pointer (some ⟨b46, 0, none⟩)), (10, .pointer (some ⟨b48, 0, none⟩)), (89, .pointer (some ⟨l7, 0, none⟩)), (91, .int .i64 z.a), (92, .pointer (some ⟨b1, 3, none⟩))] (by kernel_rfl) ?_
                    refine OI_cell 3 (.tmp 92) 3 (.int .i64 z.n) (some 93) (by kernel_rfl) (by kernel_rfl) hb1 (m := 1) (by kernel_rfl) rfl ?_
                    refine OI_call { callee := (Callee.value (Operand.func 23)), args := #[(Operand.tmp 89), (Operand.tmp 91), (Operand.tmp 93)], argTypes := #[22, 3, 3] } 23 #[.pointer (some ⟨l7, 0, none⟩), .int .i64 z.a, .int .i64 z.n] (some 94) (by kernel_rfl) (by kernel_rfl) (by kernel_rfl) (mint_spec F14 l7 (newX (msk fs) 10) C z.a z.n _ ho15) ?_
                    rintro _ w113 ⟨rfl, ⟨F115, ho116, hfr117⟩, hk114⟩
                    refine ⟨_, rfl, ?_⟩
                    have hsz118 := Keep.size hk114
                    replace hb1 := hb1.keep hk114 (fun hs => by have h1 := own16 _ hs; have h2 := lt22 _ hs; omega)
                    have hb1lt := hb1.lt
                    replace haf := haf.keep hk114 (fun hs => by have h1 := own16 _ hs; have h2 := lt22 _ hs; omega)
                    have hb46lt := haf.lt
                    replace hah := hah.keep hk114 (fun hs => by have h1 := own16 _ hs; have h2 := lt22 _ hs; omega)
                    have hb48lt := hah.lt
                    replace hA := ArgT.keep hA hk114 hA0 (fun k hk hs => by have h1 := own16 k hs; have h2 := lt22 k hs; omega)
                    replace hB := ArgT.keep hB hk114 hB0 (fun k hk hs => by have h1 := own16 k hs; have h2 := lt22 k hs; omega)
                    replace hK0 := Keep.fresh hK0 hk114 (by intro i hi hs; first | exact hs | (exfalso; have h1 := own16 i hs; have h2 := lt22 i hs; omega) | (have h1 := own16 i hs; have h2 := lt22 i hs; show _ ∨ _; omega)); have hzhK0 := Keep.size hK0
                    replace hk82 := Keep.fresh hk82 hk114 (fun i hi hs => by rcases rel83 i hs with h | h; exact h; (exfalso; omega)); have hzhk82 := Keep.size hk82
                    have own120 : ∀ q, F115 q → w1.heap.size ≤ q ∧ q ≠ b1 ∧ q ≠ b46 ∧ q ≠ b48 := fun q hq => by rcases hfr117 q hq with h | h; (have h1 := own16 q h; have h2 := lt22 q h; omega); omega
                    have lt119 := Led.lt ho116
                    have rel121 : ∀ q, F115 q → F8 q ∨ w5.heap.size ≤ q := fun q hq => by rcases hfr117 q hq with h | h; exact rel17 q h; exact .inr (by omega)
                    have rel122 : ∀ q, F115 q → F14 q ∨ w50.heap.size ≤ q := fun q hq => by rcases hfr117 q hq with h | h; exact rel83 q h; exact .inr (by omega)
                    refine OI_static 7 [(7, .pointer (some ⟨l7, 0, none⟩)), (9, .pointer (some ⟨b46, 0, none⟩)), (10, .pointer (some ⟨b48, 0, none⟩)), (12, .int .i64 (mintE (newX (msk fs) 10) z.a z.n))] (by kernel_rfl) ?_
                    refine OI_end rfl ?_
                    refine X_block ?_
                    exact X_join [(7, .pointer (some ⟨l7, 0, none⟩)), (9, .pointer (some ⟨b46, 0, none⟩)), (10, .pointer (some ⟨b48, 0, none⟩)), (12, .int .i64 (mintE (newX (msk fs) 10) z.a z.n))] rfl ⟨(mintX (newX (msk fs) 10) z.a z.n), mintE (newX (msk fs) 10) z.a z.n, F115, fun h => mint_err h, ho116, (fun q hq => by have h1 := own120 q hq; have h2 := lt119 q hq; omega), rel122, hk82, rfl⟩
                  · skip
                    refine V_seq ?_
                    refine V_region ?_
                    refine OI_static 2 [(5, .pointer (some ⟨b1, 0, none⟩)), (7, .pointer (some ⟨l7, 0, none⟩)), (9, .pointer (some ⟨b46, 0, none⟩)), (10, .pointer (some ⟨b48, 0, none⟩)), (12, .int .i64 0), (95, .bool (decide (z.k = 7)))] (by kernel_rfl) ?_
                    refine OI_end rfl ?_
                    refine X_then ?_
                    refine V_if (z.k = 7) (by kernel_rfl) (fun hc123 => ?_) (fun hc123 => ?_)
                    · skip
                      refine V_region ?_
                      refine OI_static 2 [(5, .pointer (some ⟨b1, 0, none⟩)), (7, .pointer (some ⟨l7, 0, none⟩)), (9, .pointer (some ⟨b46, 0, none⟩)), (10, .pointer (some ⟨b48, 0, none⟩)), (97, .pointer (some ⟨l7, 0, none⟩)), (98, .pointer (some ⟨b1, 1, none⟩))] (by kernel_rfl) ?_
                      refine OI_cell 3 (.tmp 98) 1 (.int .i64 z.a) (some 99) (by kernel_rfl) (by kernel_rfl) hb1 (m := 1) (by kernel_rfl) rfl ?_
                      refine OI_static 4 [(7, .pointer (some ⟨l7, 0, none⟩)), (9, .pointer (some ⟨b46, 0, none⟩)), (10, .pointer (some ⟨b48, 0, none⟩)), (97, .pointer (some ⟨l7, 0, none⟩)), (99, .int .i64 z.a), (100, .pointer (some ⟨b1, 3, none⟩))] (by kernel_rfl) ?_
                      refine OI_cell 3 (.tmp 100) 3 (.int .i64 z.n) (some 101) (by kernel_rfl) (by kernel_rfl) hb1 (m := 1) (by kernel_rfl) rfl ?_
                      refine OI_call { callee := (Callee.value (Operand.func 24)), args := #[(Operand.tmp 97), (Operand.tmp 99), (Operand.tmp 101)], argTypes := #[22, 3, 3] } 24 #[.pointer (some ⟨l7, 0, none⟩), .int .i64 z.a, .int .i64 z.n] (some 102) (by kernel_rfl) (by kernel_rfl) (by kernel_rfl) (burn_spec F14 l7 (newX (msk fs) 10) C z.a z.n _ ho15) ?_
                      rintro _ w126 ⟨rfl, ⟨F128, ho129, hfr130⟩, hk127⟩
                      refine ⟨_, rfl, ?_⟩
                      have hsz131 := Keep.size hk127
                      replace hb1 := hb1.keep hk127 (fun hs => by have h1 := own16 _ hs; have h2 := lt22 _ hs; omega)
                      have hb1lt := hb1.lt
                      replace haf := haf.keep hk127 (fun hs => by have h1 := own16 _ hs; have h2 := lt22 _ hs; omega)
                      have hb46lt := haf.lt
                      replace hah := hah.keep hk127 (fun hs => by have h1 := own16 _ hs; have h2 := lt22 _ hs; omega)
                      have hb48lt := hah.lt
                      replace hA := ArgT.keep hA hk127 hA0 (fun k hk hs => by have h1 := own16 k hs; have h2 := lt22 k hs; omega)
                      replace hB := ArgT.keep hB hk127 hB0 (fun k hk hs => by have h1 := own16 k hs; have h2 := lt22 k hs; omega)
                      replace hK0 := Keep.fresh hK0 hk127 (by intro i hi hs; first | exact hs | (exfalso; have h1 := own16 i hs; have h2 := lt22 i hs; omega) | (have h1 := own16 i hs; have h2 := lt22 i hs; show _ ∨ _; omega)); have hzhK0 := Keep.size hK0
                      replace hk82 := Keep.fresh hk82 hk127 (fun i hi hs => by rcases rel83 i hs with h | h; exact h; (exfalso; omega)); have hzhk82 := Keep.size hk82
                      have own133 : ∀ q, F128 q → w1.heap.size ≤ q ∧ q ≠ b1 ∧ q ≠ b46 ∧ q ≠ b48 := fun q hq => by rcases hfr130 q hq with h | h; (have h1 := own16 q h; have h2 := lt22 q h; omega); omega
                      have lt132 := Led.lt ho129
                      have rel134 : ∀ q, F128 q → F8 q ∨ w5.heap.size ≤ q := fun q hq => by rcases hfr130 q hq with h | h; exact rel17 q h; exact .inr (by omega)
                      have rel135 : ∀ q, F128 q → F14 q ∨ w50.heap.size ≤ q := fun q hq => by rcases hfr130 q hq with h | h; exact rel83 q h; exact .inr (by omega)
                      refine OI_static 7 [(7, .pointer (some ⟨l7, 0, none⟩)), (9, .pointer (some ⟨b46, 0, none⟩)), (10, .pointer (some ⟨b48, 0, none⟩)), (12, .int .i64 (spendsE (newX (msk fs) 10) C z.a z.n))] (by kernel_rfl) ?_
                      refine OI_end rfl ?_
                      refine X_block ?_
                      exact X_join [(7, .pointer (some ⟨l7, 0, none⟩)), (9, .pointer (some ⟨b46, 0, none⟩)), (10, .pointer (some ⟨b48, 0, none⟩)), (12, .int .i64 (spendsE (newX (msk fs) 10) C z.a z.n))] rfl ⟨(burnX (newX (msk fs) 10) C z.a z.n), spendsE (newX (msk fs) 10) C z.a z.n, F128, fun h => (res_err h).2, ho129, (fun q hq => by have h1 := own133 q hq; have h2 := lt132 q hq; omega), rel135, hk82, rfl⟩
                    · skip
                      refine V_skip ?_
                      refine X_block ?_
                      exact X_join [(7, .pointer (some ⟨l7, 0, none⟩)), (9, .pointer (some ⟨b46, 0, none⟩)), (10, .pointer (some ⟨b48, 0, none⟩)), (12, .int .i64 0)] rfl ⟨(newX (msk fs) 10), 0, F14, fun _ => rfl, ho15, (fun q hq => by have h1 := own16 q hq; have h2 := lt22 q hq; omega), rel83, hk82, rfl⟩
            · skip
              rintro w136 _ ⟨X2, e2, F78, he2, ho79, own80, rel81, hk137, rfl⟩
              have hsz138 := Keep.size hk137
              replace hb1 := hb1.keep hk137 (fun hs => by have h1 := own16 _ hs; have h2 := lt22 _ hs; omega)
              have hb1lt := hb1.lt
              replace haf := haf.keep hk137 (fun hs => by have h1 := own16 _ hs; have h2 := lt22 _ hs; omega)
              have hb46lt := haf.lt
              replace hah := hah.keep hk137 (fun hs => by have h1 := own16 _ hs; have h2 := lt22 _ hs; omega)
              have hb48lt := hah.lt
              replace hA := ArgT.keep hA hk137 hA0 (fun k hk hs => by have h1 := own16 k hs; have h2 := lt22 k hs; omega)
              replace hB := ArgT.keep hB hk137 hB0 (fun k hk hs => by have h1 := own16 k hs; have h2 := lt22 k hs; omega)
              replace hK0 := Keep.fresh hK0 hk137 (by intro i hi hs; have h1 := own16 i hs; have h2 := lt22 i hs; omega); have hzhK0 := Keep.size hK0
              have lt139 := Led.lt ho79
              have rel140 : ∀ q, F78 q → F8 q ∨ w5.heap.size ≤ q := fun q hq => by rcases rel81 q hq with h | h; exact rel17 q h; exact .inr (by omega)
              have hl7lt : l7 < w136.heap.size := Led.lt ho79 _ (Led.at_ ho79)
              refine X_then ?_
              refine V_seq ?_
              refine V_seq ?_
              refine V_region ?_
              refine OI_static 1 [(7, .pointer (some ⟨l7, 0, none⟩)), (9, .pointer (some ⟨b46, 0, none⟩)), (10, .pointer (some ⟨b48, 0, none⟩)), (12, .int .i64 e2), (13, .int .i64 0)] (by kernel_rfl) ?_
              refine OI_end rfl ?_
              refine X_then ?_
              refine V_block ?_
              refine V_pick [(7, .pointer (some ⟨l7, 0, none⟩)), (9, .pointer (some ⟨b46, 0, none⟩)), (10, .pointer (some ⟨b48, 0, none⟩)), (12, .int .i64 e2), (13, .int .i64 0)] rfl ?_
              refine V_loop (fun k wI e => ∃ q : Nat, (k + q = 10) ∧ Keep none_ w136 wI ∧ e = [(7, .pointer (some ⟨l7, 0, none⟩)), (9, .pointer (some ⟨b46, 0, none⟩)), (10, .pointer (some ⟨b48, 0, none⟩)), (12, .int .i64 e2), (13, .int .i64 ((q : Nat) : Int))]) 10 ⟨0, by omega, Keep.refl _ _, rfl⟩ ?_
              rintro k142 w141 _ ⟨q, hkq, hk143, rfl⟩
              have hsz144 := Keep.size hk143
              replace hb1 := hb1.keep hk143 (fun f => f)
              have hb1lt := hb1.lt
              replace haf := haf.keep hk143 (fun f => f)
              have hb46lt := haf.lt
              replace hah := hah.keep hk143 (fun f => f)
              have hb48lt := hah.lt
              replace hA := ArgT.keep0 hA hk143
              replace hB := ArgT.keep0 hB hk143
              replace hK0 := Keep.tr hK0 (Keep.ofNone hk143); have hzhK0 := Keep.size hK0
              replace ho79 := Led.keep ho79 hk143 (fun _ _ f => f)
              have hzhk143 := Keep.size hk143
              refine V_seq ?_
              refine V_seq ?_
              refine V_region ?_
              refine OI_static 3 [(7, .pointer (some ⟨l7, 0, none⟩)), (9, .pointer (some ⟨b46, 0, none⟩)), (10, .pointer (some ⟨b48, 0, none⟩)), (12, .int .i64 e2), (13, .int .i64 ((q : Nat) : Int)), (105, .bool (decide (((q : Nat) : Int) < 10)))] (by kernel_rfl) ?_
              by_cases hg145 : ((q : Nat) : Int) < 10
              · skip
                refine OI_eq [(7, .pointer (some ⟨l7, 0, none⟩)), (9, .pointer (some ⟨b46, 0, none⟩)), (10, .pointer (some ⟨b48, 0, none⟩)), (12, .int .i64 e2), (13, .int .i64 ((q : Nat) : Int)), (105, .bool true)] (by first | simp [hg145] | rfl) ?_
                refine OI_static 6 [(7, .pointer (some ⟨l7, 0, none⟩)), (9, .pointer (some ⟨b46, 0, none⟩)), (10, .pointer (some ⟨b48, 0, none⟩)), (12, .int .i64 e2), (13, .int .i64 ((q : Nat) : Int)), (106, .int .i64 e2), (107, .bool (!(decide (e2 = 0)))), (108, .bool (!(decide (e2 = 0))))] (by kernel_rfl) ?_
                refine OI_end rfl ?_
                refine X_then ?_
                refine V_not (e2 = 0) (by kernel_rfl) (fun hc146 => ?_) (fun hc146 => ?_)
                · skip
                  refine V_skip ?_
                  refine X_then ?_
                  refine V_seq ?_
                  refine V_block ?_
                  refine V_seq ?_
                  refine V_draws (acts [2, 10]) none_ [[0, 1, 2, 3, 4, 5, 6, 7, 8, 9, 10, 11, 12, 13, 14, 15]] (by kernel_rfl) (by repeat first | exact sure_body (by rintro _ _ ⟨h, _⟩; exact ⟨_, h⟩) | refine sure_then ?_ | refine sure_block ?_ | refine sure_join ?_) (by kernel_rfl) ?_
                  intro w148 hk147 he149 L hL150
                  have hsz151 := Keep.size hk147
                  replace hb1 := hb1.keep hk147 (fun f => f)
                  have hb1lt := hb1.lt
                  replace haf := haf.keep hk147 (fun f => f)
                  have hb46lt := haf.lt
                  replace hah := hah.keep hk147 (fun f => f)
                  have hb48lt := hah.lt
                  replace hA := ArgT.keep0 hA hk147
                  replace hB := ArgT.keep0 hB hk147
                  replace hK0 := Keep.tr hK0 (Keep.ofNone hk147); have hzhK0 := Keep.size hK0
                  replace ho79 := Led.keep ho79 hk147 (fun _ _ f => f)
                  replace hk143 := Keep.tr hk143 (Keep.ofNone hk147); have hzhk143 := Keep.size hk143
                  have qhb1 := hb1
                  have qhaf := haf
                  have qhah := hah
                  have K152 : Keep none_ w148 w148 := Keep.refl _ _
                  obtain rfl := List.mem_singleton.1 hL150
                  refine GI_static [2, 3, 4, 5, 6, 7, 8, 9, 10, 11, 12, 13, 14, 15] [(7, .pointer (some ⟨l7, 0, none⟩)), (9, .pointer (some ⟨b46, 0, none⟩)), (10, .pointer (some ⟨b48, 0, none⟩)), (12, .int .i64 e2), (13, .int .i64 ((q : Nat) : Int)), (106, .int .i64 e2), (107, .bool (!(decide (e2 = 0)))), (111, .pointer (some ⟨l7, 0, none⟩)), (112, .int .i64 ((q : Nat) : Int))] (by kernel_rfl) ?_
                  refine GI_call { callee := (Callee.value (Operand.func 20)), args := #[(Operand.tmp 111), (Operand.tmp 112)], argTypes := #[22, 3] } 20 #[.pointer (some ⟨l7, 0, none⟩), .int .i64 ((q : Nat) : Int)] (some 113) (by kernel_rfl) (by kernel_rfl) (by kernel_rfl) (by kernel_rfl) (free_spec F78 l7 X2 C ((q : Nat) : Int) _ ho79) ?_
                  rintro _ w153 ⟨rfl, hk154⟩
                  have K155 := K152.tr (Keep.ofNone hk154)
                  refine ⟨_, rfl, K155, ?_⟩
                  have hzK155 := Keep.size K155
                  have hsz156 := Keep.size hk154
                  replace hb1 := hb1.keep hk154 (fun f => f)
                  have hb1lt := hb1.lt
                  replace haf := haf.keep hk154 (fun f => f)
                  have hb46lt := haf.lt
                  replace hah := hah.keep hk154 (fun f => f)
                  have hb48lt := hah.lt
                  replace hA := ArgT.keep0 hA hk154
                  replace hB := ArgT.keep0 hB hk154
                  replace hK0 := Keep.tr hK0 (Keep.ofNone hk154); have hzhK0 := Keep.size hK0
                  replace ho79 := Led.keep ho79 hk154 (fun _ _ f => f)
                  replace hk143 := Keep.tr hk143 (Keep.ofNone hk154); have hzhk143 := Keep.size hk143
                  refine GI_static [4, 5, 6, 7, 8, 9, 10, 11, 12, 13, 14, 15] [(7, .pointer (some ⟨l7, 0, none⟩)), (9, .pointer (some ⟨b46, 0, none⟩)), (10, .pointer (some ⟨b48, 0, none⟩)), (12, .int .i64 e2), (13, .int .i64 ((q : Nat) : Int)), (106, .int .i64 e2), (107, .bool (!(decide (e2 = 0)))), (113, .int .i64 ((acct X2 ((q : Nat) : Int)).free)), (114, .int .i64 ((q : Nat) : Int))] (by kernel_rfl) ?_
                  refine GI_pure (some 115) (.indexAddr 42 (.tmp 9) (.tmp 114)) (by kernel_rfl) (by kernel_rfl) (pure_idxArr (b := b46) (o := 0) (m := 10) (kd := .i64) (j := q) (E := 3) (sz := 1) (by kernel_rfl) (by kernel_rfl) (by kernel_rfl) (by omega)) ?_
                  refine GI_cell 3 (.tmp 115) (0 + q * 1) (.int .i64 ((acct (newX (msk fs) 10) ((q : Nat) : Int)).free)) (some 116) (by kernel_rfl) (by kernel_rfl) (by kernel_rfl) qhaf (fun f => f) (m := 1) (by kernel_rfl) (arrL_get Acc.free (newX (msk fs) 10) (by omega)) ?_
                  refine GI_static [8, 9, 10, 11, 12, 13, 14, 15] [(7, .pointer (some ⟨l7, 0, none⟩)), (9, .pointer (some ⟨b46, 0, none⟩)), (10, .pointer (some ⟨b48, 0, none⟩)), (12, .int .i64 e2), (13, .int .i64 ((q : Nat) : Int)), (106, .int .i64 e2), (107, .bool (!(decide (e2 = 0)))), (118, .bool (!(decide ((acct X2 ((q : Nat) : Int)).free = (acct (newX (msk fs) 10) ((q : Nat) : Int)).free))))] (by kernel_rfl) ?_
                  refine GI_eq [(7, .pointer (some ⟨l7, 0, none⟩)), (9, .pointer (some ⟨b46, 0, none⟩)), (10, .pointer (some ⟨b48, 0, none⟩)), (12, .int .i64 e2), (13, .int .i64 ((q : Nat) : Int)), (106, .int .i64 e2), (107, .bool (!(decide (e2 = 0)))), (118, .bool false)] (by rw [he2 hc146, decide_eq_true rfl]; rfl) ?_
                  refine GI_static [10, 11, 12, 13, 14, 15] [(7, .pointer (some ⟨l7, 0, none⟩)), (9, .pointer (some ⟨b46, 0, none⟩)), (10, .pointer (some ⟨b48, 0, none⟩)), (12, .int .i64 e2), (13, .int .i64 ((q : Nat) : Int)), (106, .int .i64 e2), (107, .bool (!(decide (e2 = 0)))), (118, .bool false), (119, .pointer (some ⟨l7, 0, none⟩)), (120, .int .i64 ((q : Nat) : Int))] (by kernel_rfl) ?_
                  refine GI_call { callee := (Callee.value (Operand.func 22)), args := #[(Operand.tmp 119), (Operand.tmp 120)], argTypes := #[22, 3] } 22 #[.pointer (some ⟨l7, 0, none⟩), .int .i64 ((q : Nat) : Int)] (some 121) (by kernel_rfl) (by kernel_rfl) (by kernel_rfl) (by kernel_rfl) (held_spec F78 l7 X2 C ((q : Nat) : Int) _ ho79) ?_
                  rintro _ w158 ⟨rfl, hk159⟩
                  have K160 := K155.tr (Keep.ofNone hk159)
                  refine ⟨_, rfl, K160, ?_⟩
                  have hzK160 := Keep.size K160
                  have hsz161 := Keep.size hk159
                  replace hb1 := hb1.keep hk159 (fun f => f)
                  have hb1lt := hb1.lt
                  replace haf := haf.keep hk159 (fun f => f)
                  have hb46lt := haf.lt
                  replace hah := hah.keep hk159 (fun f => f)
                  have hb48lt := hah.lt
                  replace hA := ArgT.keep0 hA hk159
                  replace hB := ArgT.keep0 hB hk159
                  replace hK0 := Keep.tr hK0 (Keep.ofNone hk159); have hzhK0 := Keep.size hK0
                  replace ho79 := Led.keep ho79 hk159 (fun _ _ f => f)
                  replace hk143 := Keep.tr hk143 (Keep.ofNone hk159); have hzhk143 := Keep.size hk143
                  refine GI_static [12, 13, 14, 15] [(7, .pointer (some ⟨l7, 0, none⟩)), (9, .pointer (some ⟨b46, 0, none⟩)), (10, .pointer (some ⟨b48, 0, none⟩)), (12, .int .i64 e2), (13, .int .i64 ((q : Nat) : Int)), (106, .int .i64 e2), (107, .bool (!(decide (e2 = 0)))), (118, .bool false), (119, .pointer (some ⟨l7, 0, none⟩)), (120, .int .i64 ((q : Nat) : Int)), (121, .int .i64 ((acct X2 ((q : Nat) : Int)).held)), (122, .int .i64 ((q : Nat) : Int))] (by kernel_rfl) ?_
                  refine GI_pure (some 123) (.indexAddr 42 (.tmp 10) (.tmp 122)) (by kernel_rfl) (by kernel_rfl) (pure_idxArr (b := b48) (o := 0) (m := 10) (kd := .i64) (j := q) (E := 3) (sz := 1) (by kernel_rfl) (by kernel_rfl) (by kernel_rfl) (by omega)) ?_
                  refine GI_cell 3 (.tmp 123) (0 + q * 1) (.int .i64 ((acct (newX (msk fs) 10) ((q : Nat) : Int)).held)) (some 124) (by kernel_rfl) (by kernel_rfl) (by kernel_rfl) qhah (fun f => f) (m := 1) (by kernel_rfl) (arrL_get Acc.held (newX (msk fs) 10) (by omega)) ?_
                  refine GI_static [] [(7, .pointer (some ⟨l7, 0, none⟩)), (9, .pointer (some ⟨b46, 0, none⟩)), (10, .pointer (some ⟨b48, 0, none⟩)), (12, .int .i64 e2), (13, .int .i64 ((q : Nat) : Int)), (106, .int .i64 e2), (107, .bool (!(decide (e2 = 0)))), (119, .pointer (some ⟨l7, 0, none⟩)), (120, .int .i64 ((q : Nat) : Int)), (121, .int .i64 ((acct X2 ((q : Nat) : Int)).held)), (122, .int .i64 ((q : Nat) : Int)), (123, .pointer (some ⟨b48, 0 + q * 1, none⟩)), (124, .int .i64 ((acct (newX (msk fs) 10) ((q : Nat) : Int)).held)), (125, .bool (!(decide ((acct X2 ((q : Nat) : Int)).held = (acct (newX (msk fs) 10) ((q : Nat) : Int)).held)))), (126, .bool (!(decide ((acct X2 ((q : Nat) : Int)).held = (acct (newX (msk fs) 10) ((q : Nat) : Int)).held))))] (by kernel_rfl) ?_
                  refine GI_end ?_
                  refine X_then ?_
                  refine V_eq [(7, .pointer (some ⟨l7, 0, none⟩)), (9, .pointer (some ⟨b46, 0, none⟩)), (10, .pointer (some ⟨b48, 0, none⟩)), (12, .int .i64 e2), (13, .int .i64 ((q : Nat) : Int)), (106, .int .i64 e2), (107, .bool (!(decide (e2 = 0)))), (119, .pointer (some ⟨l7, 0, none⟩)), (120, .int .i64 ((q : Nat) : Int)), (121, .int .i64 ((acct X2 ((q : Nat) : Int)).held)), (122, .int .i64 ((q : Nat) : Int)), (123, .pointer (some ⟨b48, 0 + q * 1, none⟩)), (124, .int .i64 ((acct (newX (msk fs) 10) ((q : Nat) : Int)).held)), (125, .bool (!(decide ((acct X2 ((q : Nat) : Int)).held = (acct (newX (msk fs) 10) ((q : Nat) : Int)).held)))), (126, .bool false)] (by rw [he2 hc146, decide_eq_true rfl]; rfl) ?_
                  refine V_false rfl ?_
                  refine V_skip ?_
                  refine X_block ?_
                  refine X_then ?_
                  refine V_region ?_
                  have hw163 : IntKind.i64.wrap (((q : Nat) : Int) + 1) = ((q + 1 : Nat) : Int) := (wrap64_id (by omega) (by omega)).trans (by omega)
                  refine OI_static 2 [(7, .pointer (some ⟨l7, 0, none⟩)), (9, .pointer (some ⟨b46, 0, none⟩)), (10, .pointer (some ⟨b48, 0, none⟩)), (12, .int .i64 e2), (106, .int .i64 e2), (107, .bool (!(decide (e2 = 0)))), (110, .int .i64 (IntKind.i64.wrap (((q : Nat) : Int) + 1))), (119, .pointer (some ⟨l7, 0, none⟩)), (120, .int .i64 ((q : Nat) : Int)), (121, .int .i64 ((acct X2 ((q : Nat) : Int)).held)), (122, .int .i64 ((q : Nat) : Int)), (123, .pointer (some ⟨b48, 0 + q * 1, none⟩)), (124, .int .i64 ((acct (newX (msk fs) 10) ((q : Nat) : Int)).held)), (125, .bool (!(decide ((acct X2 ((q : Nat) : Int)).held = (acct (newX (msk fs) 10) ((q : Nat) : Int)).held))))] (by kernel_rfl) ?_
                  refine OI_eq [(7, .pointer (some ⟨l7, 0, none⟩)), (9, .pointer (some ⟨b46, 0, none⟩)), (10, .pointer (some ⟨b48, 0, none⟩)), (12, .int .i64 e2), (106, .int .i64 e2), (107, .bool (!(decide (e2 = 0)))), (110, .int .i64 ((q + 1 : Nat) : Int)), (119, .pointer (some ⟨l7, 0, none⟩)), (120, .int .i64 ((q : Nat) : Int)), (121, .int .i64 ((acct X2 ((q : Nat) : Int)).held)), (122, .int .i64 ((q : Nat) : Int)), (123, .pointer (some ⟨b48, 0 + q * 1, none⟩)), (124, .int .i64 ((acct (newX (msk fs) 10) ((q : Nat) : Int)).held)), (125, .bool (!(decide ((acct X2 ((q : Nat) : Int)).held = (acct (newX (msk fs) 10) ((q : Nat) : Int)).held))))] (by rw [hw163]) ?_
                  refine OI_static 3 [(7, .pointer (some ⟨l7, 0, none⟩)), (9, .pointer (some ⟨b46, 0, none⟩)), (10, .pointer (some ⟨b48, 0, none⟩)), (12, .int .i64 e2), (13, .int .i64 ((q + 1 : Nat) : Int)), (106, .int .i64 e2), (107, .bool (!(decide (e2 = 0)))), (119, .pointer (some ⟨l7, 0, none⟩)), (120, .int .i64 ((q : Nat) : Int)), (121, .int .i64 ((acct X2 ((q : Nat) : Int)).held)), (122, .int .i64 ((q : Nat) : Int)), (123, .pointer (some ⟨b48, 0 + q * 1, none⟩)), (124, .int .i64 ((acct (newX (msk fs) 10) ((q : Nat) : Int)).held)), (125, .bool (!(decide ((acct X2 ((q : Nat) : Int)).held = (acct (newX (msk fs) 10) ((q : Nat) : Int)).held))))] (by kernel_rfl) ?_
                  refine OI_end rfl ?_
                  exact V_again (k142 - 1) (by omega) [(7, .pointer (some ⟨l7, 0, none⟩)), (9, .pointer (some ⟨b46, 0, none⟩)), (10, .pointer (some ⟨b48, 0, none⟩)), (12, .int .i64 e2), (13, .int .i64 ((q + 1 : Nat) : Int))] rfl ⟨q + 1, by omega, hk143, rfl⟩
                · skip
                  refine V_exit ?_
                  refine X_exit_then ?_
                  refine X_exit_then ?_
                  refine X_exit_here ?_
                  refine X_then ?_
                  refine V_seq ?_
                  refine V_region ?_
                  refine OI_call { callee := (Callee.value (Operand.func 18)), args := #[], argTypes := #[] } 18 #[] (some 127) (by kernel_rfl) (by kernel_rfl) (by kernel_rfl) (known_spec _) ?_
                  rintro _ w164 ⟨rfl, hk165⟩
                  refine ⟨_, rfl, ?_⟩
                  have hsz166 := Keep.size hk165
                  replace hb1 := hb1.keep hk165 (fun f => f)
                  have hb1lt := hb1.lt
                  replace haf := haf.keep hk165 (fun f => f)
                  have hb46lt := haf.lt
                  replace hah := hah.keep hk165 (fun f => f)
                  have hb48lt := hah.lt
                  replace hA := ArgT.keep0 hA hk165
                  replace hB := ArgT.keep0 hB hk165
                  replace hK0 := Keep.tr hK0 (Keep.ofNone hk165); have hzhK0 := Keep.size hK0
                  replace ho79 := Led.keep ho79 hk165 (fun _ _ f => f)
                  refine OI_static 2 [(6, .bool true)] (by kernel_rfl) ?_
                  refine OI_end rfl ?_
                  refine X_then ?_
                  refine V_ret ?_
                  exact X_return (.bool true) rfl ⟨rfl, hK0⟩
              · skip
                refine OI_eq [(7, .pointer (some ⟨l7, 0, none⟩)), (9, .pointer (some ⟨b46, 0, none⟩)), (10, .pointer (some ⟨b48, 0, none⟩)), (12, .int .i64 e2), (13, .int .i64 ((q : Nat) : Int)), (105, .bool false)] (by first | simp [hg145] | rfl) ?_
                refine OI_static 6 [(7, .pointer (some ⟨l7, 0, none⟩)), (9, .pointer (some ⟨b46, 0, none⟩)), (10, .pointer (some ⟨b48, 0, none⟩)), (12, .int .i64 e2), (13, .int .i64 ((q : Nat) : Int)), (106, undef), (107, undef), (108, .bool false)] (by kernel_rfl) ?_
                refine OI_end rfl ?_
                refine X_then ?_
                refine V_false rfl ?_
                refine V_exit ?_
                refine X_exit_then ?_
                refine X_exit_then ?_
                refine X_exit_here ?_
                refine X_then ?_
                refine V_seq ?_
                refine V_region ?_
                refine OI_call { callee := (Callee.value (Operand.func 18)), args := #[], argTypes := #[] } 18 #[] (some 127) (by kernel_rfl) (by kernel_rfl) (by kernel_rfl) (known_spec _) ?_
                rintro _ w167 ⟨rfl, hk168⟩
                refine ⟨_, rfl, ?_⟩
                have hsz169 := Keep.size hk168
                replace hb1 := hb1.keep hk168 (fun f => f)
                have hb1lt := hb1.lt
                replace haf := haf.keep hk168 (fun f => f)
                have hb46lt := haf.lt
                replace hah := hah.keep hk168 (fun f => f)
                have hb48lt := hah.lt
                replace hA := ArgT.keep0 hA hk168
                replace hB := ArgT.keep0 hB hk168
                replace hK0 := Keep.tr hK0 (Keep.ofNone hk168); have hzhK0 := Keep.size hK0
                replace ho79 := Led.keep ho79 hk168 (fun _ _ f => f)
                refine OI_static 2 [(6, .bool true)] (by kernel_rfl) ?_
                refine OI_end rfl ?_
                refine X_then ?_
                refine V_ret ?_
                exact X_return (.bool true) rfl ⟨rfl, hK0⟩
      · skip
        refine OI_eq [(1, .slice B xs.length capb), (5, .pointer (some ⟨b1, 0, none⟩)), (7, .pointer (some ⟨l7, 0, none⟩)), (8, .int .i64 ((i : Nat) : Int)), (30, .bool false)] (by first | simp [hg23] | rfl) ?_
        refine OI_static 8 [(1, .slice B xs.length capb), (5, .pointer (some ⟨b1, 0, none⟩)), (7, .pointer (some ⟨l7, 0, none⟩)), (8, .int .i64 ((i : Nat) : Int)), (31, undef), (32, undef), (33, .bool false)] (by kernel_rfl) ?_
        refine OI_end rfl ?_
        refine X_then ?_
        refine V_false rfl ?_
        refine V_exit ?_
        refine X_exit_then ?_
        refine X_exit_then ?_
        refine X_exit_here ?_
        refine X_then ?_
        refine V_seq ?_
        refine V_region ?_
        refine OI_alloc 42 (.agg #[.int .i64 0, .int .i64 0, .int .i64 0, .int .i64 0, .int .i64 0, .int .i64 0, .int .i64 0, .int .i64 0, .int .i64 0, .int .i64 0]) [.int .i64 0, .int .i64 0, .int .i64 0, .int .i64 0, .int .i64 0, .int .i64 0, .int .i64 0, .int .i64 0, .int .i64 0, .int .i64 0] (some 9) (by kernel_rfl) (by kernel_rfl) (by kernel_rfl) ?_
        intro b170 w170 e170 hb170 k170 z170
        have hsz171 := Keep.size k170
        replace hb1 := hb1.keep k170 (fun f => f)
        have hb1lt := hb1.lt
        replace hA := ArgT.keep0 hA k170
        replace hB := ArgT.keep0 hB k170
        replace hK0 := Keep.tr hK0 (Keep.ofNone k170); have hzhK0 := Keep.size hK0
        replace ho15 := Led.keep ho15 k170 (fun _ _ f => f)
        have hb170lt := hb170.lt
        refine OI_alloc 42 (.agg #[.int .i64 0, .int .i64 0, .int .i64 0, .int .i64 0, .int .i64 0, .int .i64 0, .int .i64 0, .int .i64 0, .int .i64 0, .int .i64 0]) [.int .i64 0, .int .i64 0, .int .i64 0, .int .i64 0, .int .i64 0, .int .i64 0, .int .i64 0, .int .i64 0, .int .i64 0, .int .i64 0] (some 10) (by kernel_rfl) (by kernel_rfl) (by kernel_rfl) ?_
        intro b172 w172 e172 hb172 k172 z172
        have hsz173 := Keep.size k172
        replace hb1 := hb1.keep k172 (fun f => f)
        have hb1lt := hb1.lt
        replace hb170 := hb170.keep k172 (fun f => f)
        have hb170lt := hb170.lt
        replace hA := ArgT.keep0 hA k172
        replace hB := ArgT.keep0 hB k172
        replace hK0 := Keep.tr hK0 (Keep.ofNone k172); have hzhK0 := Keep.size hK0
        replace ho15 := Led.keep ho15 k172 (fun _ _ f => f)
        have hb172lt := hb172.lt
        refine OI_end rfl ?_
        refine X_then ?_
        refine V_seq ?_
        refine V_seq ?_
        refine V_region ?_
        refine OI_static 1 [(5, .pointer (some ⟨b1, 0, none⟩)), (7, .pointer (some ⟨l7, 0, none⟩)), (9, .pointer (some ⟨b170, 0, none⟩)), (10, .pointer (some ⟨b172, 0, none⟩)), (11, .int .i64 0)] (by kernel_rfl) ?_
        refine OI_end rfl ?_
        refine X_then ?_
        refine V_block ?_
        refine V_pick [(5, .pointer (some ⟨b1, 0, none⟩)), (7, .pointer (some ⟨l7, 0, none⟩)), (9, .pointer (some ⟨b170, 0, none⟩)), (10, .pointer (some ⟨b172, 0, none⟩)), (11, .int .i64 0)] rfl ?_
        refine V_loop (fun k wI e => ∃ j : Nat, (k + j = 10) ∧ (Blk wI b170 (arrL Acc.free (newX (msk fs) 10) j) 42) ∧ (Blk wI b172 (arrL Acc.held (newX (msk fs) 10) j) 42) ∧ Keep (fun q => q = b170 ∨ q = b172) w172 wI ∧ e = [(5, .pointer (some ⟨b1, 0, none⟩)), (7, .pointer (some ⟨l7, 0, none⟩)), (9, .pointer (some ⟨b170, 0, none⟩)), (10, .pointer (some ⟨b172, 0, none⟩)), (11, .int .i64 ((j : Nat) : Int))]) 10 ⟨0, by omega, hb170, hb172, Keep.refl _ _, rfl⟩ ?_
        rintro k175 w174 _ ⟨j, hkj, haf, hah, hk176, rfl⟩
        have hsz177 := Keep.size hk176
        replace hb1 := hb1.keep hk176 (by show ¬ (b1 = b170 ∨ b1 = b172); omega)
        have hb1lt := hb1.lt
        replace hA := ArgT.keep hA hk176 hA0 (fun k hk hs => by have hs2 : k = b170 ∨ k = b172 := hs; omega)
        replace hB := ArgT.keep hB hk176 hB0 (fun k hk hs => by have hs2 : k = b170 ∨ k = b172 := hs; omega)
        replace hK0 := Keep.fresh hK0 hk176 (by intro i hi hs; first | exact hs | (exfalso; have hs2 : i = b170 ∨ i = b172 := hs; omega)); have hzhK0 := Keep.size hK0
        replace ho15 := Led.keep ho15 hk176 (fun q hq hs => by have hs2 : q = b170 ∨ q = b172 := hs; have g0 := own16 q hq; have g1 := lt22 q hq; omega)
        have hzhk176 := Keep.size hk176
        have hb170lt := haf.lt
        have hb172lt := hah.lt
        refine V_seq ?_
        refine V_seq ?_
        refine V_region ?_
        refine OI_static 2 [(5, .pointer (some ⟨b1, 0, none⟩)), (7, .pointer (some ⟨l7, 0, none⟩)), (9, .pointer (some ⟨b170, 0, none⟩)), (10, .pointer (some ⟨b172, 0, none⟩)), (11, .int .i64 ((j : Nat) : Int)), (54, .bool (decide (((j : Nat) : Int) < 10)))] (by kernel_rfl) ?_
        refine OI_end rfl ?_
        refine X_then ?_
        refine V_if (((j : Nat) : Int) < 10) (by kernel_rfl) (fun hc178 => ?_) (fun hc178 => ?_)
        · skip
          refine V_skip ?_
          refine X_then ?_
          refine V_seq ?_
          refine V_block ?_
          refine V_draws (acts [4, 7, 9, 11]) none_ [[2, 3, 4, 5, 6, 7, 0, 8, 9, 1, 10, 11]] (by kernel_rfl) (by repeat first | exact sure_body (by rintro _ _ ⟨h, _⟩; exact ⟨_, h⟩) | refine sure_then ?_ | refine sure_block ?_ | refine sure_join ?_) (by kernel_rfl) ?_
          intro w180 hk179 he181 L hL182
          have hsz183 := Keep.size hk179
          replace hb1 := hb1.keep hk179 (fun f => f)
          have hb1lt := hb1.lt
          replace haf := haf.keep hk179 (fun f => f)
          have hb170lt := haf.lt
          replace hah := hah.keep hk179 (fun f => f)
          have hb172lt := hah.lt
          replace hA := ArgT.keep0 hA hk179
          replace hB := ArgT.keep0 hB hk179
          replace hK0 := Keep.tr hK0 (Keep.ofNone hk179); have hzhK0 := Keep.size hK0
          replace ho15 := Led.keep ho15 hk179 (fun _ _ f => f)
          replace hk176 := Keep.tr hk176 (Keep.ofNone hk179); have hzhk176 := Keep.size hk176
          have qhb1 := hb1
          have qhaf := haf
          have qhah := hah
          have K184 : Keep none_ w180 w180 := Keep.refl _ _
          obtain rfl := List.mem_singleton.1 hL182
          refine GI_static [4, 5, 6, 7, 0, 8, 9, 1, 10, 11] [(5, .pointer (some ⟨b1, 0, none⟩)), (7, .pointer (some ⟨l7, 0, none⟩)), (9, .pointer (some ⟨b170, 0, none⟩)), (10, .pointer (some ⟨b172, 0, none⟩)), (11, .int .i64 ((j : Nat) : Int)), (59, .pointer (some ⟨l7, 0, none⟩)), (60, .int .i64 ((j : Nat) : Int))] (by kernel_rfl) ?_
          refine GI_call0 { callee := (Callee.value (Operand.func 20)), args := #[(Operand.tmp 59), (Operand.tmp 60)], argTypes := #[22, 3] } 20 #[.pointer (some ⟨l7, 0, none⟩), .int .i64 ((j : Nat) : Int)] (some 61) (by kernel_rfl) (by kernel_rfl) (by kernel_rfl) (by kernel_rfl) (by kernel_rfl) (free_spec F14 l7 (newX (msk fs) 10) C ((j : Nat) : Int) _ ho15) ?_
          rintro _ w185 ⟨rfl, hk186⟩
          refine ⟨_, rfl, ?_⟩
          have hsz187 := Keep.size hk186
          replace hb1 := hb1.keep hk186 (fun f => f)
          have hb1lt := hb1.lt
          replace haf := haf.keep hk186 (fun f => f)
          have hb170lt := haf.lt
          replace hah := hah.keep hk186 (fun f => f)
          have hb172lt := hah.lt
          replace hA := ArgT.keep0 hA hk186
          replace hB := ArgT.keep0 hB hk186
          replace hK0 := Keep.tr hK0 (Keep.ofNone hk186); have hzhK0 := Keep.size hK0
          replace ho15 := Led.keep ho15 hk186 (fun _ _ f => f)
          replace hk176 := Keep.tr hk176 (Keep.ofNone hk186); have hzhk176 := Keep.size hk176
          refine GI_static [7, 0, 8, 9, 1, 10, 11] [(5, .pointer (some ⟨b1, 0, none⟩)), (7, .pointer (some ⟨l7, 0, none⟩)), (9, .pointer (some ⟨b170, 0, none⟩)), (10, .pointer (some ⟨b172, 0, none⟩)), (11, .int .i64 ((j : Nat) : Int)), (61, .int .i64 ((acct (newX (msk fs) 10) ((j : Nat) : Int)).free)), (62, .pointer (some ⟨l7, 0, none⟩)), (63, .int .i64 ((j : Nat) : Int))] (by kernel_rfl) ?_
          refine GI_call0 { callee := (Callee.value (Operand.func 22)), args := #[(Operand.tmp 62), (Operand.tmp 63)], argTypes := #[22, 3] } 22 #[.pointer (some ⟨l7, 0, none⟩), .int .i64 ((j : Nat) : Int)] (some 64) (by kernel_rfl) (by kernel_rfl) (by kernel_rfl) (by kernel_rfl) (by kernel_rfl) (held_spec F14 l7 (newX (msk fs) 10) C ((j : Nat) : Int) _ ho15) ?_
          rintro _ w188 ⟨rfl, hk189⟩
          refine ⟨_, rfl, ?_⟩
          have hsz190 := Keep.size hk189
          replace hb1 := hb1.keep hk189 (fun f => f)
          have hb1lt := hb1.lt
          replace haf := haf.keep hk189 (fun f => f)
          have hb170lt := haf.lt
          replace hah := hah.keep hk189 (fun f => f)
          have hb172lt := hah.lt
          replace hA := ArgT.keep0 hA hk189
          replace hB := ArgT.keep0 hB hk189
          replace hK0 := Keep.tr hK0 (Keep.ofNone hk189); have hzhK0 := Keep.size hK0
          replace ho15 := Led.keep ho15 hk189 (fun _ _ f => f)
          replace hk176 := Keep.tr hk176 (Keep.ofNone hk189); have hzhk176 := Keep.size hk176
          refine GI_static [8, 9, 1, 10, 11] [(5, .pointer (some ⟨b1, 0, none⟩)), (7, .pointer (some ⟨l7, 0, none⟩)), (9, .pointer (some ⟨b170, 0, none⟩)), (10, .pointer (some ⟨b172, 0, none⟩)), (11, .int .i64 ((j : Nat) : Int)), (57, .int .i64 ((j : Nat) : Int)), (61, .int .i64 ((acct (newX (msk fs) 10) ((j : Nat) : Int)).free)), (64, .int .i64 ((acct (newX (msk fs) 10) ((j : Nat) : Int)).held))] (by kernel_rfl) ?_
          refine GI_pure (some 65) (.indexAddr 42 (.tmp 9) (.tmp 57)) (by kernel_rfl) (by kernel_rfl) (pure_idxArr (b := b170) (o := 0) (m := 10) (kd := .i64) (j := j) (E := 3) (sz := 1) (by kernel_rfl) (by kernel_rfl) (by kernel_rfl) (by omega)) ?_
          refine GI_set0 (m := 1) (kd := false) 3 (.tmp 65) (.tmp 61) (0 + j * 1) (.int .i64 ((acct (newX (msk fs) 10) ((j : Nat) : Int)).free)) [.int .i64 ((acct (newX (msk fs) 10) ((j : Nat) : Int)).free)] none (by kernel_rfl) (by kernel_rfl) (by kernel_rfl) (by kernel_rfl) (by kernel_rfl) haf (by kernel_rfl) (by kernel_rfl) (by kernel_rfl) (by rw [arrL_len]; omega) (by simp [Value.oneCell']) ?_
          intro w191 hb170_194 hk192 hz193
          replace hb170_194 : Blk w191 b170 (arrL Acc.free (newX (msk fs) 10) (j + 1)) 42 := (by rw [← arrL_put Acc.free (newX (msk fs) 10) (by omega)]; exact hb170_194)
          have hsz195 := Keep.size hk192
          replace hb1 := hb1.keep hk192 (by show ¬ (_ = _); omega)
          have hb1lt := hb1.lt
          replace hah := hah.keep hk192 (by show ¬ (_ = _); omega)
          have hb172lt := hah.lt
          replace hA := ArgT.keep hA hk192 hA0 (fun k hk hs => by have hs : k = b170 := hs; omega)
          replace hB := ArgT.keep hB hk192 hB0 (fun k hk hs => by have hs : k = b170 := hs; omega)
          replace hK0 := Keep.fresh hK0 hk192 (by intro i hi hs; first | exact hs | exact Or.inl hs | exact Or.inr hs | (exfalso; have hs2 : i = b170 := hs; omega)); have hzhK0 := Keep.size hK0
          replace ho15 := Led.keep ho15 hk192 (fun q hq hs => by have hs : q = b170 := hs; have g0 := own16 q hq; have g1 := lt22 q hq; omega)
          replace hk176 := Keep.fresh hk176 hk192 (by intro i hi hs; first | exact hs | exact Or.inl hs | exact Or.inr hs | (exfalso; have hs2 : i = b170 := hs; omega)); have hzhk176 := Keep.size hk176
          refine GI_static [10, 11] [(5, .pointer (some ⟨b1, 0, none⟩)), (7, .pointer (some ⟨l7, 0, none⟩)), (9, .pointer (some ⟨b170, 0, none⟩)), (10, .pointer (some ⟨b172, 0, none⟩)), (11, .int .i64 ((j : Nat) : Int)), (58, .int .i64 ((j : Nat) : Int)), (64, .int .i64 ((acct (newX (msk fs) 10) ((j : Nat) : Int)).held))] (by kernel_rfl) ?_
          refine GI_pure (some 66) (.indexAddr 42 (.tmp 10) (.tmp 58)) (by kernel_rfl) (by kernel_rfl) (pure_idxArr (b := b172) (o := 0) (m := 10) (kd := .i64) (j := j) (E := 3) (sz := 1) (by kernel_rfl) (by kernel_rfl) (by kernel_rfl) (by omega)) ?_
          refine GI_final 11 (by kernel_rfl) (by kernel_rfl) ?_
          refine OI_set (m := 1) (kd := false) 3 (.tmp 66) (.tmp 64) (0 + j * 1) (.int .i64 ((acct (newX (msk fs) 10) ((j : Nat) : Int)).held)) [.int .i64 ((acct (newX (msk fs) 10) ((j : Nat) : Int)).held)] none (by kernel_rfl) (by kernel_rfl) (by kernel_rfl) hah (by kernel_rfl) (by kernel_rfl) (by kernel_rfl) (by rw [arrL_len]; omega) (by simp [Value.oneCell']) ?_
          intro w196 hb172_199 hk197 hz198
          replace hb172_199 : Blk w196 b172 (arrL Acc.held (newX (msk fs) 10) (j + 1)) 42 := (by rw [← arrL_put Acc.held (newX (msk fs) 10) (by omega)]; exact hb172_199)
          have hsz200 := Keep.size hk197
          replace hb1 := hb1.keep hk197 (by show ¬ (_ = _); omega)
          have hb1lt := hb1.lt
          replace hb170_194 := hb170_194.keep hk197 (by show ¬ (_ = _); omega)
          have hb170lt := hb170_194.lt
          replace hA := ArgT.keep hA hk197 hA0 (fun k hk hs => by have hs : k = b172 := hs; omega)
          replace hB := ArgT.keep hB hk197 hB0 (fun k hk hs => by have hs : k = b172 := hs; omega)
          replace hK0 := Keep.fresh hK0 hk197 (by intro i hi hs; first | exact hs | exact Or.inl hs | exact Or.inr hs | (exfalso; have hs2 : i = b172 := hs; omega)); have hzhK0 := Keep.size hK0
          replace ho15 := Led.keep ho15 hk197 (fun q hq hs => by have hs : q = b172 := hs; have g0 := own16 q hq; have g1 := lt22 q hq; omega)
          replace hk176 := Keep.fresh hk176 hk197 (by intro i hi hs; first | exact hs | exact Or.inl hs | exact Or.inr hs | (exfalso; have hs2 : i = b172 := hs; omega)); have hzhk176 := Keep.size hk176
          refine OI_end rfl ?_
          refine X_block ?_
          refine X_then ?_
          refine V_region ?_
          have hw201 : IntKind.i64.wrap (((j : Nat) : Int) + 1) = ((j + 1 : Nat) : Int) := (wrap64_id (by omega) (by omega)).trans (by omega)
          refine OI_static 2 [(5, .pointer (some ⟨b1, 0, none⟩)), (7, .pointer (some ⟨l7, 0, none⟩)), (9, .pointer (some ⟨b170, 0, none⟩)), (10, .pointer (some ⟨b172, 0, none⟩)), (56, .int .i64 (IntKind.i64.wrap (((j : Nat) : Int) + 1)))] (by kernel_rfl) ?_
          refine OI_eq [(5, .pointer (some ⟨b1, 0, none⟩)), (7, .pointer (some ⟨l7, 0, none⟩)), (9, .pointer (some ⟨b170, 0, none⟩)), (10, .pointer (some ⟨b172, 0, none⟩)), (56, .int .i64 ((j + 1 : Nat) : Int))] (by rw [hw201]) ?_
          refine OI_static 3 [(5, .pointer (some ⟨b1, 0, none⟩)), (7, .pointer (some ⟨l7, 0, none⟩)), (9, .pointer (some ⟨b170, 0, none⟩)), (10, .pointer (some ⟨b172, 0, none⟩)), (11, .int .i64 ((j + 1 : Nat) : Int))] (by kernel_rfl) ?_
          refine OI_end rfl ?_
          exact V_again (k175 - 1) (by omega) [(5, .pointer (some ⟨b1, 0, none⟩)), (7, .pointer (some ⟨l7, 0, none⟩)), (9, .pointer (some ⟨b170, 0, none⟩)), (10, .pointer (some ⟨b172, 0, none⟩)), (11, .int .i64 ((j + 1 : Nat) : Int))] rfl ⟨j + 1, by omega, hb170_194, hb172_199, hk176, rfl⟩
        · skip
          obtain rfl : j = 10 := by omega
          refine V_exit ?_
          refine X_exit_then ?_
          refine X_exit_then ?_
          refine X_exit_here ?_
          refine X_then ?_
          refine V_seq ?_
          refine V_region ?_
          refine OI_static 1 [(5, .pointer (some ⟨b1, 0, none⟩)), (7, .pointer (some ⟨l7, 0, none⟩)), (9, .pointer (some ⟨b170, 0, none⟩)), (10, .pointer (some ⟨b172, 0, none⟩)), (12, .int .i64 0)] (by kernel_rfl) ?_
          refine OI_end rfl ?_
          refine X_then ?_
          refine V_seq ?_
          refine V_seq ?_
          refine V_region ?_
          refine OI_static 1 [(5, .pointer (some ⟨b1, 0, none⟩)), (7, .pointer (some ⟨l7, 0, none⟩)), (9, .pointer (some ⟨b170, 0, none⟩)), (10, .pointer (some ⟨b172, 0, none⟩)), (12, .int .i64 0), (67, .pointer (some ⟨b1, 0, none⟩))] (by kernel_rfl) ?_
          refine OI_cell 3 (.tmp 67) 0 (.int .i64 z.k) (some 68) (by kernel_rfl) (by kernel_rfl) hb1 (m := 1) (by kernel_rfl) rfl ?_
          refine OI_end rfl ?_
          refine X_then ?_
          refine V_blockJ (fun wI e => ∃ X2 : List Acc, ∃ e2 : Int, ∃ F202 : Nat → Prop, (e2 ≠ 0 → X2 = (newX (msk fs) 10)) ∧ (Led F202 wI l7 X2 C) ∧ (∀ q, F202 q → w1.heap.size ≤ q ∧ q ≠ b1 ∧ q ≠ b170 ∧ q ≠ b172) ∧ (∀ q, F202 q → F14 q ∨ w174.heap.size ≤ q) ∧ Keep F14 w174 wI ∧ e = [(7, .pointer (some ⟨l7, 0, none⟩)), (9, .pointer (some ⟨b170, 0, none⟩)), (10, .pointer (some ⟨b172, 0, none⟩)), (12, .int .i64 e2)]) ?_ ?_
          · skip
            have hk206 : Keep F14 w174 w174 := Keep.refl _ _
            have rel207 : ∀ q, F14 q → F14 q ∨ w174.heap.size ≤ q := fun q h => .inl h
            refine V_seq ?_
            refine V_region ?_
            refine OI_static 2 [(5, .pointer (some ⟨b1, 0, none⟩)), (7, .pointer (some ⟨l7, 0, none⟩)), (9, .pointer (some ⟨b170, 0, none⟩)), (10, .pointer (some ⟨b172, 0, none⟩)), (12, .int .i64 0), (68, .int .i64 z.k), (69, .bool (decide (z.k = 1)))] (by kernel_rfl) ?_
            refine OI_end rfl ?_
            refine X_then ?_
            refine V_if (z.k = 1) (by kernel_rfl) (fun hc208 => ?_) (fun hc208 => ?_)
            · skip
              refine V_region ?_
              refine OI_static 2 [(5, .pointer (some ⟨b1, 0, none⟩)), (7, .pointer (some ⟨l7, 0, none⟩)), (9, .pointer (some ⟨b170, 0, none⟩)), (10, .pointer (some ⟨b172, 0, none⟩)), (71, .pointer (some ⟨l7, 0, none⟩)), (72, .pointer (some ⟨b1, 1, none⟩))] (by kernel_rfl) ?_
              refine OI_cell 3 (.tmp 72) 1 (.int .i64 z.a) (some 73) (by kernel_rfl) (by kernel_rfl) hb1 (m := 1) (by kernel_rfl) rfl ?_
              refine OI_static 4 [(5, .pointer (some ⟨b1, 0, none⟩)), (7, .pointer (some ⟨l7, 0, none⟩)), (9, .pointer (some ⟨b170, 0, none⟩)), (10, .pointer (some ⟨b172, 0, none⟩)), (71, .pointer (some ⟨l7, 0, none⟩)), (73, .int .i64 z.a), (74, .pointer (some ⟨b1, 2, none⟩))] (by kernel_rfl) ?_
              refine OI_cell 3 (.tmp 74) 2 (.int .i64 z.b) (some 75) (by kernel_rfl) (by kernel_rfl) hb1 (m := 1) (by kernel_rfl) rfl ?_
              refine OI_static 6 [(7, .pointer (some ⟨l7, 0, none⟩)), (9, .pointer (some ⟨b170, 0, none⟩)), (10, .pointer (some ⟨b172, 0, none⟩)), (71, .pointer (some ⟨l7, 0, none⟩)), (73, .int .i64 z.a), (75, .int .i64 z.b), (76, .pointer (some ⟨b1, 3, none⟩))] (by kernel_rfl) ?_
              refine OI_cell 3 (.tmp 76) 3 (.int .i64 z.n) (some 77) (by kernel_rfl) (by kernel_rfl) hb1 (m := 1) (by kernel_rfl) rfl ?_
              refine OI_call { callee := (Callee.value (Operand.func 17)), args := #[(Operand.tmp 71), (Operand.tmp 73), (Operand.tmp 75), (Operand.tmp 77)], argTypes := #[22, 3, 3, 3] } 17 #[.pointer (some ⟨l7, 0, none⟩), .int .i64 z.a, .int .i64 z.b, .int .i64 z.n] (some 78) (by kernel_rfl) (by kernel_rfl) (by kernel_rfl) (transfer_spec F14 l7 (newX (msk fs) 10) C z.a z.b z.n _ ho15) ?_
              rintro _ w211 ⟨rfl, ⟨F213, ho214, hfr215⟩, hk212⟩
              refine ⟨_, rfl, ?_⟩
              have hsz216 := Keep.size hk212
              replace hb1 := hb1.keep hk212 (fun hs => by have h1 := own16 _ hs; have h2 := lt22 _ hs; omega)
              have hb1lt := hb1.lt
              replace haf := haf.keep hk212 (fun hs => by have h1 := own16 _ hs; have h2 := lt22 _ hs; omega)
              have hb170lt := haf.lt
              replace hah := hah.keep hk212 (fun hs => by have h1 := own16 _ hs; have h2 := lt22 _ hs; omega)
              have hb172lt := hah.lt
              replace hA := ArgT.keep hA hk212 hA0 (fun k hk hs => by have h1 := own16 k hs; have h2 := lt22 k hs; omega)
              replace hB := ArgT.keep hB hk212 hB0 (fun k hk hs => by have h1 := own16 k hs; have h2 := lt22 k hs; omega)
              replace hK0 := Keep.fresh hK0 hk212 (by intro i hi hs; first | exact hs | (exfalso; have h1 := own16 i hs; have h2 := lt22 i hs; omega) | (have h1 := own16 i hs; have h2 := lt22 i hs; show _ ∨ _; omega)); have hzhK0 := Keep.size hK0
              replace hk206 := Keep.fresh hk206 hk212 (fun i hi hs => by rcases rel207 i hs with h | h; exact h; (exfalso; omega)); have hzhk206 := Keep.size hk206
              have own218 : ∀ q, F213 q → w1.heap.size ≤ q ∧ q ≠ b1 ∧ q ≠ b170 ∧ q ≠ b172 := fun q hq => by rcases hfr215 q hq with h | h; (have h1 := own16 q h; have h2 := lt22 q h; omega); omega
              have lt217 := Led.lt ho214
              have rel219 : ∀ q, F213 q → F8 q ∨ w5.heap.size ≤ q := fun q hq => by rcases hfr215 q hq with h | h; exact rel17 q h; exact .inr (by omega)
              have rel220 : ∀ q, F213 q → F14 q ∨ w174.heap.size ≤ q := fun q hq => by rcases hfr215 q hq with h | h; exact rel207 q h; exact .inr (by omega)
              refine OI_static 9 [(7, .pointer (some ⟨l7, 0, none⟩)), (9, .pointer (some ⟨b170, 0, none⟩)), (10, .pointer (some ⟨b172, 0, none⟩)), (12, .int .i64 (transE (newX (msk fs) 10) C z.a z.b z.n))] (by kernel_rfl) ?_
              refine OI_end rfl ?_
              refine X_block ?_
              exact X_join [(7, .pointer (some ⟨l7, 0, none⟩)), (9, .pointer (some ⟨b170, 0, none⟩)), (10, .pointer (some ⟨b172, 0, none⟩)), (12, .int .i64 (transE (newX (msk fs) 10) C z.a z.b z.n))] rfl ⟨(transX (newX (msk fs) 10) C z.a z.b z.n), transE (newX (msk fs) 10) C z.a z.b z.n, F213, fun h => trans_err h, ho214, (fun q hq => by have h1 := own218 q hq; have h2 := lt217 q hq; omega), rel220, hk206, rfl⟩
            · skip
              refine V_seq ?_
              refine V_region ?_
              refine OI_static 2 [(5, .pointer (some ⟨b1, 0, none⟩)), (7, .pointer (some ⟨l7, 0, none⟩)), (9, .pointer (some ⟨b170, 0, none⟩)), (10, .pointer (some ⟨b172, 0, none⟩)), (12, .int .i64 0), (68, .int .i64 z.k), (79, .bool (decide (z.k = 2)))] (by kernel_rfl) ?_
              refine OI_end rfl ?_
              refine X_then ?_
              refine V_if (z.k = 2) (by kernel_rfl) (fun hc221 => ?_) (fun hc221 => ?_)
              · skip
                refine V_region ?_
                refine OI_static 2 [(5, .pointer (some ⟨b1, 0, none⟩)), (7, .pointer (some ⟨l7, 0, none⟩)), (9, .pointer (some ⟨b170, 0, none⟩)), (10, .pointer (some ⟨b172, 0, none⟩)), (81, .pointer (some ⟨l7, 0, none⟩)), (82, .pointer (some ⟨b1, 1, none⟩))] (by kernel_rfl) ?_
                refine OI_cell 3 (.tmp 82) 1 (.int .i64 z.a) (some 83) (by kernel_rfl) (by kernel_rfl) hb1 (m := 1) (by kernel_rfl) rfl ?_
                refine OI_static 4 [(7, .pointer (some ⟨l7, 0, none⟩)), (9, .pointer (some ⟨b170, 0, none⟩)), (10, .pointer (some ⟨b172, 0, none⟩)), (81, .pointer (some ⟨l7, 0, none⟩)), (83, .int .i64 z.a), (84, .pointer (some ⟨b1, 3, none⟩))] (by kernel_rfl) ?_
                refine OI_cell 3 (.tmp 84) 3 (.int .i64 z.n) (some 85) (by kernel_rfl) (by kernel_rfl) hb1 (m := 1) (by kernel_rfl) rfl ?_
                refine OI_call { callee := (Callee.value (Operand.func 21)), args := #[(Operand.tmp 81), (Operand.tmp 83), (Operand.tmp 85)], argTypes := #[22, 3, 3] } 21 #[.pointer (some ⟨l7, 0, none⟩), .int .i64 z.a, .int .i64 z.n] (some 86) (by kernel_rfl) (by kernel_rfl) (by kernel_rfl) (reserve_spec F14 l7 (newX (msk fs) 10) C z.a z.n _ ho15) ?_
                rintro _ w224 ⟨rfl, ⟨F226, ho227, hfr228⟩, hk225⟩
                refine ⟨_, rfl, ?_⟩
                have hsz229 := Keep.size hk225
                replace hb1 := hb1.keep hk225 (fun hs => by have h1 := own16 _ hs; have h2 := lt22 _ hs; omega)
                have hb1lt := hb1.lt
                replace haf := haf.keep hk225 (fun hs => by have h1 := own16 _ hs; have h2 := lt22 _ hs; omega)
                have hb170lt := haf.lt
                replace hah := hah.keep hk225 (fun hs => by have h1 := own16 _ hs; have h2 := lt22 _ hs; omega)
                have hb172lt := hah.lt
                replace hA := ArgT.keep hA hk225 hA0 (fun k hk hs => by have h1 := own16 k hs; have h2 := lt22 k hs; omega)
                replace hB := ArgT.keep hB hk225 hB0 (fun k hk hs => by have h1 := own16 k hs; have h2 := lt22 k hs; omega)
                replace hK0 := Keep.fresh hK0 hk225 (by intro i hi hs; first | exact hs | (exfalso; have h1 := own16 i hs; have h2 := lt22 i hs; omega) | (have h1 := own16 i hs; have h2 := lt22 i hs; show _ ∨ _; omega)); have hzhK0 := Keep.size hK0
                replace hk206 := Keep.fresh hk206 hk225 (fun i hi hs => by rcases rel207 i hs with h | h; exact h; (exfalso; omega)); have hzhk206 := Keep.size hk206
                have own231 : ∀ q, F226 q → w1.heap.size ≤ q ∧ q ≠ b1 ∧ q ≠ b170 ∧ q ≠ b172 := fun q hq => by rcases hfr228 q hq with h | h; (have h1 := own16 q h; have h2 := lt22 q h; omega); omega
                have lt230 := Led.lt ho227
                have rel232 : ∀ q, F226 q → F8 q ∨ w5.heap.size ≤ q := fun q hq => by rcases hfr228 q hq with h | h; exact rel17 q h; exact .inr (by omega)
                have rel233 : ∀ q, F226 q → F14 q ∨ w174.heap.size ≤ q := fun q hq => by rcases hfr228 q hq with h | h; exact rel207 q h; exact .inr (by omega)
                refine OI_static 7 [(7, .pointer (some ⟨l7, 0, none⟩)), (9, .pointer (some ⟨b170, 0, none⟩)), (10, .pointer (some ⟨b172, 0, none⟩)), (12, .int .i64 (spendsE (newX (msk fs) 10) C z.a z.n))] (by kernel_rfl) ?_
                refine OI_end rfl ?_
                refine X_block ?_
                exact X_join [(7, .pointer (some ⟨l7, 0, none⟩)), (9, .pointer (some ⟨b170, 0, none⟩)), (10, .pointer (some ⟨b172, 0, none⟩)), (12, .int .i64 (spendsE (newX (msk fs) 10) C z.a z.n))] rfl ⟨(resX (newX (msk fs) 10) C z.a z.n), spendsE (newX (msk fs) 10) C z.a z.n, F226, fun h => (res_err h).1, ho227, (fun q hq => by have h1 := own231 q hq; have h2 := lt230 q hq; omega), rel233, hk206, rfl⟩
              · skip
                refine V_seq ?_
                refine V_region ?_
                refine OI_static 2 [(5, .pointer (some ⟨b1, 0, none⟩)), (7, .pointer (some ⟨l7, 0, none⟩)), (9, .pointer (some ⟨b170, 0, none⟩)), (10, .pointer (some ⟨b172, 0, none⟩)), (12, .int .i64 0), (68, .int .i64 z.k), (87, .bool (decide (z.k = 6)))] (by kernel_rfl) ?_
                refine OI_end rfl ?_
                refine X_then ?_
                refine V_if (z.k = 6) (by kernel_rfl) (fun hc234 => ?_) (fun hc234 => ?_)
                · skip
                  refine V_region ?_
                  refine OI_static 2 [(5, .pointer (some ⟨b1, 0, none⟩)), (7, .pointer (some ⟨l7, 0, none⟩)), (9, .pointer (some ⟨b170, 0, none⟩)), (10, .pointer (some ⟨b172, 0, none⟩)), (89, .pointer (some ⟨l7, 0, none⟩)), (90, .pointer (some ⟨b1, 1, none⟩))] (by kernel_rfl) ?_
                  refine OI_cell 3 (.tmp 90) 1 (.int .i64 z.a) (some 91) (by kernel_rfl) (by kernel_rfl) hb1 (m := 1) (by kernel_rfl) rfl ?_
                  refine OI_static 4 [(7, .pointer (some ⟨l7, 0, none⟩)), (9, .pointer (some ⟨b170, 0, none⟩)), (10, .pointer (some ⟨b172, 0, none⟩)), (89, .pointer (some ⟨l7, 0, none⟩)), (91, .int .i64 z.a), (92, .pointer (some ⟨b1, 3, none⟩))] (by kernel_rfl) ?_
                  refine OI_cell 3 (.tmp 92) 3 (.int .i64 z.n) (some 93) (by kernel_rfl) (by kernel_rfl) hb1 (m := 1) (by kernel_rfl) rfl ?_
                  refine OI_call { callee := (Callee.value (Operand.func 23)), args := #[(Operand.tmp 89), (Operand.tmp 91), (Operand.tmp 93)], argTypes := #[22, 3, 3] } 23 #[.pointer (some ⟨l7, 0, none⟩), .int .i64 z.a, .int .i64 z.n] (some 94) (by kernel_rfl) (by kernel_rfl) (by kernel_rfl) (mint_spec F14 l7 (newX (msk fs) 10) C z.a z.n _ ho15) ?_
                  rintro _ w237 ⟨rfl, ⟨F239, ho240, hfr241⟩, hk238⟩
                  refine ⟨_, rfl, ?_⟩
                  have hsz242 := Keep.size hk238
                  replace hb1 := hb1.keep hk238 (fun hs => by have h1 := own16 _ hs; have h2 := lt22 _ hs; omega)
                  have hb1lt := hb1.lt
                  replace haf := haf.keep hk238 (fun hs => by have h1 := own16 _ hs; have h2 := lt22 _ hs; omega)
                  have hb170lt := haf.lt
                  replace hah := hah.keep hk238 (fun hs => by have h1 := own16 _ hs; have h2 := lt22 _ hs; omega)
                  have hb172lt := hah.lt
                  replace hA := ArgT.keep hA hk238 hA0 (fun k hk hs => by have h1 := own16 k hs; have h2 := lt22 k hs; omega)
                  replace hB := ArgT.keep hB hk238 hB0 (fun k hk hs => by have h1 := own16 k hs; have h2 := lt22 k hs; omega)
                  replace hK0 := Keep.fresh hK0 hk238 (by intro i hi hs; first | exact hs | (exfalso; have h1 := own16 i hs; have h2 := lt22 i hs; omega) | (have h1 := own16 i hs; have h2 := lt22 i hs; show _ ∨ _; omega)); have hzhK0 := Keep.size hK0
                  replace hk206 := Keep.fresh hk206 hk238 (fun i hi hs => by rcases rel207 i hs with h | h; exact h; (exfalso; omega)); have hzhk206 := Keep.size hk206
                  have own244 : ∀ q, F239 q → w1.heap.size ≤ q ∧ q ≠ b1 ∧ q ≠ b170 ∧ q ≠ b172 := fun q hq => by rcases hfr241 q hq with h | h; (have h1 := own16 q h; have h2 := lt22 q h; omega); omega
                  have lt243 := Led.lt ho240
                  have rel245 : ∀ q, F239 q → F8 q ∨ w5.heap.size ≤ q := fun q hq => by rcases hfr241 q hq with h | h; exact rel17 q h; exact .inr (by omega)
                  have rel246 : ∀ q, F239 q → F14 q ∨ w174.heap.size ≤ q := fun q hq => by rcases hfr241 q hq with h | h; exact rel207 q h; exact .inr (by omega)
                  refine OI_static 7 [(7, .pointer (some ⟨l7, 0, none⟩)), (9, .pointer (some ⟨b170, 0, none⟩)), (10, .pointer (some ⟨b172, 0, none⟩)), (12, .int .i64 (mintE (newX (msk fs) 10) z.a z.n))] (by kernel_rfl) ?_
                  refine OI_end rfl ?_
                  refine X_block ?_
                  exact X_join [(7, .pointer (some ⟨l7, 0, none⟩)), (9, .pointer (some ⟨b170, 0, none⟩)), (10, .pointer (some ⟨b172, 0, none⟩)), (12, .int .i64 (mintE (newX (msk fs) 10) z.a z.n))] rfl ⟨(mintX (newX (msk fs) 10) z.a z.n), mintE (newX (msk fs) 10) z.a z.n, F239, fun h => mint_err h, ho240, (fun q hq => by have h1 := own244 q hq; have h2 := lt243 q hq; omega), rel246, hk206, rfl⟩
                · skip
                  refine V_seq ?_
                  refine V_region ?_
                  refine OI_static 2 [(5, .pointer (some ⟨b1, 0, none⟩)), (7, .pointer (some ⟨l7, 0, none⟩)), (9, .pointer (some ⟨b170, 0, none⟩)), (10, .pointer (some ⟨b172, 0, none⟩)), (12, .int .i64 0), (95, .bool (decide (z.k = 7)))] (by kernel_rfl) ?_
                  refine OI_end rfl ?_
                  refine X_then ?_
                  refine V_if (z.k = 7) (by kernel_rfl) (fun hc247 => ?_) (fun hc247 => ?_)
                  · skip
                    refine V_region ?_
                    refine OI_static 2 [(5, .pointer (some ⟨b1, 0, none⟩)), (7, .pointer (some ⟨l7, 0, none⟩)), (9, .pointer (some ⟨b170, 0, none⟩)), (10, .pointer (some ⟨b172, 0, none⟩)), (97, .pointer (some ⟨l7, 0, none⟩)), (98, .pointer (some ⟨b1, 1, none⟩))] (by kernel_rfl) ?_
                    refine OI_cell 3 (.tmp 98) 1 (.int .i64 z.a) (some 99) (by kernel_rfl) (by kernel_rfl) hb1 (m := 1) (by kernel_rfl) rfl ?_
                    refine OI_static 4 [(7, .pointer (some ⟨l7, 0, none⟩)), (9, .pointer (some ⟨b170, 0, none⟩)), (10, .pointer (some ⟨b172, 0, none⟩)), (97, .pointer (some ⟨l7, 0, none⟩)), (99, .int .i64 z.a), (100, .pointer (some ⟨b1, 3, none⟩))] (by kernel_rfl) ?_
                    refine OI_cell 3 (.tmp 100) 3 (.int .i64 z.n) (some 101) (by kernel_rfl) (by kernel_rfl) hb1 (m := 1) (by kernel_rfl) rfl ?_
                    refine OI_call { callee := (Callee.value (Operand.func 24)), args := #[(Operand.tmp 97), (Operand.tmp 99), (Operand.tmp 101)], argTypes := #[22, 3, 3] } 24 #[.pointer (some ⟨l7, 0, none⟩), .int .i64 z.a, .int .i64 z.n] (some 102) (by kernel_rfl) (by kernel_rfl) (by kernel_rfl) (burn_spec F14 l7 (newX (msk fs) 10) C z.a z.n _ ho15) ?_
                    rintro _ w250 ⟨rfl, ⟨F252, ho253, hfr254⟩, hk251⟩
                    refine ⟨_, rfl, ?_⟩
                    have hsz255 := Keep.size hk251
                    replace hb1 := hb1.keep hk251 (fun hs => by have h1 := own16 _ hs; have h2 := lt22 _ hs; omega)
                    have hb1lt := hb1.lt
                    replace haf := haf.keep hk251 (fun hs => by have h1 := own16 _ hs; have h2 := lt22 _ hs; omega)
                    have hb170lt := haf.lt
                    replace hah := hah.keep hk251 (fun hs => by have h1 := own16 _ hs; have h2 := lt22 _ hs; omega)
                    have hb172lt := hah.lt
                    replace hA := ArgT.keep hA hk251 hA0 (fun k hk hs => by have h1 := own16 k hs; have h2 := lt22 k hs; omega)
                    replace hB := ArgT.keep hB hk251 hB0 (fun k hk hs => by have h1 := own16 k hs; have h2 := lt22 k hs; omega)
                    replace hK0 := Keep.fresh hK0 hk251 (by intro i hi hs; first | exact hs | (exfalso; have h1 := own16 i hs; have h2 := lt22 i hs; omega) | (have h1 := own16 i hs; have h2 := lt22 i hs; show _ ∨ _; omega)); have hzhK0 := Keep.size hK0
                    replace hk206 := Keep.fresh hk206 hk251 (fun i hi hs => by rcases rel207 i hs with h | h; exact h; (exfalso; omega)); have hzhk206 := Keep.size hk206
                    have own257 : ∀ q, F252 q → w1.heap.size ≤ q ∧ q ≠ b1 ∧ q ≠ b170 ∧ q ≠ b172 := fun q hq => by rcases hfr254 q hq with h | h; (have h1 := own16 q h; have h2 := lt22 q h; omega); omega
                    have lt256 := Led.lt ho253
                    have rel258 : ∀ q, F252 q → F8 q ∨ w5.heap.size ≤ q := fun q hq => by rcases hfr254 q hq with h | h; exact rel17 q h; exact .inr (by omega)
                    have rel259 : ∀ q, F252 q → F14 q ∨ w174.heap.size ≤ q := fun q hq => by rcases hfr254 q hq with h | h; exact rel207 q h; exact .inr (by omega)
                    refine OI_static 7 [(7, .pointer (some ⟨l7, 0, none⟩)), (9, .pointer (some ⟨b170, 0, none⟩)), (10, .pointer (some ⟨b172, 0, none⟩)), (12, .int .i64 (spendsE (newX (msk fs) 10) C z.a z.n))] (by kernel_rfl) ?_
                    refine OI_end rfl ?_
                    refine X_block ?_
                    exact X_join [(7, .pointer (some ⟨l7, 0, none⟩)), (9, .pointer (some ⟨b170, 0, none⟩)), (10, .pointer (some ⟨b172, 0, none⟩)), (12, .int .i64 (spendsE (newX (msk fs) 10) C z.a z.n))] rfl ⟨(burnX (newX (msk fs) 10) C z.a z.n), spendsE (newX (msk fs) 10) C z.a z.n, F252, fun h => (res_err h).2, ho253, (fun q hq => by have h1 := own257 q hq; have h2 := lt256 q hq; omega), rel259, hk206, rfl⟩
                  · skip
                    refine V_skip ?_
                    refine X_block ?_
                    exact X_join [(7, .pointer (some ⟨l7, 0, none⟩)), (9, .pointer (some ⟨b170, 0, none⟩)), (10, .pointer (some ⟨b172, 0, none⟩)), (12, .int .i64 0)] rfl ⟨(newX (msk fs) 10), 0, F14, fun _ => rfl, ho15, (fun q hq => by have h1 := own16 q hq; have h2 := lt22 q hq; omega), rel207, hk206, rfl⟩
          · skip
            rintro w260 _ ⟨X2, e2, F202, he2, ho203, own204, rel205, hk261, rfl⟩
            have hsz262 := Keep.size hk261
            replace hb1 := hb1.keep hk261 (fun hs => by have h1 := own16 _ hs; have h2 := lt22 _ hs; omega)
            have hb1lt := hb1.lt
            replace haf := haf.keep hk261 (fun hs => by have h1 := own16 _ hs; have h2 := lt22 _ hs; omega)
            have hb170lt := haf.lt
            replace hah := hah.keep hk261 (fun hs => by have h1 := own16 _ hs; have h2 := lt22 _ hs; omega)
            have hb172lt := hah.lt
            replace hA := ArgT.keep hA hk261 hA0 (fun k hk hs => by have h1 := own16 k hs; have h2 := lt22 k hs; omega)
            replace hB := ArgT.keep hB hk261 hB0 (fun k hk hs => by have h1 := own16 k hs; have h2 := lt22 k hs; omega)
            replace hK0 := Keep.fresh hK0 hk261 (by intro i hi hs; have h1 := own16 i hs; have h2 := lt22 i hs; omega); have hzhK0 := Keep.size hK0
            have lt263 := Led.lt ho203
            have rel264 : ∀ q, F202 q → F8 q ∨ w5.heap.size ≤ q := fun q hq => by rcases rel205 q hq with h | h; exact rel17 q h; exact .inr (by omega)
            have hl7lt : l7 < w260.heap.size := Led.lt ho203 _ (Led.at_ ho203)
            refine X_then ?_
            refine V_seq ?_
            refine V_seq ?_
            refine V_region ?_
            refine OI_static 1 [(7, .pointer (some ⟨l7, 0, none⟩)), (9, .pointer (some ⟨b170, 0, none⟩)), (10, .pointer (some ⟨b172, 0, none⟩)), (12, .int .i64 e2), (13, .int .i64 0)] (by kernel_rfl) ?_
            refine OI_end rfl ?_
            refine X_then ?_
            refine V_block ?_
            refine V_pick [(7, .pointer (some ⟨l7, 0, none⟩)), (9, .pointer (some ⟨b170, 0, none⟩)), (10, .pointer (some ⟨b172, 0, none⟩)), (12, .int .i64 e2), (13, .int .i64 0)] rfl ?_
            refine V_loop (fun k wI e => ∃ q : Nat, (k + q = 10) ∧ Keep none_ w260 wI ∧ e = [(7, .pointer (some ⟨l7, 0, none⟩)), (9, .pointer (some ⟨b170, 0, none⟩)), (10, .pointer (some ⟨b172, 0, none⟩)), (12, .int .i64 e2), (13, .int .i64 ((q : Nat) : Int))]) 10 ⟨0, by omega, Keep.refl _ _, rfl⟩ ?_
            rintro k266 w265 _ ⟨q, hkq, hk267, rfl⟩
            have hsz268 := Keep.size hk267
            replace hb1 := hb1.keep hk267 (fun f => f)
            have hb1lt := hb1.lt
            replace haf := haf.keep hk267 (fun f => f)
            have hb170lt := haf.lt
            replace hah := hah.keep hk267 (fun f => f)
            have hb172lt := hah.lt
            replace hA := ArgT.keep0 hA hk267
            replace hB := ArgT.keep0 hB hk267
            replace hK0 := Keep.tr hK0 (Keep.ofNone hk267); have hzhK0 := Keep.size hK0
            replace ho203 := Led.keep ho203 hk267 (fun _ _ f => f)
            have hzhk267 := Keep.size hk267
            refine V_seq ?_
            refine V_seq ?_
            refine V_region ?_
            refine OI_static 3 [(7, .pointer (some ⟨l7, 0, none⟩)), (9, .pointer (some ⟨b170, 0, none⟩)), (10, .pointer (some ⟨b172, 0, none⟩)), (12, .int .i64 e2), (13, .int .i64 ((q : Nat) : Int)), (105, .bool (decide (((q : Nat) : Int) < 10)))] (by kernel_rfl) ?_
            by_cases hg269 : ((q : Nat) : Int) < 10
            · skip
              refine OI_eq [(7, .pointer (some ⟨l7, 0, none⟩)), (9, .pointer (some ⟨b170, 0, none⟩)), (10, .pointer (some ⟨b172, 0, none⟩)), (12, .int .i64 e2), (13, .int .i64 ((q : Nat) : Int)), (105, .bool true)] (by first | simp [hg269] | rfl) ?_
              refine OI_static 6 [(7, .pointer (some ⟨l7, 0, none⟩)), (9, .pointer (some ⟨b170, 0, none⟩)), (10, .pointer (some ⟨b172, 0, none⟩)), (12, .int .i64 e2), (13, .int .i64 ((q : Nat) : Int)), (106, .int .i64 e2), (107, .bool (!(decide (e2 = 0)))), (108, .bool (!(decide (e2 = 0))))] (by kernel_rfl) ?_
              refine OI_end rfl ?_
              refine X_then ?_
              refine V_not (e2 = 0) (by kernel_rfl) (fun hc270 => ?_) (fun hc270 => ?_)
              · skip
                refine V_skip ?_
                refine X_then ?_
                refine V_seq ?_
                refine V_block ?_
                refine V_seq ?_
                refine V_draws (acts [2, 10]) none_ [[0, 1, 2, 3, 4, 5, 6, 7, 8, 9, 10, 11, 12, 13, 14, 15]] (by kernel_rfl) (by repeat first | exact sure_body (by rintro _ _ ⟨h, _⟩; exact ⟨_, h⟩) | refine sure_then ?_ | refine sure_block ?_ | refine sure_join ?_) (by kernel_rfl) ?_
                intro w272 hk271 he273 L hL274
                have hsz275 := Keep.size hk271
                replace hb1 := hb1.keep hk271 (fun f => f)
                have hb1lt := hb1.lt
                replace haf := haf.keep hk271 (fun f => f)
                have hb170lt := haf.lt
                replace hah := hah.keep hk271 (fun f => f)
                have hb172lt := hah.lt
                replace hA := ArgT.keep0 hA hk271
                replace hB := ArgT.keep0 hB hk271
                replace hK0 := Keep.tr hK0 (Keep.ofNone hk271); have hzhK0 := Keep.size hK0
                replace ho203 := Led.keep ho203 hk271 (fun _ _ f => f)
                replace hk267 := Keep.tr hk267 (Keep.ofNone hk271); have hzhk267 := Keep.size hk267
                have qhb1 := hb1
                have qhaf := haf
                have qhah := hah
                have K276 : Keep none_ w272 w272 := Keep.refl _ _
                obtain rfl := List.mem_singleton.1 hL274
                refine GI_static [2, 3, 4, 5, 6, 7, 8, 9, 10, 11, 12, 13, 14, 15] [(7, .pointer (some ⟨l7, 0, none⟩)), (9, .pointer (some ⟨b170, 0, none⟩)), (10, .pointer (some ⟨b172, 0, none⟩)), (12, .int .i64 e2), (13, .int .i64 ((q : Nat) : Int)), (106, .int .i64 e2), (107, .bool (!(decide (e2 = 0)))), (111, .pointer (some ⟨l7, 0, none⟩)), (112, .int .i64 ((q : Nat) : Int))] (by kernel_rfl) ?_
                refine GI_call { callee := (Callee.value (Operand.func 20)), args := #[(Operand.tmp 111), (Operand.tmp 112)], argTypes := #[22, 3] } 20 #[.pointer (some ⟨l7, 0, none⟩), .int .i64 ((q : Nat) : Int)] (some 113) (by kernel_rfl) (by kernel_rfl) (by kernel_rfl) (by kernel_rfl) (free_spec F202 l7 X2 C ((q : Nat) : Int) _ ho203) ?_
                rintro _ w277 ⟨rfl, hk278⟩
                have K279 := K276.tr (Keep.ofNone hk278)
                refine ⟨_, rfl, K279, ?_⟩
                have hzK279 := Keep.size K279
                have hsz280 := Keep.size hk278
                replace hb1 := hb1.keep hk278 (fun f => f)
                have hb1lt := hb1.lt
                replace haf := haf.keep hk278 (fun f => f)
                have hb170lt := haf.lt
                replace hah := hah.keep hk278 (fun f => f)
                have hb172lt := hah.lt
                replace hA := ArgT.keep0 hA hk278
                replace hB := ArgT.keep0 hB hk278
                replace hK0 := Keep.tr hK0 (Keep.ofNone hk278); have hzhK0 := Keep.size hK0
                replace ho203 := Led.keep ho203 hk278 (fun _ _ f => f)
                replace hk267 := Keep.tr hk267 (Keep.ofNone hk278); have hzhk267 := Keep.size hk267
                refine GI_static [4, 5, 6, 7, 8, 9, 10, 11, 12, 13, 14, 15] [(7, .pointer (some ⟨l7, 0, none⟩)), (9, .pointer (some ⟨b170, 0, none⟩)), (10, .pointer (some ⟨b172, 0, none⟩)), (12, .int .i64 e2), (13, .int .i64 ((q : Nat) : Int)), (106, .int .i64 e2), (107, .bool (!(decide (e2 = 0)))), (113, .int .i64 ((acct X2 ((q : Nat) : Int)).free)), (114, .int .i64 ((q : Nat) : Int))] (by kernel_rfl) ?_
                refine GI_pure (some 115) (.indexAddr 42 (.tmp 9) (.tmp 114)) (by kernel_rfl) (by kernel_rfl) (pure_idxArr (b := b170) (o := 0) (m := 10) (kd := .i64) (j := q) (E := 3) (sz := 1) (by kernel_rfl) (by kernel_rfl) (by kernel_rfl) (by omega)) ?_
                refine GI_cell 3 (.tmp 115) (0 + q * 1) (.int .i64 ((acct (newX (msk fs) 10) ((q : Nat) : Int)).free)) (some 116) (by kernel_rfl) (by kernel_rfl) (by kernel_rfl) qhaf (fun f => f) (m := 1) (by kernel_rfl) (arrL_get Acc.free (newX (msk fs) 10) (by omega)) ?_
                refine GI_static [8, 9, 10, 11, 12, 13, 14, 15] [(7, .pointer (some ⟨l7, 0, none⟩)), (9, .pointer (some ⟨b170, 0, none⟩)), (10, .pointer (some ⟨b172, 0, none⟩)), (12, .int .i64 e2), (13, .int .i64 ((q : Nat) : Int)), (106, .int .i64 e2), (107, .bool (!(decide (e2 = 0)))), (118, .bool (!(decide ((acct X2 ((q : Nat) : Int)).free = (acct (newX (msk fs) 10) ((q : Nat) : Int)).free))))] (by kernel_rfl) ?_
                refine GI_eq [(7, .pointer (some ⟨l7, 0, none⟩)), (9, .pointer (some ⟨b170, 0, none⟩)), (10, .pointer (some ⟨b172, 0, none⟩)), (12, .int .i64 e2), (13, .int .i64 ((q : Nat) : Int)), (106, .int .i64 e2), (107, .bool (!(decide (e2 = 0)))), (118, .bool false)] (by rw [he2 hc270, decide_eq_true rfl]; rfl) ?_
                refine GI_static [10, 11, 12, 13, 14, 15] [(7, .pointer (some ⟨l7, 0, none⟩)), (9, .pointer (some ⟨b170, 0, none⟩)), (10, .pointer (some ⟨b172, 0, none⟩)), (12, .int .i64 e2), (13, .int .i64 ((q : Nat) : Int)), (106, .int .i64 e2), (107, .bool (!(decide (e2 = 0)))), (118, .bool false), (119, .pointer (some ⟨l7, 0, none⟩)), (120, .int .i64 ((q : Nat) : Int))] (by kernel_rfl) ?_
                refine GI_call { callee := (Callee.value (Operand.func 22)), args := #[(Operand.tmp 119), (Operand.tmp 120)], argTypes := #[22, 3] } 22 #[.pointer (some ⟨l7, 0, none⟩), .int .i64 ((q : Nat) : Int)] (some 121) (by kernel_rfl) (by kernel_rfl) (by kernel_rfl) (by kernel_rfl) (held_spec F202 l7 X2 C ((q : Nat) : Int) _ ho203) ?_
                rintro _ w282 ⟨rfl, hk283⟩
                have K284 := K279.tr (Keep.ofNone hk283)
                refine ⟨_, rfl, K284, ?_⟩
                have hzK284 := Keep.size K284
                have hsz285 := Keep.size hk283
                replace hb1 := hb1.keep hk283 (fun f => f)
                have hb1lt := hb1.lt
                replace haf := haf.keep hk283 (fun f => f)
                have hb170lt := haf.lt
                replace hah := hah.keep hk283 (fun f => f)
                have hb172lt := hah.lt
                replace hA := ArgT.keep0 hA hk283
                replace hB := ArgT.keep0 hB hk283
                replace hK0 := Keep.tr hK0 (Keep.ofNone hk283); have hzhK0 := Keep.size hK0
                replace ho203 := Led.keep ho203 hk283 (fun _ _ f => f)
                replace hk267 := Keep.tr hk267 (Keep.ofNone hk283); have hzhk267 := Keep.size hk267
                refine GI_static [12, 13, 14, 15] [(7, .pointer (some ⟨l7, 0, none⟩)), (9, .pointer (some ⟨b170, 0, none⟩)), (10, .pointer (some ⟨b172, 0, none⟩)), (12, .int .i64 e2), (13, .int .i64 ((q : Nat) : Int)), (106, .int .i64 e2), (107, .bool (!(decide (e2 = 0)))), (118, .bool false), (119, .pointer (some ⟨l7, 0, none⟩)), (120, .int .i64 ((q : Nat) : Int)), (121, .int .i64 ((acct X2 ((q : Nat) : Int)).held)), (122, .int .i64 ((q : Nat) : Int))] (by kernel_rfl) ?_
                refine GI_pure (some 123) (.indexAddr 42 (.tmp 10) (.tmp 122)) (by kernel_rfl) (by kernel_rfl) (pure_idxArr (b := b172) (o := 0) (m := 10) (kd := .i64) (j := q) (E := 3) (sz := 1) (by kernel_rfl) (by kernel_rfl) (by kernel_rfl) (by omega)) ?_
                refine GI_cell 3 (.tmp 123) (0 + q * 1) (.int .i64 ((acct (newX (msk fs) 10) ((q : Nat) : Int)).held)) (some 124) (by kernel_rfl) (by kernel_rfl) (by kernel_rfl) qhah (fun f => f) (m := 1) (by kernel_rfl) (arrL_get Acc.held (newX (msk fs) 10) (by omega)) ?_
                refine GI_static [] [(7, .pointer (some ⟨l7, 0, none⟩)), (9, .pointer (some ⟨b170, 0, none⟩)), (10, .pointer (some ⟨b172, 0, none⟩)), (12, .int .i64 e2), (13, .int .i64 ((q : Nat) : Int)), (106, .int .i64 e2), (107, .bool (!(decide (e2 = 0)))), (119, .pointer (some ⟨l7, 0, none⟩)), (120, .int .i64 ((q : Nat) : Int)), (121, .int .i64 ((acct X2 ((q : Nat) : Int)).held)), (122, .int .i64 ((q : Nat) : Int)), (123, .pointer (some ⟨b172, 0 + q * 1, none⟩)), (124, .int .i64 ((acct (newX (msk fs) 10) ((q : Nat) : Int)).held)), (125, .bool (!(decide ((acct X2 ((q : Nat) : Int)).held = (acct (newX (msk fs) 10) ((q : Nat) : Int)).held)))), (126, .bool (!(decide ((acct X2 ((q : Nat) : Int)).held = (acct (newX (msk fs) 10) ((q : Nat) : Int)).held))))] (by kernel_rfl) ?_
                refine GI_end ?_
                refine X_then ?_
                refine V_eq [(7, .pointer (some ⟨l7, 0, none⟩)), (9, .pointer (some ⟨b170, 0, none⟩)), (10, .pointer (some ⟨b172, 0, none⟩)), (12, .int .i64 e2), (13, .int .i64 ((q : Nat) : Int)), (106, .int .i64 e2), (107, .bool (!(decide (e2 = 0)))), (119, .pointer (some ⟨l7, 0, none⟩)), (120, .int .i64 ((q : Nat) : Int)), (121, .int .i64 ((acct X2 ((q : Nat) : Int)).held)), (122, .int .i64 ((q : Nat) : Int)), (123, .pointer (some ⟨b172, 0 + q * 1, none⟩)), (124, .int .i64 ((acct (newX (msk fs) 10) ((q : Nat) : Int)).held)), (125, .bool (!(decide ((acct X2 ((q : Nat) : Int)).held = (acct (newX (msk fs) 10) ((q : Nat) : Int)).held)))), (126, .bool false)] (by rw [he2 hc270, decide_eq_true rfl]; rfl) ?_
                refine V_false rfl ?_
                refine V_skip ?_
                refine X_block ?_
                refine X_then ?_
                refine V_region ?_
                have hw287 : IntKind.i64.wrap (((q : Nat) : Int) + 1) = ((q + 1 : Nat) : Int) := (wrap64_id (by omega) (by omega)).trans (by omega)
                refine OI_static 2 [(7, .pointer (some ⟨l7, 0, none⟩)), (9, .pointer (some ⟨b170, 0, none⟩)), (10, .pointer (some ⟨b172, 0, none⟩)), (12, .int .i64 e2), (106, .int .i64 e2), (107, .bool (!(decide (e2 = 0)))), (110, .int .i64 (IntKind.i64.wrap (((q : Nat) : Int) + 1))), (119, .pointer (some ⟨l7, 0, none⟩)), (120, .int .i64 ((q : Nat) : Int)), (121, .int .i64 ((acct X2 ((q : Nat) : Int)).held)), (122, .int .i64 ((q : Nat) : Int)), (123, .pointer (some ⟨b172, 0 + q * 1, none⟩)), (124, .int .i64 ((acct (newX (msk fs) 10) ((q : Nat) : Int)).held)), (125, .bool (!(decide ((acct X2 ((q : Nat) : Int)).held = (acct (newX (msk fs) 10) ((q : Nat) : Int)).held))))] (by kernel_rfl) ?_
                refine OI_eq [(7, .pointer (some ⟨l7, 0, none⟩)), (9, .pointer (some ⟨b170, 0, none⟩)), (10, .pointer (some ⟨b172, 0, none⟩)), (12, .int .i64 e2), (106, .int .i64 e2), (107, .bool (!(decide (e2 = 0)))), (110, .int .i64 ((q + 1 : Nat) : Int)), (119, .pointer (some ⟨l7, 0, none⟩)), (120, .int .i64 ((q : Nat) : Int)), (121, .int .i64 ((acct X2 ((q : Nat) : Int)).held)), (122, .int .i64 ((q : Nat) : Int)), (123, .pointer (some ⟨b172, 0 + q * 1, none⟩)), (124, .int .i64 ((acct (newX (msk fs) 10) ((q : Nat) : Int)).held)), (125, .bool (!(decide ((acct X2 ((q : Nat) : Int)).held = (acct (newX (msk fs) 10) ((q : Nat) : Int)).held))))] (by rw [hw287]) ?_
                refine OI_static 3 [(7, .pointer (some ⟨l7, 0, none⟩)), (9, .pointer (some ⟨b170, 0, none⟩)), (10, .pointer (some ⟨b172, 0, none⟩)), (12, .int .i64 e2), (13, .int .i64 ((q + 1 : Nat) : Int)), (106, .int .i64 e2), (107, .bool (!(decide (e2 = 0)))), (119, .pointer (some ⟨l7, 0, none⟩)), (120, .int .i64 ((q : Nat) : Int)), (121, .int .i64 ((acct X2 ((q : Nat) : Int)).held)), (122, .int .i64 ((q : Nat) : Int)), (123, .pointer (some ⟨b172, 0 + q * 1, none⟩)), (124, .int .i64 ((acct (newX (msk fs) 10) ((q : Nat) : Int)).held)), (125, .bool (!(decide ((acct X2 ((q : Nat) : Int)).held = (acct (newX (msk fs) 10) ((q : Nat) : Int)).held))))] (by kernel_rfl) ?_
                refine OI_end rfl ?_
                exact V_again (k266 - 1) (by omega) [(7, .pointer (some ⟨l7, 0, none⟩)), (9, .pointer (some ⟨b170, 0, none⟩)), (10, .pointer (some ⟨b172, 0, none⟩)), (12, .int .i64 e2), (13, .int .i64 ((q + 1 : Nat) : Int))] rfl ⟨q + 1, by omega, hk267, rfl⟩
              · skip
                refine V_exit ?_
                refine X_exit_then ?_
                refine X_exit_then ?_
                refine X_exit_here ?_
                refine X_then ?_
                refine V_seq ?_
                refine V_region ?_
                refine OI_call { callee := (Callee.value (Operand.func 18)), args := #[], argTypes := #[] } 18 #[] (some 127) (by kernel_rfl) (by kernel_rfl) (by kernel_rfl) (known_spec _) ?_
                rintro _ w288 ⟨rfl, hk289⟩
                refine ⟨_, rfl, ?_⟩
                have hsz290 := Keep.size hk289
                replace hb1 := hb1.keep hk289 (fun f => f)
                have hb1lt := hb1.lt
                replace haf := haf.keep hk289 (fun f => f)
                have hb170lt := haf.lt
                replace hah := hah.keep hk289 (fun f => f)
                have hb172lt := hah.lt
                replace hA := ArgT.keep0 hA hk289
                replace hB := ArgT.keep0 hB hk289
                replace hK0 := Keep.tr hK0 (Keep.ofNone hk289); have hzhK0 := Keep.size hK0
                replace ho203 := Led.keep ho203 hk289 (fun _ _ f => f)
                refine OI_static 2 [(6, .bool true)] (by kernel_rfl) ?_
                refine OI_end rfl ?_
                refine X_then ?_
                refine V_ret ?_
                exact X_return (.bool true) rfl ⟨rfl, hK0⟩
            · skip
              refine OI_eq [(7, .pointer (some ⟨l7, 0, none⟩)), (9, .pointer (some ⟨b170, 0, none⟩)), (10, .pointer (some ⟨b172, 0, none⟩)), (12, .int .i64 e2), (13, .int .i64 ((q : Nat) : Int)), (105, .bool false)] (by first | simp [hg269] | rfl) ?_
              refine OI_static 6 [(7, .pointer (some ⟨l7, 0, none⟩)), (9, .pointer (some ⟨b170, 0, none⟩)), (10, .pointer (some ⟨b172, 0, none⟩)), (12, .int .i64 e2), (13, .int .i64 ((q : Nat) : Int)), (106, undef), (107, undef), (108, .bool false)] (by kernel_rfl) ?_
              refine OI_end rfl ?_
              refine X_then ?_
              refine V_false rfl ?_
              refine V_exit ?_
              refine X_exit_then ?_
              refine X_exit_then ?_
              refine X_exit_here ?_
              refine X_then ?_
              refine V_seq ?_
              refine V_region ?_
              refine OI_call { callee := (Callee.value (Operand.func 18)), args := #[], argTypes := #[] } 18 #[] (some 127) (by kernel_rfl) (by kernel_rfl) (by kernel_rfl) (known_spec _) ?_
              rintro _ w291 ⟨rfl, hk292⟩
              refine ⟨_, rfl, ?_⟩
              have hsz293 := Keep.size hk292
              replace hb1 := hb1.keep hk292 (fun f => f)
              have hb1lt := hb1.lt
              replace haf := haf.keep hk292 (fun f => f)
              have hb170lt := haf.lt
              replace hah := hah.keep hk292 (fun f => f)
              have hb172lt := hah.lt
              replace hA := ArgT.keep0 hA hk292
              replace hB := ArgT.keep0 hB hk292
              replace hK0 := Keep.tr hK0 (Keep.ofNone hk292); have hzhK0 := Keep.size hK0
              replace ho203 := Led.keep ho203 hk292 (fun _ _ f => f)
              refine OI_static 2 [(6, .bool true)] (by kernel_rfl) ?_
              refine OI_end rfl ?_
              refine X_then ?_
              refine V_ret ?_
              exact X_return (.bool true) rfl ⟨rfl, hK0⟩

theorem over_LedgerErrs {H : Type} {enc : TypeId × Value → H} {A B : Option Addr} {len cap lenb capb : Nat} {d db dc : DataW H} {ps pb pc : List MemPlace} {c : Array Value} {w : World} (h : DataW.Trod enc Try.prog w 0 (fun _ => true) true 26 (.slice A len cap) d ps) (hb : DataW.Trod enc Try.prog w 0 (fun _ => true) true 38 (.slice B lenb capb) db pb) (hc : DataW.Trod enc Try.prog w 0 (fun _ => true) true 40 (.agg c) dc pc) : Calls Try.prog 8 #[.slice A len cap, .slice B lenb capb, .agg c] w fun e w' => e = .returned (.bool true) ∧ Keep none_ w w' := by
  obtain ⟨fs, rfl, hA, hl, hcc⟩ := read_elems (f := intc) (ks := [.int .i64]) (n := 1) (sz := 1) lift_int Try.underlying26 (by kernel_rfl) (by kernel_rfl) rfl (by decide) h
  obtain ⟨xs, rfl, hB, hlb, hcb⟩ := read_elems (f := Ac4.cells) (ks := [.int .i64, .int .i64, .int .i64, .int .i64]) (n := 4) (sz := 4) lift_Ac4 Try.underlying38 (by kernel_rfl) (by kernel_rfl) rfl (by decide) hb
  have hf := read_agg (ks := [.int .i64, .int .i64, .int .i64, .int .i64]) (n := 4) (by kernel_rfl) hc
  obtain ⟨z, hz⟩ := lift_Ac4 _ hf
  have hce : c = z.cells.toArray := by rw [hz]
  subst hce
  exact walk_LedgerErrs z A B cap capb fs xs w hA hB (by unfold maxLen at hcc; omega) (by unfold maxLen at hcb; omega)
end Go.Al
