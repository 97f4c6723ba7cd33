/-
  Walks of the laws of ledger: from hand to hand.
-/
import Derived.Test.YtmflbilhdoiihaaLe14
namespace Go.Al
open Go Go.RowKit Go.Proofs
/-! ### From hand to hand -/
def zeros : List Acc := List.replicate 10 (Acc.mk 0 0)
def wayX (n : Int) (a : Int) : List Acc := zeros.set a.toNat (Acc.mk n 0)
theorem new_way (n : Int) : newX [n] 10 = wayX n 0 := rfl
theorem way_at {n a : Int} (h : 0 ≤ a ∧ a < 10) : acct (wayX n a) a = Acc.mk n 0 := by
  obtain ⟨j, rfl⟩ : ∃ j : Nat, a = j := ⟨a.toNat, by omega⟩
  unfold acct wayX
  rw [if_pos h, Int.toNat_natCast, List.getElem?_set_self (by simp [zeros]; omega)]; rfl
theorem zeros_at {a : Int} : acct zeros a = Acc.mk 0 0 := by
  unfold acct
  split
  · rename_i h
    obtain ⟨j, rfl⟩ : ∃ j : Nat, a = j := ⟨a.toNat, by omega⟩
    rw [Int.toNat_natCast]
    unfold zeros
    rw [List.getElem?_replicate, if_pos (by omega)]; rfl
  · rfl
theorem way_sub {n a : Int} (h : 0 ≤ a ∧ a < 10) : subF (wayX n a) a n = zeros := by
  unfold subF setA
  rw [way_at h]
  unfold wayX
  rw [List.set_set, Int.sub_self]
  unfold zeros
  exact List.set_replicate_self
theorem way_sp {n a : Int} (h : 0 ≤ a ∧ a < 10) (h1 : 0 ≤ n) (h2 : n ≤ 1073741824) : spendsE (wayX n a) [] a n = 0 := by
  have hi : isA a = true := decide_eq_true h
  unfold spendsE
  rw [if_neg (by rw [hi]; rintro (h | h); cases h; omega), way_at h, if_neg (by simp only []; omega), if_neg (by rw [locked0]; simp only []; omega)]
theorem way_tr {n a b : Int} (ha : 0 ≤ a ∧ a < 10) (hb : 0 ≤ b ∧ b < 10) (h1 : 0 ≤ n) (h2 : n ≤ 1073741824) : transE (wayX n a) [] a b n = 0 ∧ transX (wayX n a) [] a b n = wayX n b := by
  have hs := way_sp ha h1 h2
  have hi : isA b = true := decide_eq_true hb
  constructor
  · unfold transE; rw [if_neg (by rw [hi]; decide), hs]; rfl
  · unfold transX; rw [if_pos ⟨hi, hs⟩, way_sub ha]; unfold addF setA; rw [zeros_at]; unfold wayX; simp
theorem way_tot {n a : Int} (ha : 0 ≤ a ∧ a < 10) : tot (wayX n a) = n := by
  obtain ⟨j, rfl⟩ : ∃ j : Nat, a = j := ⟨a.toNat, by omega⟩
  unfold wayX
  rw [Int.toNat_natCast, tot_set (x := Acc.mk 0 0) _ (by unfold zeros; rw [List.getElem?_replicate, if_pos (by omega)])]
  show tot zeros + (n + 0) - (0 + 0) = n
  rw [show tot zeros = 0 from rfl]; omega
theorem way_0 {n a : Int} (ha : 0 ≤ a ∧ a < 10) (h0 : a ≠ 0) : acct (wayX n a) 0 = Acc.mk 0 0 := by
  obtain ⟨j, rfl⟩ : ∃ j : Nat, a = j := ⟨a.toNat, by omega⟩
  unfold acct wayX
  rw [if_pos (by decide), Int.toNat_natCast, List.getElem?_set_ne (by simp; omega)]; rfl
theorem mod10 {x : Int} (h : 0 ≤ x) : 0 ≤ Int.tmod x 10 ∧ Int.tmod x 10 < 10 := by
  rw [Int.tmod_eq_emod_of_nonneg h]; omega

set_option maxRecDepth 10000 in
theorem walk_LedgerWay (n : Int) (A : Option Addr) (cap : Nat) (xs : List Int) (w : World) (hA0 : ArgT w 1 intc A cap xs) (hcap : xs.length ≤ 9223372036854775807) : Calls Try.prog 5 #[.int .i64 n, .slice A xs.length cap] w fun e w' => e = .returned (.bool true) ∧ Keep none_ w w' := by
  have hA := hA0
  have hK0 : Keep none_ w w := Keep.refl _ _
  have hzhK0 := Keep.size hK0
  refine enterV Try.func5 rfl [.int .i64 n, .slice A xs.length cap] 75 rfl rfl rfl ?_
  refine V_pick [(0, .int .i64 n), (1, .slice A xs.length cap)] rfl ?_
  refine V_seq ?_
  refine V_region ?_
  refine OI_static 1 [(0, .int .i64 n), (1, .slice A xs.length cap)] (by kernel_rfl) ?_
  refine OI_end rfl ?_
  refine X_then ?_
  refine V_seq ?_
  refine V_seq ?_
  refine V_region ?_
  refine OI_static 3 [(0, .int .i64 n), (1, .slice A xs.length cap), (12, .bool (decide (n < 0)))] (by kernel_rfl) ?_
  by_cases hg1 : n < 0
  · skip
    refine OI_eq [(0, .int .i64 n), (1, .slice A xs.length cap), (12, .bool true)] (by first | simp [hg1] | rfl) ?_
    refine OI_static 11 [(0, .int .i64 n), (1, .slice A xs.length cap), (20, .bool true)] (by kernel_rfl) ?_
    refine OI_end rfl ?_
    refine X_then ?_
    refine V_true rfl ?_
    refine V_seq ?_
    refine V_region ?_
    refine OI_static 1 [(4, .bool true)] (by kernel_rfl) ?_
    refine OI_end rfl ?_
    refine X_then ?_
    refine V_ret ?_
    refine X_ret_then ?_
    exact X_return (.bool true) rfl ⟨rfl, hK0⟩
  · skip
    refine OI_eq [(0, .int .i64 n), (1, .slice A xs.length cap), (12, .bool false)] (by first | simp [hg1] | rfl) ?_
    refine OI_static 7 [(0, .int .i64 n), (1, .slice A xs.length cap), (16, .bool (decide (n > 1073741824)))] (by kernel_rfl) ?_
    by_cases hg2 : n > 1073741824
    · skip
      refine OI_eq [(0, .int .i64 n), (1, .slice A xs.length cap), (16, .bool true)] (by first | simp [hg2] | rfl) ?_
      refine OI_static 11 [(0, .int .i64 n), (1, .slice A xs.length cap), (20, .bool true)] (by kernel_rfl) ?_
      refine OI_end rfl ?_
      refine X_then ?_
      refine V_true rfl ?_
      refine V_seq ?_
      refine V_region ?_
      refine OI_static 1 [(4, .bool true)] (by kernel_rfl) ?_
      refine OI_end rfl ?_
      refine X_then ?_
      refine V_ret ?_
      refine X_ret_then ?_
      exact X_return (.bool true) rfl ⟨rfl, hK0⟩
    · skip
      refine OI_eq [(0, .int .i64 n), (1, .slice A xs.length cap), (16, .bool false)] (by first | simp [hg2] | rfl) ?_
      refine OI_static 11 [(0, .int .i64 n), (1, .slice A xs.length cap), (20, .bool (decide (((xs.length : Nat) : Int) > 60)))] (by kernel_rfl) ?_
      refine OI_end rfl ?_
      refine X_then ?_
      refine V_if (((xs.length : Nat) : Int) > 60) (by kernel_rfl) (fun hc3 => ?_) (fun hc3 => ?_)
      · skip
        refine V_seq ?_
        refine V_region ?_
        refine OI_static 1 [(4, .bool true)] (by kernel_rfl) ?_
        refine OI_end rfl ?_
        refine X_then ?_
        refine V_ret ?_
        refine X_ret_then ?_
        exact X_return (.bool true) rfl ⟨rfl, hK0⟩
      · skip
        refine V_skip ?_
        refine X_then ?_
        refine V_seq ?_
        refine V_region ?_
        refine OI_static 1 [(0, .int .i64 n), (1, .slice A xs.length cap), (22, .int .i64 n)] (by kernel_rfl) ?_
        refine OI_slit (E := 3) (zv := .int .i64 0) (sz := 1) (by_ := 8) 26 1 #[(0, (Operand.tmp 22))] [.int .i64 n] [.int .i64 n] (some 23) (by kernel_rfl) (by kernel_rfl) (by kernel_rfl) (by omega) rfl (by omega) (by intro v hv; simp only [List.mem_cons, List.not_mem_nil, or_false] at hv; rcases hv with rfl <;> rfl) (by kernel_rfl) rfl ?_
        intro b4 w4 e4 hb4 k4 z4
        have hsz5 := Keep.size k4
        replace hA := ArgT.keep0 hA k4
        replace hK0 := Keep.tr hK0 (Keep.ofNone k4); have hzhK0 := Keep.size hK0
        have hb4lt := hb4.lt
        refine OI_call { callee := (Callee.value (Operand.func 14)), args := #[(Operand.tmp 23)], argTypes := #[26] } 14 #[.slice (some ⟨b4, 0, none⟩) 1 1] (some 24) (by kernel_rfl) (by kernel_rfl) (by kernel_rfl) (new_ok (some ⟨b4, 0, none⟩) 1 [n] _ (slt_blk (xs := [n]) (f := intc) hb4 (fun _ => rfl) rfl).arg (by simp) (one_ok (by omega) (by omega))) ?_
        rintro _ w6 ⟨l8, F9, rfl, ho10, hk7, hge11⟩
        refine ⟨_, rfl, ?_⟩
        have hsz12 := Keep.size hk7
        replace hb4 := hb4.keep hk7 (fun f => f)
        have hb4lt := hb4.lt
        replace hA := ArgT.keep0 hA hk7
        replace hK0 := Keep.tr hK0 (Keep.ofNone hk7); have hzhK0 := Keep.size hK0
        have own13 : ∀ q, F9 q → w4.heap.size ≤ q ∧ q ≠ b4 := fun q hq => by have h1 := hge11 q hq; omega
        have lt14 := Led.lt ho10
        have hl8lt : l8 < w6.heap.size := Led.lt ho10 _ (Led.at_ ho10)
        have hl8ge := hge11 _ (Led.at_ ho10)
        rw [new_way] at ho10
        refine OI_static 8 [(0, .int .i64 n), (1, .slice A xs.length cap), (5, .pointer (some ⟨l8, 0, none⟩)), (6, .int .i64 0)] (by kernel_rfl) ?_
        refine OI_end rfl ?_
        refine X_then ?_
        refine V_seq ?_
        refine V_seq ?_
        refine V_region ?_
        refine OI_static 6 [(0, .int .i64 n), (1, .slice A xs.length cap), (5, .pointer (some ⟨l8, 0, none⟩)), (32, .bool false)] (by kernel_rfl) ?_
        refine OI_end rfl ?_
        refine X_then ?_
        refine V_false rfl ?_
        refine V_skip ?_
        refine X_then ?_
        refine V_seq ?_
        refine V_region ?_
        refine OI_static 1 [(0, .int .i64 n), (1, .slice A xs.length cap), (5, .pointer (some ⟨l8, 0, none⟩)), (7, .int .i64 0)] (by kernel_rfl) ?_
        refine OI_end rfl ?_
        refine X_then ?_
        refine V_seq ?_
        refine V_seq ?_
        refine V_region ?_
        refine OI_static 1 [(0, .int .i64 n), (1, .slice A xs.length cap), (5, .pointer (some ⟨l8, 0, none⟩)), (7, .int .i64 0), (8, .int .i64 0)] (by kernel_rfl) ?_
        refine OI_end rfl ?_
        refine X_then ?_
        refine V_block ?_
        refine V_pick [(0, .int .i64 n), (1, .slice A xs.length cap), (5, .pointer (some ⟨l8, 0, none⟩)), (7, .int .i64 0), (8, .int .i64 0)] rfl ?_
        refine V_loop (fun k wI e => ∃ i : Nat, ∃ a7 : Int, ∃ F15 : Nat → Prop, (k + i = xs.length) ∧ (0 ≤ a7 ∧ a7 < 10) ∧ (Led F15 wI l8 (wayX n a7) ([] : List Ci)) ∧ (∀ q, F15 q → w4.heap.size ≤ q ∧ q ≠ b4) ∧ (∀ q, F15 q → F9 q ∨ w6.heap.size ≤ q) ∧ Keep F9 w6 wI ∧ e = [(0, .int .i64 n), (1, .slice A xs.length cap), (5, .pointer (some ⟨l8, 0, none⟩)), (7, .int .i64 a7), (8, .int .i64 ((i : Nat) : Int))]) xs.length ⟨0, 0, F9, by omega, by decide, ho10, (fun q hq => by have h1 := own13 q hq; have h2 := lt14 q hq; omega), fun q h => .inl h, Keep.refl _ _, rfl⟩ ?_
        rintro k20 w19 _ ⟨i, a7, F15, hki, ha7, ho16, own17, rel18, hk21, rfl⟩
        have hsz22 := Keep.size hk21
        replace hb4 := hb4.keep hk21 (fun hs => by have h1 := own13 _ hs; have h2 := lt14 _ hs; omega)
        have hb4lt := hb4.lt
        replace hA := ArgT.keep hA hk21 hA0 (fun k hk hs => by have h1 := own13 k hs; have h2 := lt14 k hs; omega)
        replace hK0 := Keep.fresh hK0 hk21 (by intro i hi hs; have h1 := own13 i hs; have h2 := lt14 i hs; omega); have hzhK0 := Keep.size hK0
        have hzhk21 := Keep.size hk21
        have lt23 := Led.lt ho16
        have hl8lt : l8 < w19.heap.size := Led.lt ho16 _ (Led.at_ ho16)
        refine V_seq ?_
        refine V_seq ?_
        refine V_region ?_
        refine OI_static 4 [(0, .int .i64 n), (1, .slice A xs.length cap), (5, .pointer (some ⟨l8, 0, none⟩)), (7, .int .i64 a7), (8, .int .i64 ((i : Nat) : Int)), (36, .bool (decide (((i : Nat) : Int) < ((xs.length : Nat) : Int))))] (by kernel_rfl) ?_
        refine OI_end rfl ?_
        refine X_then ?_
        refine V_if (((i : Nat) : Int) < ((xs.length : Nat) : Int)) (by kernel_rfl) (fun hc24 => ?_) (fun hc24 => ?_)
        · skip
          refine V_skip ?_
          refine X_then ?_
          refine V_seq ?_
          refine V_block ?_
          refine V_seq ?_
          refine V_region ?_
          refine OI_static 2 [(0, .int .i64 n), (1, .slice A xs.length cap), (5, .pointer (some ⟨l8, 0, none⟩)), (7, .int .i64 a7), (8, .int .i64 ((i : Nat) : Int)), (39, .slice A xs.length cap), (40, .int .i64 ((i : Nat) : Int))] (by kernel_rfl) ?_
          obtain ⟨b25, o25, L25, rfl, hat25⟩ := ArgT.open_ hA (by first | omega | (simp only [List.length_map]; omega) | (simp; done) | (simp; omega))
          have hb25lt0 := ArgT.lt hA0 (by first | omega | (simp only [List.length_map]; omega) | (simp; done) | (simp; omega))
          have hb25lt := hat25.blk.lt
          refine OI_pure (some 41) (.indexAddr 26 (.tmp 39) (.tmp 40)) (by kernel_rfl) (pure_idxN (b := b25) (o := o25) (len := xs.length) (cap := cap) (kd := .i64) (j := i) (E := 3) (sz := 1) (by_ := 8) (by kernel_rfl) (by kernel_rfl) (by kernel_rfl) (by omega)) ?_
          obtain ⟨x26, hx27⟩ : ∃ x, xs[i]? = some x := ⟨_, List.getElem?_eq_getElem (by first | omega | (simp only [List.length_map]; omega))⟩
          have hba := bAnd_le x26 1023 (by decide)
          have hto := mod10 (x := bAnd x26 1023) hba.1
          refine OI_cellR 3 (.tmp 41) (o25 + i * 1) (.int .i64 x26) (some 42) (by kernel_rfl) (by kernel_rfl) hat25.blk (m := 1) (by kernel_rfl) (AtR.cell0 hat25 (es_at hx27) rfl) ?_
          refine OI_static 7 [(0, .int .i64 n), (1, .slice (some ⟨b25, o25, none⟩) xs.length cap), (5, .pointer (some ⟨l8, 0, none⟩)), (7, .int .i64 a7), (8, .int .i64 ((i : Nat) : Int)), (9, .int .i64 (Int.tmod (bAnd x26 1023) 10))] (by kernel_rfl) ?_
          refine OI_end rfl ?_
          refine X_then ?_
          refine V_seq ?_
          refine V_seq ?_
          refine V_region ?_
          refine OI_static 4 [(0, .int .i64 n), (1, .slice (some ⟨b25, o25, none⟩) xs.length cap), (5, .pointer (some ⟨l8, 0, none⟩)), (8, .int .i64 ((i : Nat) : Int)), (9, .int .i64 (Int.tmod (bAnd x26 1023) 10)), (45, .pointer (some ⟨l8, 0, none⟩)), (46, .int .i64 a7), (47, .int .i64 (Int.tmod (bAnd x26 1023) 10)), (48, .int .i64 n)] (by kernel_rfl) ?_
          obtain ⟨ht1, ht2⟩ := way_tr (n := n) ha7 hto (by omega) (by omega)
          refine OI_call { callee := (Callee.value (Operand.func 17)), args := #[(Operand.tmp 45), (Operand.tmp 46), (Operand.tmp 47), (Operand.tmp 48)], argTypes := #[22, 3, 3, 3] } 17 #[.pointer (some ⟨l8, 0, none⟩), .int .i64 a7, .int .i64 (Int.tmod (bAnd x26 1023) 10), .int .i64 n] (some 49) (by kernel_rfl) (by kernel_rfl) (by kernel_rfl) (transfer_spec F15 l8 (wayX n a7) ([] : List Ci) a7 (Int.tmod (bAnd x26 1023) 10) n _ ho16) ?_
          rintro _ w30 ⟨rfl, ⟨F32, ho33, hfr34⟩, hk31⟩
          refine ⟨_, rfl, ?_⟩
          have hsz35 := Keep.size hk31
          replace hb4 := hb4.keep hk31 (fun hs => by have h1 := own17 _ hs; have h2 := lt23 _ hs; omega)
          have hb4lt := hb4.lt
          replace hat25 := hat25.keep hk31 (fun hs => by have h1 := own17 _ hs; have h2 := lt23 _ hs; omega)
          have hb25lt := hat25.blk.lt
          replace hK0 := Keep.fresh hK0 hk31 (by intro i hi hs; first | exact hs | (exfalso; have h1 := own17 i hs; have h2 := lt23 i hs; omega) | (have h1 := own17 i hs; have h2 := lt23 i hs; show _ ∨ _; omega)); have hzhK0 := Keep.size hK0
          replace hk21 := Keep.fresh hk21 hk31 (fun i hi hs => by rcases rel18 i hs with h | h; exact h; (exfalso; omega)); have hzhk21 := Keep.size hk21
          have own37 : ∀ q, F32 q → w4.heap.size ≤ q ∧ q ≠ b4 := fun q hq => by rcases hfr34 q hq with h | h; (have h1 := own17 q h; have h2 := lt23 q h; omega); omega
          have lt36 := Led.lt ho33
          have rel38 : ∀ q, F32 q → F9 q ∨ w6.heap.size ≤ q := fun q hq => by rcases hfr34 q hq with h | h; exact rel18 q h; exact .inr (by omega)
          rw [ht2] at ho33
          refine OI_pick [(0, .int .i64 n), (1, .slice (some ⟨b25, o25, none⟩) xs.length cap), (5, .pointer (some ⟨l8, 0, none⟩)), (8, .int .i64 ((i : Nat) : Int)), (9, .int .i64 (Int.tmod (bAnd x26 1023) 10)), (49, .int .i64 (transE (wayX n a7) ([] : List Ci) a7 (Int.tmod (bAnd x26 1023) 10) n))] (by kernel_rfl) ?_
          refine OI_eq [(0, .int .i64 n), (1, .slice (some ⟨b25, o25, none⟩) xs.length cap), (5, .pointer (some ⟨l8, 0, none⟩)), (8, .int .i64 ((i : Nat) : Int)), (9, .int .i64 (Int.tmod (bAnd x26 1023) 10)), (49, .int .i64 0)] (by rw [ht1]) ?_
          refine OI_static 6 [(0, .int .i64 n), (1, .slice (some ⟨b25, o25, none⟩) xs.length cap), (5, .pointer (some ⟨l8, 0, none⟩)), (8, .int .i64 ((i : Nat) : Int)), (9, .int .i64 (Int.tmod (bAnd x26 1023) 10)), (50, .bool false)] (by kernel_rfl) ?_
          refine OI_end rfl ?_
          refine X_then ?_
          refine V_false rfl ?_
          refine V_skip ?_
          refine X_then ?_
          refine V_region ?_
          refine OI_static 2 [(0, .int .i64 n), (1, .slice (some ⟨b25, o25, none⟩) xs.length cap), (5, .pointer (some ⟨l8, 0, none⟩)), (7, .int .i64 (Int.tmod (bAnd x26 1023) 10)), (8, .int .i64 ((i : Nat) : Int))] (by kernel_rfl) ?_
          refine OI_end rfl ?_
          refine X_block ?_
          refine X_then ?_
          refine V_region ?_
          have hw39 : IntKind.i64.wrap (((i : Nat) : Int) + 1) = ((i + 1 : Nat) : Int) := (wrap64_id (by omega) (by omega)).trans (by omega)
          refine OI_static 2 [(0, .int .i64 n), (1, .slice (some ⟨b25, o25, none⟩) xs.length cap), (5, .pointer (some ⟨l8, 0, none⟩)), (7, .int .i64 (Int.tmod (bAnd x26 1023) 10)), (38, .int .i64 (IntKind.i64.wrap (((i : Nat) : Int) + 1)))] (by kernel_rfl) ?_
          refine OI_eq [(0, .int .i64 n), (1, .slice (some ⟨b25, o25, none⟩) xs.length cap), (5, .pointer (some ⟨l8, 0, none⟩)), (7, .int .i64 (Int.tmod (bAnd x26 1023) 10)), (38, .int .i64 ((i + 1 : Nat) : Int))] (by rw [hw39]) ?_
          refine OI_static 3 [(0, .int .i64 n), (1, .slice (some ⟨b25, o25, none⟩) xs.length cap), (5, .pointer (some ⟨l8, 0, none⟩)), (7, .int .i64 (Int.tmod (bAnd x26 1023) 10)), (8, .int .i64 ((i + 1 : Nat) : Int))] (by kernel_rfl) ?_
          refine OI_end rfl ?_
          exact V_again (k20 - 1) (by omega) [(0, .int .i64 n), (1, .slice (some ⟨b25, o25, none⟩) xs.length cap), (5, .pointer (some ⟨l8, 0, none⟩)), (7, .int .i64 (Int.tmod (bAnd x26 1023) 10)), (8, .int .i64 ((i + 1 : Nat) : Int))] rfl ⟨i + 1, Int.tmod (bAnd x26 1023) 10, F32, by omega, hto, ho33, (fun q hq => by have h1 := own37 q hq; have h2 := lt36 q hq; omega), rel38, hk21, rfl⟩
        · skip
          refine V_exit ?_
          refine X_exit_then ?_
          refine X_exit_then ?_
          refine X_exit_here ?_
          refine X_then ?_
          refine V_seq ?_
          refine V_region ?_
          refine OI_static 2 [(0, .int .i64 n), (5, .pointer (some ⟨l8, 0, none⟩)), (7, .int .i64 a7), (52, .pointer (some ⟨l8, 0, none⟩)), (53, .int .i64 a7)] (by kernel_rfl) ?_
          refine OI_call { callee := (Callee.value (Operand.func 20)), args := #[(Operand.tmp 52), (Operand.tmp 53)], argTypes := #[22, 3] } 20 #[.pointer (some ⟨l8, 0, none⟩), .int .i64 a7] (some 54) (by kernel_rfl) (by kernel_rfl) (by kernel_rfl) (free_spec F15 l8 (wayX n a7) ([] : List Ci) a7 _ ho16) ?_
          rintro _ w40 ⟨rfl, hk41⟩
          refine ⟨_, rfl, ?_⟩
          have hsz42 := Keep.size hk41
          replace hb4 := hb4.keep hk41 (fun f => f)
          have hb4lt := hb4.lt
          replace hA := ArgT.keep0 hA hk41
          replace hK0 := Keep.tr hK0 (Keep.ofNone hk41); have hzhK0 := Keep.size hK0
          replace ho16 := Led.keep ho16 hk41 (fun _ _ f => f)
          refine OI_pick [(0, .int .i64 n), (5, .pointer (some ⟨l8, 0, none⟩)), (7, .int .i64 a7), (54, .int .i64 ((acct (wayX n a7) a7).free))] (by kernel_rfl) ?_
          refine OI_eq [(0, .int .i64 n), (5, .pointer (some ⟨l8, 0, none⟩)), (7, .int .i64 a7), (54, .int .i64 n)] (by rw [way_at ha7]) ?_
          refine OI_static 6 [(0, .int .i64 n), (5, .pointer (some ⟨l8, 0, none⟩)), (7, .int .i64 a7), (57, .bool (decide (n = n)))] (by kernel_rfl) ?_
          refine OI_eq [(0, .int .i64 n), (5, .pointer (some ⟨l8, 0, none⟩)), (7, .int .i64 a7), (57, .bool true)] (by rw [decide_eq_true (by omega : n = n)]) ?_
          refine OI_static 7 [(0, .int .i64 n), (5, .pointer (some ⟨l8, 0, none⟩)), (7, .int .i64 a7), (57, .bool true), (58, .pointer (some ⟨l8, 0, none⟩))] (by kernel_rfl) ?_
          refine OI_call { callee := (Callee.value (Operand.func 19)), args := #[(Operand.tmp 58)], argTypes := #[22] } 19 #[.pointer (some ⟨l8, 0, none⟩)] (some 59) (by kernel_rfl) (by kernel_rfl) (by kernel_rfl) (issued_spec F15 l8 (wayX n a7) ([] : List Ci) _ ho16) ?_
          rintro _ w44 ⟨rfl, hk45⟩
          refine ⟨_, rfl, ?_⟩
          have hsz46 := Keep.size hk45
          replace hb4 := hb4.keep hk45 (fun f => f)
          have hb4lt := hb4.lt
          replace hA := ArgT.keep0 hA hk45
          replace hK0 := Keep.tr hK0 (Keep.ofNone hk45); have hzhK0 := Keep.size hK0
          replace ho16 := Led.keep ho16 hk45 (fun _ _ f => f)
          refine OI_pick [(0, .int .i64 n), (5, .pointer (some ⟨l8, 0, none⟩)), (7, .int .i64 a7), (57, .bool true), (59, .int .i64 (tot (wayX n a7)))] (by kernel_rfl) ?_
          refine OI_eq [(0, .int .i64 n), (5, .pointer (some ⟨l8, 0, none⟩)), (7, .int .i64 a7), (57, .bool true), (59, .int .i64 n)] (by rw [way_tot ha7]) ?_
          refine OI_static 12 [(5, .pointer (some ⟨l8, 0, none⟩)), (7, .int .i64 a7), (63, .bool (decide (n = n)))] (by kernel_rfl) ?_
          refine OI_eq [(5, .pointer (some ⟨l8, 0, none⟩)), (7, .int .i64 a7), (63, .bool true)] (by rw [decide_eq_true (by omega : n = n)]) ?_
          refine OI_static 15 [(5, .pointer (some ⟨l8, 0, none⟩)), (63, .bool true), (66, .bool (decide (a7 = 0)))] (by kernel_rfl) ?_
          by_cases hg48 : a7 = 0
          · skip
            refine OI_eq [(5, .pointer (some ⟨l8, 0, none⟩)), (63, .bool true), (66, .bool true)] (by first | simp [hg48] | rfl) ?_
            refine OI_static 21 [(72, .bool true)] (by kernel_rfl) ?_
            refine OI_call { callee := (Callee.value (Operand.func 18)), args := #[], argTypes := #[] } 18 #[] (some 73) (by kernel_rfl) (by kernel_rfl) (by kernel_rfl) (known_spec _) ?_
            rintro _ w49 ⟨rfl, hk50⟩
            refine ⟨_, rfl, ?_⟩
            have hsz51 := Keep.size hk50
            replace hb4 := hb4.keep hk50 (fun f => f)
            have hb4lt := hb4.lt
            replace hA := ArgT.keep0 hA hk50
            replace hK0 := Keep.tr hK0 (Keep.ofNone hk50); have hzhK0 := Keep.size hK0
            replace ho16 := Led.keep ho16 hk50 (fun _ _ f => f)
            refine OI_static 24 [(4, .bool true)] (by kernel_rfl) ?_
            refine OI_end rfl ?_
            refine X_then ?_
            refine V_ret ?_
            exact X_return (.bool true) rfl ⟨rfl, hK0⟩
          · skip
            refine OI_eq [(5, .pointer (some ⟨l8, 0, none⟩)), (63, .bool true), (66, .bool false)] (by first | simp [hg48] | rfl) ?_
            refine OI_static 16 [(63, .bool true), (66, .bool false), (67, .pointer (some ⟨l8, 0, none⟩))] (by kernel_rfl) ?_
            refine OI_call { callee := (Callee.value (Operand.func 20)), args := #[(Operand.tmp 67), (Operand.const (Value.int IntKind.i64 0))], argTypes := #[22, 3] } 20 #[.pointer (some ⟨l8, 0, none⟩), .int .i64 0] (some 68) (by kernel_rfl) (by kernel_rfl) (by kernel_rfl) (free_spec F15 l8 (wayX n a7) ([] : List Ci) 0 _ ho16) ?_
            rintro _ w52 ⟨rfl, hk53⟩
            refine ⟨_, rfl, ?_⟩
            have hsz54 := Keep.size hk53
            replace hb4 := hb4.keep hk53 (fun f => f)
            have hb4lt := hb4.lt
            replace hA := ArgT.keep0 hA hk53
            replace hK0 := Keep.tr hK0 (Keep.ofNone hk53); have hzhK0 := Keep.size hK0
            replace ho16 := Led.keep ho16 hk53 (fun _ _ f => f)
            refine OI_pick [(63, .bool true), (66, .bool false), (68, .int .i64 ((acct (wayX n a7) 0).free))] (by kernel_rfl) ?_
            refine OI_eq [(63, .bool true), (66, .bool false), (68, .int .i64 0)] (by rw [way_0 ha7 (by omega)]) ?_
            refine OI_static 21 [(72, .bool true)] (by kernel_rfl) ?_
            refine OI_call { callee := (Callee.value (Operand.func 18)), args := #[], argTypes := #[] } 18 #[] (some 73) (by kernel_rfl) (by kernel_rfl) (by kernel_rfl) (known_spec _) ?_
            rintro _ w55 ⟨rfl, hk56⟩
            refine ⟨_, rfl, ?_⟩
            have hsz57 := Keep.size hk56
            replace hb4 := hb4.keep hk56 (fun f => f)
            have hb4lt := hb4.lt
            replace hA := ArgT.keep0 hA hk56
            replace hK0 := Keep.tr hK0 (Keep.ofNone hk56); have hzhK0 := Keep.size hK0
            replace ho16 := Led.keep ho16 hk56 (fun _ _ f => f)
            refine OI_static 24 [(4, .bool true)] (by kernel_rfl) ?_
            refine OI_end rfl ?_
            refine X_then ?_
            refine V_ret ?_
            exact X_return (.bool true) rfl ⟨rfl, hK0⟩

theorem over_LedgerWay {H : Type} {enc : TypeId × Value → H} {A : Option Addr} {len cap : Nat} {d : DataW H} {ps : List MemPlace} {w : World} (n : Int) (h : DataW.Trod enc Try.prog w 0 (fun _ => true) true 26 (.slice A len cap) d ps) : Calls Try.prog 5 #[.int .i64 n, .slice A len cap] w fun e w' => e = .returned (.bool true) ∧ Keep none_ w w' := by
  obtain ⟨xs, rfl, hA, hl, hc⟩ := read_elems (f := intc) (ks := [.int .i64]) (n := 1) (sz := 1) lift_int Try.underlying26 (by kernel_rfl) (by kernel_rfl) rfl (by decide) h
  exact walk_LedgerWay n A cap xs w hA (by unfold maxLen at hc; omega)
end Go.Al
