/-
  Walks of package ledger: what changes it: Mint, takes.
-/
import Derived.Test.YtmflbilhdoiihaaLe4
namespace Go.Al
open Go Go.RowKit Go.Proofs
theorem mint_ok {xs : List Acc} {a n : Int} (h1 : isA a = true) (h2 : 0 ≤ n ∧ n ≤ 1073741824) (h3 : ¬ n > 1073741824 - tot xs) : mintE xs a n = 0 := by
  unfold mintE
  rw [if_neg (by rw [h1]; rintro (h | h); cases h; exact h h2), if_neg h3]
theorem tkN_pos {xs : List Acc} {a n : Int} (h : tkN xs a n > 0) : isA a = true := by
  unfold tkN at h
  split at h
  · assumption
  · omega
theorem tkX_tot {xs : List Acc} (hi : Inv xs) (a n : Int) : tot (tkX xs a n) = tot xs - tkN xs a n := by
  unfold tkX
  by_cases ha : isA a = true
  · obtain ⟨j, x, rfl, hj, hx, he⟩ := isA_some hi ha
    rw [if_pos ha]
    unfold subH
    rw [setA_at rfl, he, tot_set _ hx]
    simp only []
    omega
  · rw [if_neg ha]
    unfold tkN
    rw [if_neg ha]; omega

theorem mint_spec (F : Nat → Prop) (l : Nat) (xs : List Acc) (cs : List Ci) (a n : Int) (w : World) (h : Led F w l xs cs) : Calls Try.prog 23 #[.pointer (some ⟨l, 0, none⟩), .int .i64 a, .int .i64 n] w fun e w' => e = .returned (.int .i64 (mintE xs a n)) ∧ (∃ F', Led F' w' l (mintX xs a n) (cs) ∧ (∀ q, F' q → F q ∨ w.heap.size ≤ q)) ∧ Keep F w w' := by
  have hFlt := Led.lt h
  have hllt := hFlt _ (Led.at_ h)
  have hinv := Led.inv h
  have htot0 := (tot_mem hinv.2.1).1
  have htot1 := hinv.2.2
  have hK0 : Keep F w w := Keep.refl _ _
  have hzhK0 := Keep.size hK0
  refine enterV Try.func23 rfl [.pointer (some ⟨l, 0, none⟩), .int .i64 a, .int .i64 n] 41 rfl rfl rfl ?_
  refine V_pick [(0, .pointer (some ⟨l, 0, none⟩)), (1, .int .i64 a), (2, .int .i64 n)] rfl ?_
  refine V_seq ?_
  refine V_region ?_
  refine OI_static 1 [(0, .pointer (some ⟨l, 0, none⟩)), (1, .int .i64 a), (2, .int .i64 n)] (by kernel_rfl) ?_
  refine OI_end rfl ?_
  refine X_then ?_
  refine V_seq ?_
  refine V_region ?_
  refine OI_static 2 [(0, .pointer (some ⟨l, 0, none⟩)), (1, .int .i64 a), (2, .int .i64 n), (10, .pointer (some ⟨l, 0, none⟩)), (11, .int .i64 a)] (by kernel_rfl) ?_
  refine OI_call { callee := (Callee.value (Operand.func 34)), args := #[(Operand.tmp 10), (Operand.tmp 11)], argTypes := #[22, 3] } 34 #[.pointer (some ⟨l, 0, none⟩), .int .i64 a] (some 12) (by kernel_rfl) (by kernel_rfl) (by kernel_rfl) (account_spec F l xs cs a _ h) ?_
  rintro _ w7 ⟨rfl, hk8⟩
  refine ⟨_, rfl, ?_⟩
  have hsz9 := Keep.size hk8
  replace h := Led.keep h hk8 (fun _ _ f => f)
  replace hK0 := Keep.tr hK0 (Keep.ofNone hk8); have hzhK0 := Keep.size hK0
  refine OI_static 6 [(0, .pointer (some ⟨l, 0, none⟩)), (1, .int .i64 a), (2, .int .i64 n), (13, .agg (Acc.cells (acct xs a)).toArray), (14, .bool (isA a))] (by kernel_rfl) ?_
  refine OI_alloc 68 (.agg #[.int .i64 0, .int .i64 0]) [.int .i64 0, .int .i64 0] (some 7) (by kernel_rfl) (by kernel_rfl) (by kernel_rfl) ?_
  intro b10 w10 e10 hb10 k10 z10
  have hsz11 := Keep.size k10
  replace h := Led.keep h k10 (fun _ _ f => f)
  replace hK0 := Keep.tr hK0 (Keep.ofNone k10); have hzhK0 := Keep.size hK0
  have hb10lt := hb10.lt
  refine OI_set (m := 2) (kd := true) 68 (.tmp 7) (.tmp 13) 0 (.agg (Acc.cells (acct xs a)).toArray) (Acc.cells (acct xs a)) none (by kernel_rfl) (by kernel_rfl) (by kernel_rfl) hb10 (by kernel_rfl) rfl (Acc.len _) (Nat.le_of_ble_eq_true (by kernel_rfl)) (Acc.one _) ?_
  intro w12 hb10_15 hk13 hz14
  replace hb10_15 : Blk w12 b10 (Acc.cells (acct xs a)) 68 := (by rwa [over_whole (by rw [Acc.len]; rfl)] at hb10_15)
  have hsz16 := Keep.size hk13
  replace h := Led.keep h hk13 (fun q hq hs => by have hs : q = b10 := hs; have g1 := hFlt q hq; omega)
  replace hK0 := Keep.fresh hK0 hk13 (by intro i hi hs; have hs2 : i = b10 := hs; exfalso; omega); have hzhK0 := Keep.size hK0
  refine OI_static 9 [(0, .pointer (some ⟨l, 0, none⟩)), (1, .int .i64 a), (2, .int .i64 n), (8, .bool (isA a))] (by kernel_rfl) ?_
  refine OI_end rfl ?_
  refine X_then ?_
  refine V_seq ?_
  refine V_block ?_
  refine V_seq ?_
  refine V_region ?_
  refine OI_static 3 [(0, .pointer (some ⟨l, 0, none⟩)), (1, .int .i64 a), (2, .int .i64 n), (18, .bool (!(isA a)))] (by kernel_rfl) ?_
  cases hg17 : (!(isA a))
  · skip
    refine OI_eq [(0, .pointer (some ⟨l, 0, none⟩)), (1, .int .i64 a), (2, .int .i64 n), (18, .bool false)] (by first | rfl | rw [hg17]) ?_
    refine OI_static 4 [(0, .pointer (some ⟨l, 0, none⟩)), (1, .int .i64 a), (2, .int .i64 n), (18, .bool false), (19, .int .i64 n)] (by kernel_rfl) ?_
    refine OI_call { callee := (Callee.value (Operand.func 33)), args := #[(Operand.tmp 19)], argTypes := #[3] } 33 #[.int .i64 n] (some 20) (by kernel_rfl) (by kernel_rfl) (by kernel_rfl) (isAmount_spec n _) ?_
    rintro _ w12 ⟨rfl, rfl⟩
    refine ⟨_, rfl, ?_⟩
    refine OI_static 8 [(0, .pointer (some ⟨l, 0, none⟩)), (1, .int .i64 a), (2, .int .i64 n), (15, .bool (!(decide (0 ≤ n ∧ n ≤ 1073741824))))] (by kernel_rfl) ?_
    refine OI_end rfl ?_
    refine X_then ?_
    refine V_not (0 ≤ n ∧ n ≤ 1073741824) (by kernel_rfl) (fun hc25 => ?_) (fun hc25 => ?_)
    · skip
      refine V_seq ?_
      refine V_region ?_
      refine OI_static 1 [(6, .int .i64 1)] (by kernel_rfl) ?_
      refine OI_end rfl ?_
      refine X_then ?_
      refine V_ret ?_
      refine X_ret_block ?_
      refine X_ret_then ?_
      exact X_return (.int .i64 1) rfl ⟨by unfold mintE; simp_all, ⟨F, by rw [show mintX xs a n = xs from by unfold mintX; rw [if_neg]; unfold mintE; simp_all]; exact h, fun q h => .inl h⟩, hK0⟩
    · skip
      refine V_seq ?_
      refine V_region ?_
      refine OI_static 2 [(0, .pointer (some ⟨l, 0, none⟩)), (1, .int .i64 a), (2, .int .i64 n), (24, .int .i64 n), (25, .pointer (some ⟨l, 0, none⟩))] (by kernel_rfl) ?_
      refine OI_call { callee := (Callee.value (Operand.func 19)), args := #[(Operand.tmp 25)], argTypes := #[22] } 19 #[.pointer (some ⟨l, 0, none⟩)] (some 26) (by kernel_rfl) (by kernel_rfl) (by kernel_rfl) (issued_spec F l xs cs _ h) ?_
      rintro _ w26 ⟨rfl, hk27⟩
      refine ⟨_, rfl, ?_⟩
      have hsz28 := Keep.size hk27
      replace hb10_15 := hb10_15.keep hk27 (fun f => f)
      have hb10lt := hb10_15.lt
      replace h := Led.keep h hk27 (fun _ _ f => f)
      replace hK0 := Keep.tr hK0 (Keep.ofNone hk27); have hzhK0 := Keep.size hK0
      have hw29 : IntKind.i64.wrap (1073741824 - (tot xs)) = 1073741824 - (tot xs) := (wrap64_id (by omega) (by omega)).trans (by omega)
      refine OI_static 4 [(0, .pointer (some ⟨l, 0, none⟩)), (1, .int .i64 a), (2, .int .i64 n), (24, .int .i64 n), (27, .int .i64 (IntKind.i64.wrap (1073741824 - (tot xs))))] (by kernel_rfl) ?_
      refine OI_eq [(0, .pointer (some ⟨l, 0, none⟩)), (1, .int .i64 a), (2, .int .i64 n), (24, .int .i64 n), (27, .int .i64 (1073741824 - (tot xs)))] (by rw [hw29]) ?_
      refine OI_static 6 [(0, .pointer (some ⟨l, 0, none⟩)), (1, .int .i64 a), (2, .int .i64 n), (23, .bool (decide (n > 1073741824 - (tot xs))))] (by kernel_rfl) ?_
      refine OI_end rfl ?_
      refine X_then ?_
      refine V_if (n > 1073741824 - (tot xs)) (by kernel_rfl) (fun hc30 => ?_) (fun hc30 => ?_)
      · skip
        refine V_seq ?_
        refine V_region ?_
        refine OI_static 1 [(6, .int .i64 10)] (by kernel_rfl) ?_
        refine OI_end rfl ?_
        refine X_then ?_
        refine V_ret ?_
        refine X_ret_block ?_
        refine X_ret_then ?_
        exact X_return (.int .i64 10) rfl ⟨by unfold mintE; simp_all, ⟨F, by rw [show mintX xs a n = xs from by unfold mintX; rw [if_neg]; unfold mintE; simp_all]; exact h, fun q h => .inl h⟩, hK0⟩
      · skip
        obtain ⟨hinvu31, hFlu31, hFltu31, gu31, Au31, capu31, Du31, hatu31, hGu31, hAFu31, hDFu31, hADu31⟩ := h
        have hlu31 := hatu31.blk
        have hAu31 := hatu31.sl
        have hlku31 := hlu31.lt
        have hAlu31 := fun q hq => And.intro (hAFu31 q hq).2 (hFlt q (hAFu31 q hq).1)
        have hAltu31 := SlT.lt hAu31
        have hDlu31 := fun q hq => And.intro (hDFu31 q hq).2 (hFlt q (hDFu31 q hq).1)
        have hDltu31 := Grd.lt hGu31
        have hx10u31 := hinvu31.1
        have htotu31 := hinvu31.2.2
        have hgu31lt := hDltu31 _ (Grd.at_ hGu31)
        obtain ⟨j32, hj32, hjl32⟩ : ∃ j : Nat, a = j ∧ j < 10 := ⟨(a).toNat, by have h9 := (by simpa using hg17); simp only [isA, decide_eq_true_eq] at h9; omega, by have h9 := (by simpa using hg17); simp only [isA, decide_eq_true_eq] at h9; omega⟩
        obtain ⟨x0, hx0⟩ : ∃ x, xs[j32]? = some x := ⟨_, List.getElem?_eq_getElem (by omega)⟩
        have hxa := acct_at hj32 hx0 hjl32
        obtain ⟨hbf0, hbh0, hbt0, _⟩ := hinvu31.at_ hx0
        refine V_skip ?_
        refine X_block ?_
        refine X_then ?_
        refine V_seq ?_
        refine V_region ?_
        refine OI_static 3 [(1, .int .i64 a), (2, .int .i64 n), (31, .pointer (some ⟨l, 0, none⟩))] (by kernel_rfl) ?_
        refine OI_cell 64 (.tmp 31) 0 (.slice Au31 xs.length capu31) (some 32) (by kernel_rfl) (by kernel_rfl) hlu31 (m := 1) (by kernel_rfl) rfl ?_
        refine OI_static 5 [(2, .int .i64 n), (32, .slice Au31 xs.length capu31), (33, .int .i64 a)] (by kernel_rfl) ?_
        obtain ⟨b33, o33, L33, T33, rfl, hat33⟩ := SlT.open_ hAu31 (by first | omega | (simp only [List.length_map]; omega) | (simp; done) | (simp; omega))
        have hb33lt := hat33.blk.lt
        have hob34 := hAlu31 b33 ⟨_, rfl, rfl⟩
        have hob35 := hAltu31 b33 ⟨_, rfl, rfl⟩
        have hne36 : ∀ q, Du31 q → q ≠ b33 := fun q hq hs => (fun q h1 h2 => hADu31 q h2 h1) q hq ⟨_, rfl, hs⟩
        have own37 := fun q hq => And.intro (hDlu31 q hq) (hne36 q hq)
        refine OI_pick [(2, .int .i64 n), (32, .slice (some ⟨b33, o33, none⟩) xs.length capu31), (33, .int .i64 a)] (by kernel_rfl) ?_
        refine OI_eq [(2, .int .i64 n), (32, .slice (some ⟨b33, o33, none⟩) xs.length capu31), (33, .int .i64 ((j32 : Nat) : Int))] (by rw [hj32]) ?_
        refine OI_pure (some 34) (.indexAddr 64 (.tmp 32) (.tmp 33)) (by kernel_rfl) (pure_idxN (b := b33) (o := o33) (len := xs.length) (cap := capu31) (kd := .i64) (j := j32) (E := 68) (sz := 2) (by_ := 16) (by kernel_rfl) (by kernel_rfl) (by kernel_rfl) (by omega)) ?_
        refine OI_static 7 [(2, .int .i64 n), (32, .slice (some ⟨b33, o33, none⟩) xs.length capu31), (33, .int .i64 ((j32 : Nat) : Int)), (35, .pointer (some ⟨b33, o33 + j32 * 2, none⟩))] (by kernel_rfl) ?_
        refine OI_cell 3 (.tmp 35) (o33 + j32 * 2) (.int .i64 x0.free) (some 36) (by kernel_rfl) (by kernel_rfl) hat33.blk (m := 1) (by kernel_rfl) (At.cell0 hat33 (es_at hx0) rfl) ?_
        have hw38 : IntKind.i64.wrap (x0.free + n) = x0.free + n := (wrap64_id (by omega) (by omega)).trans (by omega)
        refine OI_static 10 [(32, .slice (some ⟨b33, o33, none⟩) xs.length capu31), (33, .int .i64 ((j32 : Nat) : Int)), (38, .int .i64 (IntKind.i64.wrap (x0.free + n)))] (by kernel_rfl) ?_
        refine OI_eq [(32, .slice (some ⟨b33, o33, none⟩) xs.length capu31), (33, .int .i64 ((j32 : Nat) : Int)), (38, .int .i64 (x0.free + n))] (by rw [hw38]) ?_
        refine OI_pure (some 39) (.indexAddr 64 (.tmp 32) (.tmp 33)) (by kernel_rfl) (pure_idxN (b := b33) (o := o33) (len := xs.length) (cap := capu31) (kd := .i64) (j := j32) (E := 68) (sz := 2) (by_ := 16) (by kernel_rfl) (by kernel_rfl) (by kernel_rfl) (by omega)) ?_
        refine OI_static 12 [(38, .int .i64 (x0.free + n)), (40, .pointer (some ⟨b33, o33 + j32 * 2, none⟩))] (by kernel_rfl) ?_
        refine OI_set (m := 1) (kd := false) 3 (.tmp 40) (.tmp 38) (o33 + j32 * 2) (.int .i64 (x0.free + n)) [.int .i64 (x0.free + n)] none (by kernel_rfl) (by kernel_rfl) (by kernel_rfl) (At.blk hat33) (by kernel_rfl) (by kernel_rfl) rfl (by have h1 := At.room hat33; have h2 := At.le hat33; rw [List.length_map] at h2; omega) (by simp [Value.oneCell']) ?_
        intro w39 hn40 hk41 hz42
        have hat43 := At.set (y := (Acc.mk (x0.free + n) x0.held : Acc)) (k := 0) hat33 hx0 (by omega) (by simp [Acc.cells, over]) hn40
        have hsz44 := Keep.size hk41
        replace hb10_15 := hb10_15.keep hk41 (by show ¬ (_ = _); omega)
        have hb10lt := hb10_15.lt
        replace hlu31 := hlu31.keep hk41 (by show ¬ (_ = _); omega)
        have hllt := hlu31.lt
        replace hK0 := Keep.fresh hK0 hk41 (by intro i hi hs; have hs2 : i = b33 := hs; first | (exfalso; omega) | (rw [hs2]; exact (hAFu31 _ ⟨_, rfl, rfl⟩).1)); have hzhK0 := Keep.size hK0
        replace hGu31 := Grd.keep hGu31 hk41 (fun q hq hs => by have hs : q = b33 := hs; have g0 := own37 q hq; have g1 := hDltu31 q hq; omega)
        have hlhx45 : (xs.set j32 (Acc.mk (x0.free + n) x0.held)).length = xs.length := List.length_set
        have hx45 : (xs.set j32 (Acc.mk (x0.free + n) x0.held))[j32]? = some (Acc.mk (x0.free + n) x0.held) := by rw [List.getElem?_set_self (List.getElem?_eq_some_iff.1 hx0).1]
        have ht46 : tot (xs.set j32 (Acc.mk (x0.free + n) x0.held)) = tot xs + ((x0.free + n) + x0.held) - (x0.free + x0.held) := tot_set _ hx0
        have hinv46 : Inv (xs.set j32 (Acc.mk (x0.free + n) x0.held)) := Inv.set hinvu31 hx0 _ (by show 0 ≤ (x0.free + n); omega) (by show 0 ≤ x0.held; omega) (by show tot xs + ((x0.free + n) + x0.held) - (x0.free + x0.held) ≤ 1073741824; omega)
        refine OI_end rfl ?_
        refine X_then ?_
        refine V_seq ?_
        refine V_region ?_
        refine OI_static 1 [(6, .int .i64 0)] (by kernel_rfl) ?_
        refine OI_end rfl ?_
        refine X_then ?_
        refine V_ret ?_
        have hm0 := mint_ok (by simpa using hg17) hc25 hc30
        exact X_return (.int .i64 0) rfl ⟨by rw [hm0], ⟨F, (by rw [show mintX xs a n = addF xs a n from by unfold mintX; rw [if_pos hm0], show addF xs a n = _ from by unfold addF; rw [setA_at hj32, acct_at hj32 hx0 hjl32]]; exact ⟨hinv46, hFlu31, fun q hq => Nat.lt_of_lt_of_le (hFltu31 q hq) (by omega), gu31, _, _, Du31, ⟨by simp only [List.length_set]; exact hlu31, At.slt hat43⟩, hGu31, hAFu31, hDFu31, hADu31⟩), fun q h => .inl h⟩, hK0⟩
  · skip
    refine OI_eq [(0, .pointer (some ⟨l, 0, none⟩)), (1, .int .i64 a), (2, .int .i64 n), (18, .bool true)] (by first | rfl | rw [hg17]) ?_
    refine OI_static 8 [(0, .pointer (some ⟨l, 0, none⟩)), (1, .int .i64 a), (2, .int .i64 n), (15, .bool true)] (by kernel_rfl) ?_
    refine OI_end rfl ?_
    refine X_then ?_
    refine V_true rfl ?_
    refine V_seq ?_
    refine V_region ?_
    refine OI_static 1 [(6, .int .i64 1)] (by kernel_rfl) ?_
    refine OI_end rfl ?_
    refine X_then ?_
    refine V_ret ?_
    refine X_ret_block ?_
    refine X_ret_then ?_
    exact X_return (.int .i64 1) rfl ⟨by unfold mintE; simp_all, ⟨F, by rw [show mintX xs a n = xs from by unfold mintX; rw [if_neg]; unfold mintE; simp_all]; exact h, fun q h => .inl h⟩, hK0⟩

theorem takes_spec (F : Nat → Prop) (l : Nat) (xs : List Acc) (cs : List Ci) (a n : Int) (w : World) (h : Led F w l xs cs) : Calls Try.prog 39 #[.pointer (some ⟨l, 0, none⟩), .int .i64 a, .int .i64 n] w fun e w' => e = .returned (.int .i64 (tkN xs a n)) ∧ (∃ F', Led F' w' l (tkX xs a n) (cs) ∧ (∀ q, F' q → F q ∨ w.heap.size ≤ q)) ∧ Keep F w w' := by
  have hFlt := Led.lt h
  have hllt := hFlt _ (Led.at_ h)
  have hinv := Led.inv h
  have hK0 : Keep F w w := Keep.refl _ _
  have hzhK0 := Keep.size hK0
  refine enterV Try.func39 rfl [.pointer (some ⟨l, 0, none⟩), .int .i64 a, .int .i64 n] 35 rfl rfl rfl ?_
  refine V_pick [(0, .pointer (some ⟨l, 0, none⟩)), (1, .int .i64 a), (2, .int .i64 n)] rfl ?_
  refine V_seq ?_
  refine V_region ?_
  refine OI_static 1 [(0, .pointer (some ⟨l, 0, none⟩)), (1, .int .i64 a), (2, .int .i64 n)] (by kernel_rfl) ?_
  refine OI_end rfl ?_
  refine X_then ?_
  refine V_seq ?_
  refine V_region ?_
  refine OI_static 2 [(0, .pointer (some ⟨l, 0, none⟩)), (1, .int .i64 a), (2, .int .i64 n), (10, .pointer (some ⟨l, 0, none⟩)), (11, .int .i64 a)] (by kernel_rfl) ?_
  refine OI_call { callee := (Callee.value (Operand.func 34)), args := #[(Operand.tmp 10), (Operand.tmp 11)], argTypes := #[22, 3] } 34 #[.pointer (some ⟨l, 0, none⟩), .int .i64 a] (some 12) (by kernel_rfl) (by kernel_rfl) (by kernel_rfl) (account_spec F l xs cs a _ h) ?_
  rintro _ w7 ⟨rfl, hk8⟩
  refine ⟨_, rfl, ?_⟩
  have hsz9 := Keep.size hk8
  replace h := Led.keep h hk8 (fun _ _ f => f)
  replace hK0 := Keep.tr hK0 (Keep.ofNone hk8); have hzhK0 := Keep.size hK0
  refine OI_static 6 [(0, .pointer (some ⟨l, 0, none⟩)), (1, .int .i64 a), (2, .int .i64 n), (13, .agg (Acc.cells (acct xs a)).toArray), (14, .bool (isA a))] (by kernel_rfl) ?_
  refine OI_alloc 68 (.agg #[.int .i64 0, .int .i64 0]) [.int .i64 0, .int .i64 0] (some 7) (by kernel_rfl) (by kernel_rfl) (by kernel_rfl) ?_
  intro b10 w10 e10 hb10 k10 z10
  have hsz11 := Keep.size k10
  replace h := Led.keep h k10 (fun _ _ f => f)
  replace hK0 := Keep.tr hK0 (Keep.ofNone k10); have hzhK0 := Keep.size hK0
  have hb10lt := hb10.lt
  refine OI_set (m := 2) (kd := true) 68 (.tmp 7) (.tmp 13) 0 (.agg (Acc.cells (acct xs a)).toArray) (Acc.cells (acct xs a)) none (by kernel_rfl) (by kernel_rfl) (by kernel_rfl) hb10 (by kernel_rfl) rfl (Acc.len _) (Nat.le_of_ble_eq_true (by kernel_rfl)) (Acc.one _) ?_
  intro w12 hb10_15 hk13 hz14
  replace hb10_15 : Blk w12 b10 (Acc.cells (acct xs a)) 68 := (by rwa [over_whole (by rw [Acc.len]; rfl)] at hb10_15)
  have hsz16 := Keep.size hk13
  replace h := Led.keep h hk13 (fun q hq hs => by have hs : q = b10 := hs; have g1 := hFlt q hq; omega)
  replace hK0 := Keep.fresh hK0 hk13 (by intro i hi hs; have hs2 : i = b10 := hs; exfalso; omega); have hzhK0 := Keep.size hK0
  refine OI_static 9 [(0, .pointer (some ⟨l, 0, none⟩)), (1, .int .i64 a), (2, .int .i64 n), (7, .pointer (some ⟨b10, 0, none⟩)), (8, .bool (isA a))] (by kernel_rfl) ?_
  refine OI_end rfl ?_
  refine X_then ?_
  refine V_seq ?_
  refine V_seq ?_
  refine V_region ?_
  refine OI_static 2 [(0, .pointer (some ⟨l, 0, none⟩)), (1, .int .i64 a), (2, .int .i64 n), (7, .pointer (some ⟨b10, 0, none⟩)), (16, .bool (!(isA a)))] (by kernel_rfl) ?_
  refine OI_end rfl ?_
  refine X_then ?_
  refine V_ifb (!(isA a)) (by kernel_rfl) (fun hc17 => ?_) (fun hc17 => ?_)
  · skip
    refine V_seq ?_
    refine V_region ?_
    refine OI_static 1 [(6, .int .i64 0)] (by kernel_rfl) ?_
    refine OI_end rfl ?_
    refine X_then ?_
    refine V_ret ?_
    refine X_ret_then ?_
    exact X_return (.int .i64 0) rfl ⟨by unfold tkN; simp_all, ⟨F, by rw [show tkX xs a n = xs from by unfold tkX; simp_all]; exact h, fun q h => .inl h⟩, hK0⟩
  · skip
    obtain ⟨hinvu18, hFlu18, hFltu18, gu18, Au18, capu18, Du18, hatu18, hGu18, hAFu18, hDFu18, hADu18⟩ := h
    have hlu18 := hatu18.blk
    have hAu18 := hatu18.sl
    have hlku18 := hlu18.lt
    have hAlu18 := fun q hq => And.intro (hAFu18 q hq).2 (hFlt q (hAFu18 q hq).1)
    have hAltu18 := SlT.lt hAu18
    have hDlu18 := fun q hq => And.intro (hDFu18 q hq).2 (hFlt q (hDFu18 q hq).1)
    have hDltu18 := Grd.lt hGu18
    have hx10u18 := hinvu18.1
    have htotu18 := hinvu18.2.2
    have hgu18lt := hDltu18 _ (Grd.at_ hGu18)
    obtain ⟨j19, hj19, hjl19⟩ : ∃ j : Nat, a = j ∧ j < 10 := ⟨(a).toNat, by have h9 := (by simpa using hc17); simp only [isA, decide_eq_true_eq] at h9; omega, by have h9 := (by simpa using hc17); simp only [isA, decide_eq_true_eq] at h9; omega⟩
    obtain ⟨x0, hx0⟩ : ∃ x, xs[j19]? = some x := ⟨_, List.getElem?_eq_getElem (by omega)⟩
    have hxa := acct_at hj19 hx0 hjl19
    obtain ⟨hbf0, hbh0, hbt0, _⟩ := hinvu18.at_ hx0
    have htk : 0 ≤ imax (imin n (acct xs a).held) 0 ∧ imax (imin n (acct xs a).held) 0 ≤ x0.held := by rw [hxa]; exact tk_bnd hbh0
    refine V_skip ?_
    refine X_then ?_
    refine V_seq ?_
    refine V_region ?_
    refine OI_static 2 [(0, .pointer (some ⟨l, 0, none⟩)), (1, .int .i64 a), (17, .int .i64 n), (18, .pointer (some ⟨b10, 1, none⟩))] (by kernel_rfl) ?_
    refine OI_cell 3 (.tmp 18) 1 (.int .i64 ((acct xs a).held)) (some 19) (by kernel_rfl) (by kernel_rfl) hb10_15 (m := 1) (by kernel_rfl) rfl ?_
    refine OI_static 6 [(0, .pointer (some ⟨l, 0, none⟩)), (1, .int .i64 a), (2, .int .i64 (imax (imin n ((acct xs a).held)) 0))] (by kernel_rfl) ?_
    refine OI_end rfl ?_
    refine X_then ?_
    refine V_seq ?_
    refine V_region ?_
    refine OI_static 3 [(1, .int .i64 a), (2, .int .i64 (imax (imin n ((acct xs a).held)) 0)), (24, .pointer (some ⟨l, 0, none⟩))] (by kernel_rfl) ?_
    refine OI_cell 64 (.tmp 24) 0 (.slice Au18 xs.length capu18) (some 25) (by kernel_rfl) (by kernel_rfl) hlu18 (m := 1) (by kernel_rfl) rfl ?_
    refine OI_static 5 [(2, .int .i64 (imax (imin n ((acct xs a).held)) 0)), (25, .slice Au18 xs.length capu18), (26, .int .i64 a)] (by kernel_rfl) ?_
    obtain ⟨b20, o20, L20, T20, rfl, hat20⟩ := SlT.open_ hAu18 (by first | omega | (simp only [List.length_map]; omega) | (simp; done) | (simp; omega))
    have hb20lt := hat20.blk.lt
    have hob21 := hAlu18 b20 ⟨_, rfl, rfl⟩
    have hob22 := hAltu18 b20 ⟨_, rfl, rfl⟩
    have hne23 : ∀ q, Du18 q → q ≠ b20 := fun q hq hs => (fun q h1 h2 => hADu18 q h2 h1) q hq ⟨_, rfl, hs⟩
    have own24 := fun q hq => And.intro (hDlu18 q hq) (hne23 q hq)
    refine OI_pick [(2, .int .i64 (imax (imin n ((acct xs a).held)) 0)), (25, .slice (some ⟨b20, o20, none⟩) xs.length capu18), (26, .int .i64 a)] (by kernel_rfl) ?_
    refine OI_eq [(2, .int .i64 (imax (imin n ((acct xs a).held)) 0)), (25, .slice (some ⟨b20, o20, none⟩) xs.length capu18), (26, .int .i64 ((j19 : Nat) : Int))] (by rw [hj19]) ?_
    refine OI_pure (some 27) (.indexAddr 64 (.tmp 25) (.tmp 26)) (by kernel_rfl) (pure_idxN (b := b20) (o := o20) (len := xs.length) (cap := capu18) (kd := .i64) (j := j19) (E := 68) (sz := 2) (by_ := 16) (by kernel_rfl) (by kernel_rfl) (by kernel_rfl) (by omega)) ?_
    refine OI_static 7 [(2, .int .i64 (imax (imin n ((acct xs a).held)) 0)), (25, .slice (some ⟨b20, o20, none⟩) xs.length capu18), (26, .int .i64 ((j19 : Nat) : Int)), (28, .pointer (some ⟨b20, o20 + j19 * 2 + 1, none⟩))] (by kernel_rfl) ?_
    refine OI_cell 3 (.tmp 28) (o20 + j19 * 2 + 1) (.int .i64 x0.held) (some 29) (by kernel_rfl) (by kernel_rfl) hat20.blk (m := 1) (by kernel_rfl) (At.cell hat20 (es_at hx0) rfl) ?_
    have hw25 : IntKind.i64.wrap (x0.held - (imax (imin n ((acct xs a).held)) 0)) = x0.held - (imax (imin n ((acct xs a).held)) 0) := (wrap64_id (by omega) (by omega)).trans (by omega)
    refine OI_static 10 [(2, .int .i64 (imax (imin n ((acct xs a).held)) 0)), (25, .slice (some ⟨b20, o20, none⟩) xs.length capu18), (26, .int .i64 ((j19 : Nat) : Int)), (31, .int .i64 (IntKind.i64.wrap (x0.held - (imax (imin n ((acct xs a).held)) 0))))] (by kernel_rfl) ?_
    refine OI_eq [(2, .int .i64 (imax (imin n ((acct xs a).held)) 0)), (25, .slice (some ⟨b20, o20, none⟩) xs.length capu18), (26, .int .i64 ((j19 : Nat) : Int)), (31, .int .i64 (x0.held - (imax (imin n ((acct xs a).held)) 0)))] (by rw [hw25]) ?_
    refine OI_pure (some 32) (.indexAddr 64 (.tmp 25) (.tmp 26)) (by kernel_rfl) (pure_idxN (b := b20) (o := o20) (len := xs.length) (cap := capu18) (kd := .i64) (j := j19) (E := 68) (sz := 2) (by_ := 16) (by kernel_rfl) (by kernel_rfl) (by kernel_rfl) (by omega)) ?_
    refine OI_static 12 [(2, .int .i64 (imax (imin n ((acct xs a).held)) 0)), (31, .int .i64 (x0.held - (imax (imin n ((acct xs a).held)) 0))), (33, .pointer (some ⟨b20, o20 + j19 * 2 + 1, none⟩))] (by kernel_rfl) ?_
    refine OI_set (m := 1) (kd := false) 3 (.tmp 33) (.tmp 31) (o20 + j19 * 2 + 1) (.int .i64 (x0.held - (imax (imin n ((acct xs a).held)) 0))) [.int .i64 (x0.held - (imax (imin n ((acct xs a).held)) 0))] none (by kernel_rfl) (by kernel_rfl) (by kernel_rfl) (At.blk hat20) (by kernel_rfl) (by kernel_rfl) rfl (by have h1 := At.room hat20; have h2 := At.le hat20; rw [List.length_map] at h2; omega) (by simp [Value.oneCell']) ?_
    intro w26 hn27 hk28 hz29
    have hat30 := At.set (y := (Acc.mk x0.free (x0.held - (imax (imin n ((acct xs a).held)) 0)) : Acc)) (k := 1) hat20 hx0 (by omega) (by simp [Acc.cells, over]) hn27
    have hsz31 := Keep.size hk28
    replace hb10_15 := hb10_15.keep hk28 (by show ¬ (_ = _); omega)
    have hb10lt := hb10_15.lt
    replace hlu18 := hlu18.keep hk28 (by show ¬ (_ = _); omega)
    have hllt := hlu18.lt
    replace hK0 := Keep.fresh hK0 hk28 (by intro i hi hs; have hs2 : i = b20 := hs; first | (exfalso; omega) | (rw [hs2]; exact (hAFu18 _ ⟨_, rfl, rfl⟩).1)); have hzhK0 := Keep.size hK0
    replace hGu18 := Grd.keep hGu18 hk28 (fun q hq hs => by have hs : q = b20 := hs; have g0 := own24 q hq; have g1 := hDltu18 q hq; omega)
    have hlhx32 : (xs.set j19 (Acc.mk x0.free (x0.held - (imax (imin n ((acct xs a).held)) 0)))).length = xs.length := List.length_set
    have hx32 : (xs.set j19 (Acc.mk x0.free (x0.held - (imax (imin n ((acct xs a).held)) 0))))[j19]? = some (Acc.mk x0.free (x0.held - (imax (imin n ((acct xs a).held)) 0))) := by rw [List.getElem?_set_self (List.getElem?_eq_some_iff.1 hx0).1]
    have ht33 : tot (xs.set j19 (Acc.mk x0.free (x0.held - (imax (imin n ((acct xs a).held)) 0)))) = tot xs + (x0.free + (x0.held - (imax (imin n ((acct xs a).held)) 0))) - (x0.free + x0.held) := tot_set _ hx0
    have hinv33 : Inv (xs.set j19 (Acc.mk x0.free (x0.held - (imax (imin n ((acct xs a).held)) 0)))) := Inv.set hinvu18 hx0 _ (by show 0 ≤ x0.free; omega) (by show 0 ≤ (x0.held - (imax (imin n ((acct xs a).held)) 0)); omega) (by show tot xs + (x0.free + (x0.held - (imax (imin n ((acct xs a).held)) 0))) - (x0.free + x0.held) ≤ 1073741824; omega)
    refine OI_end rfl ?_
    refine X_then ?_
    refine V_seq ?_
    refine V_region ?_
    refine OI_static 2 [(6, .int .i64 (imax (imin n ((acct xs a).held)) 0))] (by kernel_rfl) ?_
    refine OI_end rfl ?_
    refine X_then ?_
    refine V_ret ?_
    have hsa : isA a = true := (by simpa using hc17)
    exact X_return (.int .i64 (imax (imin n ((acct xs a).held)) 0)) rfl ⟨by simp only [tkN, hsa, if_true], ⟨F, (by rw [show tkX xs a n = xs.set j19 (Acc.mk x0.free (x0.held - (imax (imin n ((acct xs a).held)) 0))) from by simp only [tkX, tkN, subH, hsa, if_true, setA_at hj19, hxa]]; exact ⟨hinv33, hFlu18, fun q hq => Nat.lt_of_lt_of_le (hFltu18 q hq) (by omega), gu18, _, _, Du18, ⟨by simp only [List.length_set]; exact hlu18, At.slt hat30⟩, hGu18, hAFu18, hDFu18, hADu18⟩), fun q h => .inl h⟩, hK0⟩
end Go.Al
