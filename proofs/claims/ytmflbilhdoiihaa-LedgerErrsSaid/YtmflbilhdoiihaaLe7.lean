/-
  Walks of package ledger: what changes it: Lock; a nil ledger.
-/
import Derived.Test.YtmflbilhdoiihaaLe6
namespace Go.Al
open Go Go.RowKit Go.Proofs
theorem lock_spec (F : Nat → Prop) (l : Nat) (xs : List Acc) (cs : List Ci) (a i n : Int) (w : World) (h : Led F w l xs cs) (hmax : cs.length < 100000) : Calls Try.prog 15 #[.pointer (some ⟨l, 0, none⟩), .int .i64 a, .int .i64 i, .int .i64 n] w fun e w' => e = .returned (.tuple #[]) ∧ (∃ F', Led F' w' l xs (lockC cs a i n) ∧ (∀ q, F' q → F q ∨ w.heap.size ≤ q)) ∧ Keep F w w' := by
  have hFlt := Led.lt h
  have hllt := hFlt _ (Led.at_ h)
  have hinv := Led.inv h
  have hK0 : Keep F w w := Keep.refl _ _
  have hzhK0 := Keep.size hK0
  refine enterV Try.func15 rfl [.pointer (some ⟨l, 0, none⟩), .int .i64 a, .int .i64 i, .int .i64 n] 41 rfl rfl rfl ?_
  refine V_pick [(0, .pointer (some ⟨l, 0, none⟩)), (1, .int .i64 a), (2, .int .i64 i), (3, .int .i64 n)] rfl ?_
  refine V_seq ?_
  refine V_region ?_
  refine OI_static 2 [(0, .pointer (some ⟨l, 0, none⟩)), (1, .int .i64 a), (2, .int .i64 i), (3, .int .i64 n), (11, .pointer (some ⟨l, 0, none⟩)), (12, .int .i64 a)] (by kernel_rfl) ?_
  refine OI_call { callee := (Callee.value (Operand.func 34)), args := #[(Operand.tmp 11), (Operand.tmp 12)], argTypes := #[22, 3] } 34 #[.pointer (some ⟨l, 0, none⟩), .int .i64 a] (some 13) (by kernel_rfl) (by kernel_rfl) (by kernel_rfl) (account_spec F l xs cs a _ h) ?_
  rintro _ w9 ⟨rfl, hk10⟩
  refine ⟨_, rfl, ?_⟩
  have hsz11 := Keep.size hk10
  replace h := Led.keep h hk10 (fun _ _ f => f)
  replace hK0 := Keep.tr hK0 (Keep.ofNone hk10); have hzhK0 := Keep.size hK0
  refine OI_static 6 [(0, .pointer (some ⟨l, 0, none⟩)), (1, .int .i64 a), (2, .int .i64 i), (3, .int .i64 n), (14, .agg (Acc.cells (acct xs a)).toArray), (15, .bool (isA a))] (by kernel_rfl) ?_
  refine OI_alloc 68 (.agg #[.int .i64 0, .int .i64 0]) [.int .i64 0, .int .i64 0] (some 8) (by kernel_rfl) (by kernel_rfl) (by kernel_rfl) ?_
  intro b12 w12 e12 hb12 k12 z12
  have hsz13 := Keep.size k12
  replace h := Led.keep h k12 (fun _ _ f => f)
  replace hK0 := Keep.tr hK0 (Keep.ofNone k12); have hzhK0 := Keep.size hK0
  have hb12lt := hb12.lt
  refine OI_set (m := 2) (kd := true) 68 (.tmp 8) (.tmp 14) 0 (.agg (Acc.cells (acct xs a)).toArray) (Acc.cells (acct xs a)) none (by kernel_rfl) (by kernel_rfl) (by kernel_rfl) hb12 (by kernel_rfl) rfl (Acc.len _) (Nat.le_of_ble_eq_true (by kernel_rfl)) (Acc.one _) ?_
  intro w14 hb12_17 hk15 hz16
  replace hb12_17 : Blk w14 b12 (Acc.cells (acct xs a)) 68 := (by rwa [over_whole (by rw [Acc.len]; rfl)] at hb12_17)
  have hsz18 := Keep.size hk15
  replace h := Led.keep h hk15 (fun q hq hs => by have hs : q = b12 := hs; have g1 := hFlt q hq; omega)
  replace hK0 := Keep.fresh hK0 hk15 (by intro i hi hs; have hs2 : i = b12 := hs; exfalso; omega); have hzhK0 := Keep.size hK0
  refine OI_static 9 [(0, .pointer (some ⟨l, 0, none⟩)), (1, .int .i64 a), (2, .int .i64 i), (3, .int .i64 n), (9, .bool (isA a))] (by kernel_rfl) ?_
  refine OI_end rfl ?_
  refine X_then ?_
  refine V_block ?_
  refine V_seq ?_
  refine V_region ?_
  refine OI_static 3 [(0, .pointer (some ⟨l, 0, none⟩)), (1, .int .i64 a), (2, .int .i64 i), (3, .int .i64 n), (24, .bool (!(isA a)))] (by kernel_rfl) ?_
  refine OI_end rfl ?_
  refine X_then ?_
  refine V_ifb (!(isA a)) (by kernel_rfl) (fun hc19 => ?_) (fun hc19 => ?_)
  · skip
    refine V_skip ?_
    refine X_block ?_
    exact X_end _ rfl ⟨rfl, ⟨F, by rw [show lockC cs a i n = cs from by unfold lockC; rw [if_neg]; simp_all]; exact h, fun q h => .inl h⟩, hK0⟩
  · skip
    obtain ⟨hinvu20, hFlu20, hFltu20, gu20, Au20, capu20, Du20, hatu20, hGu20, hAFu20, hDFu20, hADu20⟩ := h
    have hlu20 := hatu20.blk
    have hAu20 := hatu20.sl
    have hlku20 := hlu20.lt
    have hAlu20 := fun q hq => And.intro (hAFu20 q hq).2 (hFlt q (hAFu20 q hq).1)
    have hAltu20 := SlT.lt hAu20
    have hDlu20 := fun q hq => And.intro (hDFu20 q hq).2 (hFlt q (hDFu20 q hq).1)
    have hDltu20 := Grd.lt hGu20
    have hx10u20 := hinvu20.1
    have htotu20 := hinvu20.2.2
    have hgu20lt := hDltu20 _ (Grd.at_ hGu20)
    have hDRu20 : ∀ q, Du20 q → F q ∨ w.heap.size ≤ q := fun q hq => .inl (hDFu20 q hq).1
    refine V_seq ?_
    refine V_region ?_
    refine OI_static 3 [(0, .pointer (some ⟨l, 0, none⟩)), (1, .int .i64 a), (2, .int .i64 i), (3, .int .i64 n), (30, .bool (decide (n ≤ 0)))] (by kernel_rfl) ?_
    by_cases hg21 : n ≤ 0
    · skip
      refine OI_eq [(0, .pointer (some ⟨l, 0, none⟩)), (1, .int .i64 a), (2, .int .i64 i), (3, .int .i64 n), (30, .bool true)] (by first | simp [hg21] | rfl) ?_
      refine OI_static 7 [(0, .pointer (some ⟨l, 0, none⟩)), (1, .int .i64 a), (2, .int .i64 i), (3, .int .i64 n), (27, .bool true)] (by kernel_rfl) ?_
      refine OI_end rfl ?_
      refine X_then ?_
      refine V_true rfl ?_
      refine V_region ?_
      refine OI_static 3 [(1, .int .i64 a), (2, .int .i64 i), (36, .pointer (some ⟨l, 1, none⟩))] (by kernel_rfl) ?_
      refine OI_cell 62 (.tmp 36) 1 (.pointer (some ⟨gu20, 0, none⟩)) (some 37) (by kernel_rfl) (by kernel_rfl) hlu20 (m := 1) (by kernel_rfl) rfl ?_
      refine OI_static 6 [(37, .pointer (some ⟨gu20, 0, none⟩)), (38, .int .i64 a), (39, .int .i64 i)] (by kernel_rfl) ?_
      refine OI_call { callee := (Callee.value (Operand.func 35)), args := #[(Operand.tmp 37), (Operand.tmp 38), (Operand.tmp 39)], argTypes := #[62, 3, 3] } 35 #[.pointer (some ⟨gu20, 0, none⟩), .int .i64 a, .int .i64 i] (some 40) (by kernel_rfl) (by kernel_rfl) (by kernel_rfl) (del_grd Du20 gu20 cs a i _ hGu20) ?_
      rintro _ w24 ⟨rfl, ⟨F26, ho27, hfr28⟩, hk25⟩
      refine ⟨_, rfl, ?_⟩
      have hsz29 := Keep.size hk25
      replace hb12_17 := hb12_17.keep hk25 (fun hs => by have h1 := hDlu20 _ hs; have h2 := hDltu20 _ hs; omega)
      have hb12lt := hb12_17.lt
      replace hlu20 := hlu20.keep hk25 (fun hs => by have h1 := hDlu20 _ hs; have h2 := hDltu20 _ hs; omega)
      have hllt := hlu20.lt
      replace hAu20 := SlT.keep hAu20 hk25 (fun q hq hs => (fun q h1 h2 => hADu20 q h2 h1) q hs hq)
      replace hK0 := Keep.fresh hK0 hk25 (fun i hi hs => by rcases hDRu20 i hs with h | h; exact h; (exfalso; omega)); have hzhK0 := Keep.size hK0
      have own31 : ∀ q, F26 q → q ≠ l ∧ q ≠ b12 ∧ q ≠ l := fun q hq => by rcases hfr28 q hq with h | h; (have h1 := hDlu20 q h; have h2 := hDltu20 q h; omega); omega
      have lt30 := Grd.lt ho27
      have rel32 : ∀ q, F26 q → F q ∨ w.heap.size ≤ q := fun q hq => by rcases hfr28 q hq with h | h; exact hDRu20 q h; exact .inr (by omega)
      have dis33 : ∀ q, F26 q → ¬ inA Au20 q := fun q h1 h2 => by rcases hfr28 q h1 with h | h; exact (fun q h1 h2 => hADu20 q h2 h1) q h h2; (have h4 := hAltu20 q h2; omega)
      refine OI_end rfl ?_
      refine X_block ?_
      have hsa : isA a = true := (by simpa using hc19)
      have hE : lockC cs a i n = delC a i cs := by unfold lockC; rw [if_pos hsa]; first | rw [if_pos (by omega)] | rw [if_neg (by omega)]
      rw [hE]
      exact X_end _ rfl ⟨rfl, ⟨more F w w24, ⟨hinvu20, .inl hFlu20, (fun q hq => by rcases hq with hq | hq; (have h9 := hFltu20 q hq; omega); exact hq.2), gu20, _, _, _, ⟨hlu20, hAu20⟩, ho27, fun q hq => ⟨.inl (hAFu20 q hq).1, (hAFu20 q hq).2⟩, fun q hq => ⟨by rcases hfr28 q hq with h9 | h9; exact .inl (hDFu20 q h9).1; exact .inr ⟨by omega, lt30 q hq⟩, by have h8 := own31 q hq; omega⟩, fun q h1 h2 => dis33 q h2 h1⟩, fun q hq => hq.imp id (·.1)⟩, hK0⟩
    · skip
      refine OI_eq [(0, .pointer (some ⟨l, 0, none⟩)), (1, .int .i64 a), (2, .int .i64 i), (3, .int .i64 n), (30, .bool false)] (by first | simp [hg21] | rfl) ?_
      refine OI_static 7 [(0, .pointer (some ⟨l, 0, none⟩)), (1, .int .i64 a), (2, .int .i64 i), (3, .int .i64 n), (27, .bool (decide (n > 1073741824)))] (by kernel_rfl) ?_
      refine OI_end rfl ?_
      refine X_then ?_
      refine V_if (n > 1073741824) (by kernel_rfl) (fun hc34 => ?_) (fun hc34 => ?_)
      · skip
        refine V_region ?_
        refine OI_static 3 [(1, .int .i64 a), (2, .int .i64 i), (36, .pointer (some ⟨l, 1, none⟩))] (by kernel_rfl) ?_
        refine OI_cell 62 (.tmp 36) 1 (.pointer (some ⟨gu20, 0, none⟩)) (some 37) (by kernel_rfl) (by kernel_rfl) hlu20 (m := 1) (by kernel_rfl) rfl ?_
        refine OI_static 6 [(37, .pointer (some ⟨gu20, 0, none⟩)), (38, .int .i64 a), (39, .int .i64 i)] (by kernel_rfl) ?_
        refine OI_call { callee := (Callee.value (Operand.func 35)), args := #[(Operand.tmp 37), (Operand.tmp 38), (Operand.tmp 39)], argTypes := #[62, 3, 3] } 35 #[.pointer (some ⟨gu20, 0, none⟩), .int .i64 a, .int .i64 i] (some 40) (by kernel_rfl) (by kernel_rfl) (by kernel_rfl) (del_grd Du20 gu20 cs a i _ hGu20) ?_
        rintro _ w37 ⟨rfl, ⟨F39, ho40, hfr41⟩, hk38⟩
        refine ⟨_, rfl, ?_⟩
        have hsz42 := Keep.size hk38
        replace hb12_17 := hb12_17.keep hk38 (fun hs => by have h1 := hDlu20 _ hs; have h2 := hDltu20 _ hs; omega)
        have hb12lt := hb12_17.lt
        replace hlu20 := hlu20.keep hk38 (fun hs => by have h1 := hDlu20 _ hs; have h2 := hDltu20 _ hs; omega)
        have hllt := hlu20.lt
        replace hAu20 := SlT.keep hAu20 hk38 (fun q hq hs => (fun q h1 h2 => hADu20 q h2 h1) q hs hq)
        replace hK0 := Keep.fresh hK0 hk38 (fun i hi hs => by rcases hDRu20 i hs with h | h; exact h; (exfalso; omega)); have hzhK0 := Keep.size hK0
        have own44 : ∀ q, F39 q → q ≠ l ∧ q ≠ b12 ∧ q ≠ l := fun q hq => by rcases hfr41 q hq with h | h; (have h1 := hDlu20 q h; have h2 := hDltu20 q h; omega); omega
        have lt43 := Grd.lt ho40
        have rel45 : ∀ q, F39 q → F q ∨ w.heap.size ≤ q := fun q hq => by rcases hfr41 q hq with h | h; exact hDRu20 q h; exact .inr (by omega)
        have dis46 : ∀ q, F39 q → ¬ inA Au20 q := fun q h1 h2 => by rcases hfr41 q h1 with h | h; exact (fun q h1 h2 => hADu20 q h2 h1) q h h2; (have h4 := hAltu20 q h2; omega)
        refine OI_end rfl ?_
        refine X_block ?_
        have hsa : isA a = true := (by simpa using hc19)
        have hE : lockC cs a i n = delC a i cs := by unfold lockC; rw [if_pos hsa]; first | rw [if_pos (by omega)] | rw [if_neg (by omega)]
        rw [hE]
        exact X_end _ rfl ⟨rfl, ⟨more F w w37, ⟨hinvu20, .inl hFlu20, (fun q hq => by rcases hq with hq | hq; (have h9 := hFltu20 q hq; omega); exact hq.2), gu20, _, _, _, ⟨hlu20, hAu20⟩, ho40, fun q hq => ⟨.inl (hAFu20 q hq).1, (hAFu20 q hq).2⟩, fun q hq => ⟨by rcases hfr41 q hq with h9 | h9; exact .inl (hDFu20 q h9).1; exact .inr ⟨by omega, lt43 q hq⟩, by have h8 := own44 q hq; omega⟩, fun q h1 h2 => dis46 q h2 h1⟩, fun q hq => hq.imp id (·.1)⟩, hK0⟩
      · skip
        refine V_region ?_
        refine OI_static 3 [(1, .int .i64 a), (2, .int .i64 i), (3, .int .i64 n), (18, .pointer (some ⟨l, 1, none⟩))] (by kernel_rfl) ?_
        refine OI_cell 62 (.tmp 18) 1 (.pointer (some ⟨gu20, 0, none⟩)) (some 19) (by kernel_rfl) (by kernel_rfl) hlu20 (m := 1) (by kernel_rfl) rfl ?_
        refine OI_static 7 [(19, .pointer (some ⟨gu20, 0, none⟩)), (20, .int .i64 a), (21, .int .i64 i), (22, .int .i64 n)] (by kernel_rfl) ?_
        refine OI_call { callee := (Callee.value (Operand.func 36)), args := #[(Operand.tmp 19), (Operand.tmp 20), (Operand.tmp 21), (Operand.tmp 22)], argTypes := #[62, 3, 3, 3] } 36 #[.pointer (some ⟨gu20, 0, none⟩), .int .i64 a, .int .i64 i, .int .i64 n] (some 23) (by kernel_rfl) (by kernel_rfl) (by kernel_rfl) (set_grd Du20 gu20 cs a i n _ hGu20 hmax) ?_
        rintro _ w49 ⟨rfl, ⟨F51, ho52, hfr53⟩, hk50⟩
        refine ⟨_, rfl, ?_⟩
        have hsz54 := Keep.size hk50
        replace hb12_17 := hb12_17.keep hk50 (fun hs => by have h1 := hDlu20 _ hs; have h2 := hDltu20 _ hs; omega)
        have hb12lt := hb12_17.lt
        replace hlu20 := hlu20.keep hk50 (fun hs => by have h1 := hDlu20 _ hs; have h2 := hDltu20 _ hs; omega)
        have hllt := hlu20.lt
        replace hAu20 := SlT.keep hAu20 hk50 (fun q hq hs => (fun q h1 h2 => hADu20 q h2 h1) q hs hq)
        replace hK0 := Keep.fresh hK0 hk50 (fun i hi hs => by rcases hDRu20 i hs with h | h; exact h; (exfalso; omega)); have hzhK0 := Keep.size hK0
        have own56 : ∀ q, F51 q → q ≠ l ∧ q ≠ b12 ∧ q ≠ l := fun q hq => by rcases hfr53 q hq with h | h; (have h1 := hDlu20 q h; have h2 := hDltu20 q h; omega); omega
        have lt55 := Grd.lt ho52
        have rel57 : ∀ q, F51 q → F q ∨ w.heap.size ≤ q := fun q hq => by rcases hfr53 q hq with h | h; exact hDRu20 q h; exact .inr (by omega)
        have dis58 : ∀ q, F51 q → ¬ inA Au20 q := fun q h1 h2 => by rcases hfr53 q h1 with h | h; exact (fun q h1 h2 => hADu20 q h2 h1) q h h2; (have h4 := hAltu20 q h2; omega)
        refine OI_end rfl ?_
        refine X_block ?_
        have hsa : isA a = true := (by simpa using hc19)
        have hE : lockC cs a i n = setC a i n cs := by unfold lockC; rw [if_pos hsa]; first | rw [if_pos (by omega)] | rw [if_neg (by omega)]
        rw [hE]
        exact X_end _ rfl ⟨rfl, ⟨more F w w49, ⟨hinvu20, .inl hFlu20, (fun q hq => by rcases hq with hq | hq; (have h9 := hFltu20 q hq; omega); exact hq.2), gu20, _, _, _, ⟨hlu20, hAu20⟩, ho52, fun q hq => ⟨.inl (hAFu20 q hq).1, (hAFu20 q hq).2⟩, fun q hq => ⟨by rcases hfr53 q hq with h9 | h9; exact .inl (hDFu20 q h9).1; exact .inr ⟨by omega, lt55 q hq⟩, by have h8 := own56 q hq; omega⟩, fun q h1 h2 => dis58 q h2 h1⟩, fun q hq => hq.imp id (·.1)⟩, hK0⟩

theorem transfer_nil (a b n : Int) (w : World) : Calls Try.prog 17 #[.pointer none, .int .i64 a, .int .i64 b, .int .i64 n] w fun e w' => e = .returned (.int .i64 1) ∧ Keep none_ w w' := by
  have hK0 : Keep none_ w w := Keep.refl _ _
  have hzhK0 := Keep.size hK0
  refine enterV Try.func17 rfl [.pointer none, .int .i64 a, .int .i64 b, .int .i64 n] 58 rfl rfl rfl ?_
  refine V_pick [(0, .pointer none), (1, .int .i64 a), (2, .int .i64 b), (3, .int .i64 n)] rfl ?_
  refine V_seq ?_
  refine V_region ?_
  refine OI_static 1 [(0, .pointer none), (1, .int .i64 a), (2, .int .i64 b), (3, .int .i64 n)] (by kernel_rfl) ?_
  refine OI_end rfl ?_
  refine X_then ?_
  refine V_seq ?_
  refine V_region ?_
  refine OI_static 3 [(0, .pointer none), (1, .int .i64 a), (2, .int .i64 b), (3, .int .i64 n), (12, .pointer none), (13, .int .i64 a), (14, .int .i64 n)] (by kernel_rfl) ?_
  refine OI_call { callee := (Callee.value (Operand.func 38)), args := #[(Operand.tmp 12), (Operand.tmp 13), (Operand.tmp 14)], argTypes := #[22, 3, 3] } 38 #[.pointer none, .int .i64 a, .int .i64 n] (some 15) (by kernel_rfl) (by kernel_rfl) (by kernel_rfl) (spends_nil a n _) ?_
  rintro _ w3 ⟨rfl, hk4⟩
  refine ⟨_, rfl, ?_⟩
  have hsz5 := Keep.size hk4
  replace hK0 := Keep.tr hK0 (Keep.ofNone hk4); have hzhK0 := Keep.size hK0
  refine OI_static 5 [(0, .pointer none), (1, .int .i64 a), (2, .int .i64 b), (3, .int .i64 n), (9, .int .i64 1)] (by kernel_rfl) ?_
  refine OI_end rfl ?_
  refine X_then ?_
  refine V_seq ?_
  refine V_seq ?_
  refine V_region ?_
  refine OI_static 2 [(0, .pointer none), (1, .int .i64 a), (2, .int .i64 b), (3, .int .i64 n), (9, .int .i64 1), (17, .pointer none), (18, .int .i64 b)] (by kernel_rfl) ?_
  refine OI_call { callee := (Callee.value (Operand.func 34)), args := #[(Operand.tmp 17), (Operand.tmp 18)], argTypes := #[22, 3] } 34 #[.pointer none, .int .i64 b] (some 19) (by kernel_rfl) (by kernel_rfl) (by kernel_rfl) (account_nil b _) ?_
  rintro _ w14 ⟨rfl, hk15⟩
  refine ⟨_, rfl, ?_⟩
  have hsz16 := Keep.size hk15
  replace hK0 := Keep.tr hK0 (Keep.ofNone hk15); have hzhK0 := Keep.size hK0
  refine OI_static 6 [(0, .pointer none), (1, .int .i64 a), (2, .int .i64 b), (3, .int .i64 n), (9, .int .i64 1), (20, .agg #[.int .i64 0, .int .i64 0]), (21, .bool false)] (by kernel_rfl) ?_
  refine OI_alloc 68 (.agg #[.int .i64 0, .int .i64 0]) [.int .i64 0, .int .i64 0] (some 10) (by kernel_rfl) (by kernel_rfl) (by kernel_rfl) ?_
  intro b17 w17 e17 hb17 k17 z17
  have hsz18 := Keep.size k17
  replace hK0 := Keep.tr hK0 (Keep.ofNone k17); have hzhK0 := Keep.size hK0
  have hb17lt := hb17.lt
  refine OI_set (m := 2) (kd := true) 68 (.tmp 10) (.tmp 20) 0 (.agg #[.int .i64 0, .int .i64 0]) [.int .i64 0, .int .i64 0] none (by kernel_rfl) (by kernel_rfl) (by kernel_rfl) hb17 (by kernel_rfl) (by kernel_rfl) (by kernel_rfl) (Nat.le_of_ble_eq_true (by kernel_rfl)) (by simp [Value.oneCell']) ?_
  intro w19 hb17_22 hk20 hz21
  replace hb17_22 : Blk w19 b17 [.int .i64 0, .int .i64 0] 68 := hb17_22
  have hsz23 := Keep.size hk20
  replace hK0 := Keep.fresh hK0 hk20 (by intro i hi hs; first | exact hs | exact Or.inl hs | exact Or.inr hs | (exfalso; have hs2 : i = b17 := hs; omega)); have hzhK0 := Keep.size hK0
  refine OI_static 9 [(0, .pointer none), (1, .int .i64 a), (2, .int .i64 b), (3, .int .i64 n), (9, .int .i64 1), (11, .bool false)] (by kernel_rfl) ?_
  refine OI_end rfl ?_
  refine X_then ?_
  refine V_seq ?_
  refine V_region ?_
  refine OI_static 2 [(0, .pointer none), (1, .int .i64 a), (2, .int .i64 b), (3, .int .i64 n), (9, .int .i64 1), (23, .bool true)] (by kernel_rfl) ?_
  refine OI_end rfl ?_
  refine X_then ?_
  refine V_true rfl ?_
  refine V_region ?_
  refine OI_static 1 [(0, .pointer none), (1, .int .i64 a), (2, .int .i64 b), (3, .int .i64 n), (9, .int .i64 1)] (by kernel_rfl) ?_
  refine OI_end rfl ?_
  refine X_then ?_
  refine V_seq ?_
  refine V_seq ?_
  refine V_region ?_
  refine OI_static 7 [(0, .pointer none), (1, .int .i64 a), (2, .int .i64 b), (3, .int .i64 n), (9, .int .i64 1), (30, .bool false)] (by kernel_rfl) ?_
  refine OI_end rfl ?_
  refine X_then ?_
  refine V_false rfl ?_
  refine V_skip ?_
  refine X_then ?_
  refine V_seq ?_
  refine V_seq ?_
  refine V_region ?_
  refine OI_static 2 [(0, .pointer none), (1, .int .i64 a), (2, .int .i64 b), (3, .int .i64 n), (9, .int .i64 1), (32, .bool false)] (by kernel_rfl) ?_
  refine OI_end rfl ?_
  refine X_then ?_
  refine V_false rfl ?_
  refine V_skip ?_
  refine X_then ?_
  refine V_seq ?_
  refine V_region ?_
  refine OI_static 2 [(8, .int .i64 1)] (by kernel_rfl) ?_
  refine OI_end rfl ?_
  refine X_then ?_
  refine V_ret ?_
  exact X_return (.int .i64 1) rfl ⟨rfl, hK0⟩

theorem reserve_nil (a n : Int) (w : World) : Calls Try.prog 21 #[.pointer none, .int .i64 a, .int .i64 n] w fun e w' => e = .returned (.int .i64 1) ∧ Keep none_ w w' := by
  have hK0 : Keep none_ w w := Keep.refl _ _
  have hzhK0 := Keep.size hK0
  refine enterV Try.func21 rfl [.pointer none, .int .i64 a, .int .i64 n] 39 rfl rfl rfl ?_
  refine V_pick [(0, .pointer none), (1, .int .i64 a), (2, .int .i64 n)] rfl ?_
  refine V_seq ?_
  refine V_region ?_
  refine OI_static 1 [(0, .pointer none), (1, .int .i64 a), (2, .int .i64 n)] (by kernel_rfl) ?_
  refine OI_end rfl ?_
  refine X_then ?_
  refine V_seq ?_
  refine V_region ?_
  refine OI_static 3 [(0, .pointer none), (1, .int .i64 a), (2, .int .i64 n), (8, .pointer none), (9, .int .i64 a), (10, .int .i64 n)] (by kernel_rfl) ?_
  refine OI_call { callee := (Callee.value (Operand.func 38)), args := #[(Operand.tmp 8), (Operand.tmp 9), (Operand.tmp 10)], argTypes := #[22, 3, 3] } 38 #[.pointer none, .int .i64 a, .int .i64 n] (some 11) (by kernel_rfl) (by kernel_rfl) (by kernel_rfl) (spends_nil a n _) ?_
  rintro _ w3 ⟨rfl, hk4⟩
  refine ⟨_, rfl, ?_⟩
  have hsz5 := Keep.size hk4
  replace hK0 := Keep.tr hK0 (Keep.ofNone hk4); have hzhK0 := Keep.size hK0
  refine OI_static 5 [(0, .pointer none), (1, .int .i64 a), (2, .int .i64 n), (7, .int .i64 1)] (by kernel_rfl) ?_
  refine OI_end rfl ?_
  refine X_then ?_
  refine V_seq ?_
  refine V_seq ?_
  refine V_region ?_
  refine OI_static 2 [(0, .pointer none), (1, .int .i64 a), (2, .int .i64 n), (7, .int .i64 1), (13, .bool false)] (by kernel_rfl) ?_
  refine OI_end rfl ?_
  refine X_then ?_
  refine V_false rfl ?_
  refine V_skip ?_
  refine X_then ?_
  refine V_seq ?_
  refine V_region ?_
  refine OI_static 2 [(6, .int .i64 1)] (by kernel_rfl) ?_
  refine OI_end rfl ?_
  refine X_then ?_
  refine V_ret ?_
  exact X_return (.int .i64 1) rfl ⟨rfl, hK0⟩

theorem takes_nil (a n : Int) (w : World) : Calls Try.prog 39 #[.pointer none, .int .i64 a, .int .i64 n] w fun e w' => e = .returned (.int .i64 0) ∧ Keep none_ w w' := by
  have hK0 : Keep none_ w w := Keep.refl _ _
  have hzhK0 := Keep.size hK0
  refine enterV Try.func39 rfl [.pointer none, .int .i64 a, .int .i64 n] 35 rfl rfl rfl ?_
  refine V_pick [(0, .pointer none), (1, .int .i64 a), (2, .int .i64 n)] rfl ?_
  refine V_seq ?_
  refine V_region ?_
  refine OI_static 1 [(0, .pointer none), (1, .int .i64 a), (2, .int .i64 n)] (by kernel_rfl) ?_
  refine OI_end rfl ?_
  refine X_then ?_
  refine V_seq ?_
  refine V_region ?_
  refine OI_static 2 [(0, .pointer none), (1, .int .i64 a), (2, .int .i64 n), (10, .pointer none), (11, .int .i64 a)] (by kernel_rfl) ?_
  refine OI_call { callee := (Callee.value (Operand.func 34)), args := #[(Operand.tmp 10), (Operand.tmp 11)], argTypes := #[22, 3] } 34 #[.pointer none, .int .i64 a] (some 12) (by kernel_rfl) (by kernel_rfl) (by kernel_rfl) (account_nil a _) ?_
  rintro _ w9 ⟨rfl, hk10⟩
  refine ⟨_, rfl, ?_⟩
  have hsz11 := Keep.size hk10
  replace hK0 := Keep.tr hK0 (Keep.ofNone hk10); have hzhK0 := Keep.size hK0
  refine OI_static 6 [(0, .pointer none), (1, .int .i64 a), (2, .int .i64 n), (13, .agg #[.int .i64 0, .int .i64 0]), (14, .bool false)] (by kernel_rfl) ?_
  refine OI_alloc 68 (.agg #[.int .i64 0, .int .i64 0]) [.int .i64 0, .int .i64 0] (some 7) (by kernel_rfl) (by kernel_rfl) (by kernel_rfl) ?_
  intro b12 w12 e12 hb12 k12 z12
  have hsz13 := Keep.size k12
  replace hK0 := Keep.tr hK0 (Keep.ofNone k12); have hzhK0 := Keep.size hK0
  have hb12lt := hb12.lt
  refine OI_set (m := 2) (kd := true) 68 (.tmp 7) (.tmp 13) 0 (.agg #[.int .i64 0, .int .i64 0]) [.int .i64 0, .int .i64 0] none (by kernel_rfl) (by kernel_rfl) (by kernel_rfl) hb12 (by kernel_rfl) (by kernel_rfl) (by kernel_rfl) (Nat.le_of_ble_eq_true (by kernel_rfl)) (by simp [Value.oneCell']) ?_
  intro w14 hb12_17 hk15 hz16
  replace hb12_17 : Blk w14 b12 [.int .i64 0, .int .i64 0] 68 := hb12_17
  have hsz18 := Keep.size hk15
  replace hK0 := Keep.fresh hK0 hk15 (by intro i hi hs; first | exact hs | exact Or.inl hs | exact Or.inr hs | (exfalso; have hs2 : i = b12 := hs; omega)); have hzhK0 := Keep.size hK0
  refine OI_static 9 [(0, .pointer none), (1, .int .i64 a), (2, .int .i64 n), (7, .pointer (some ⟨b12, 0, none⟩)), (8, .bool false)] (by kernel_rfl) ?_
  refine OI_end rfl ?_
  refine X_then ?_
  refine V_seq ?_
  refine V_seq ?_
  refine V_region ?_
  refine OI_static 2 [(0, .pointer none), (1, .int .i64 a), (2, .int .i64 n), (7, .pointer (some ⟨b12, 0, none⟩)), (16, .bool true)] (by kernel_rfl) ?_
  refine OI_end rfl ?_
  refine X_then ?_
  refine V_true rfl ?_
  refine V_seq ?_
  refine V_region ?_
  refine OI_static 1 [(6, .int .i64 0)] (by kernel_rfl) ?_
  refine OI_end rfl ?_
  refine X_then ?_
  refine V_ret ?_
  refine X_ret_then ?_
  exact X_return (.int .i64 0) rfl ⟨rfl, hK0⟩

theorem release_nil (a n : Int) (w : World) : Calls Try.prog 27 #[.pointer none, .int .i64 a, .int .i64 n] w fun e w' => e = .returned (.int .i64 0) ∧ Keep none_ w w' := by
  have hK0 : Keep none_ w w := Keep.refl _ _
  have hzhK0 := Keep.size hK0
  refine enterV Try.func27 rfl [.pointer none, .int .i64 a, .int .i64 n] 26 rfl rfl rfl ?_
  refine V_pick [(0, .pointer none), (1, .int .i64 a), (2, .int .i64 n)] rfl ?_
  refine V_seq ?_
  refine V_region ?_
  refine OI_static 1 [(0, .pointer none), (1, .int .i64 a), (2, .int .i64 n)] (by kernel_rfl) ?_
  refine OI_end rfl ?_
  refine X_then ?_
  refine V_seq ?_
  refine V_region ?_
  refine OI_static 3 [(0, .pointer none), (1, .int .i64 a), (7, .pointer none), (8, .int .i64 a), (9, .int .i64 n)] (by kernel_rfl) ?_
  refine OI_call { callee := (Callee.value (Operand.func 39)), args := #[(Operand.tmp 7), (Operand.tmp 8), (Operand.tmp 9)], argTypes := #[22, 3, 3] } 39 #[.pointer none, .int .i64 a, .int .i64 n] (some 10) (by kernel_rfl) (by kernel_rfl) (by kernel_rfl) (takes_nil a n _) ?_
  rintro _ w1 ⟨rfl, hk2⟩
  refine ⟨_, rfl, ?_⟩
  have hsz3 := Keep.size hk2
  replace hK0 := Keep.tr hK0 (Keep.ofNone hk2); have hzhK0 := Keep.size hK0
  refine OI_static 5 [(0, .pointer none), (1, .int .i64 a), (2, .int .i64 0)] (by kernel_rfl) ?_
  refine OI_end rfl ?_
  refine X_then ?_
  refine V_seq ?_
  refine V_seq ?_
  refine V_region ?_
  refine OI_static 2 [(0, .pointer none), (1, .int .i64 a), (2, .int .i64 0), (12, .bool false)] (by kernel_rfl) ?_
  refine OI_end rfl ?_
  refine X_then ?_
  refine V_false rfl ?_
  refine V_skip ?_
  refine X_then ?_
  refine V_seq ?_
  refine V_region ?_
  refine OI_static 2 [(6, .int .i64 0)] (by kernel_rfl) ?_
  refine OI_end rfl ?_
  refine X_then ?_
  refine V_ret ?_
  exact X_return (.int .i64 0) rfl ⟨rfl, hK0⟩

theorem slash_nil (a n : Int) (w : World) : Calls Try.prog 26 #[.pointer none, .int .i64 a, .int .i64 n] w fun e w' => e = .returned (.int .i64 0) ∧ Keep none_ w w' := by
  have hK0 : Keep none_ w w := Keep.refl _ _
  have hzhK0 := Keep.size hK0
  refine enterV Try.func26 rfl [.pointer none, .int .i64 a, .int .i64 n] 25 rfl rfl rfl ?_
  refine V_pick [(0, .pointer none), (1, .int .i64 a), (2, .int .i64 n)] rfl ?_
  refine V_seq ?_
  refine V_region ?_
  refine OI_static 1 [(0, .pointer none), (1, .int .i64 a), (2, .int .i64 n)] (by kernel_rfl) ?_
  refine OI_end rfl ?_
  refine X_then ?_
  refine V_seq ?_
  refine V_region ?_
  refine OI_static 3 [(0, .pointer none), (7, .pointer none), (8, .int .i64 a), (9, .int .i64 n)] (by kernel_rfl) ?_
  refine OI_call { callee := (Callee.value (Operand.func 39)), args := #[(Operand.tmp 7), (Operand.tmp 8), (Operand.tmp 9)], argTypes := #[22, 3, 3] } 39 #[.pointer none, .int .i64 a, .int .i64 n] (some 10) (by kernel_rfl) (by kernel_rfl) (by kernel_rfl) (takes_nil a n _) ?_
  rintro _ w1 ⟨rfl, hk2⟩
  refine ⟨_, rfl, ?_⟩
  have hsz3 := Keep.size hk2
  replace hK0 := Keep.tr hK0 (Keep.ofNone hk2); have hzhK0 := Keep.size hK0
  refine OI_static 5 [(0, .pointer none), (2, .int .i64 0)] (by kernel_rfl) ?_
  refine OI_end rfl ?_
  refine X_then ?_
  refine V_seq ?_
  refine V_seq ?_
  refine V_region ?_
  refine OI_static 2 [(0, .pointer none), (2, .int .i64 0), (12, .bool false)] (by kernel_rfl) ?_
  refine OI_end rfl ?_
  refine X_then ?_
  refine V_false rfl ?_
  refine V_skip ?_
  refine X_then ?_
  refine V_seq ?_
  refine V_region ?_
  refine OI_static 2 [(6, .int .i64 0)] (by kernel_rfl) ?_
  refine OI_end rfl ?_
  refine X_then ?_
  refine V_ret ?_
  exact X_return (.int .i64 0) rfl ⟨rfl, hK0⟩

theorem mint_nil (a n : Int) (w : World) : Calls Try.prog 23 #[.pointer none, .int .i64 a, .int .i64 n] w fun e w' => e = .returned (.int .i64 1) ∧ Keep none_ w w' := by
  have hK0 : Keep none_ w w := Keep.refl _ _
  have hzhK0 := Keep.size hK0
  refine enterV Try.func23 rfl [.pointer none, .int .i64 a, .int .i64 n] 41 rfl rfl rfl ?_
  refine V_pick [(0, .pointer none), (1, .int .i64 a), (2, .int .i64 n)] rfl ?_
  refine V_seq ?_
  refine V_region ?_
  refine OI_static 1 [(0, .pointer none), (1, .int .i64 a), (2, .int .i64 n)] (by kernel_rfl) ?_
  refine OI_end rfl ?_
  refine X_then ?_
  refine V_seq ?_
  refine V_region ?_
  refine OI_static 2 [(0, .pointer none), (1, .int .i64 a), (2, .int .i64 n), (10, .pointer none), (11, .int .i64 a)] (by kernel_rfl) ?_
  refine OI_call { callee := (Callee.value (Operand.func 34)), args := #[(Operand.tmp 10), (Operand.tmp 11)], argTypes := #[22, 3] } 34 #[.pointer none, .int .i64 a] (some 12) (by kernel_rfl) (by kernel_rfl) (by kernel_rfl) (account_nil a _) ?_
  rintro _ w9 ⟨rfl, hk10⟩
  refine ⟨_, rfl, ?_⟩
  have hsz11 := Keep.size hk10
  replace hK0 := Keep.tr hK0 (Keep.ofNone hk10); have hzhK0 := Keep.size hK0
  refine OI_static 6 [(0, .pointer none), (1, .int .i64 a), (2, .int .i64 n), (13, .agg #[.int .i64 0, .int .i64 0]), (14, .bool false)] (by kernel_rfl) ?_
  refine OI_alloc 68 (.agg #[.int .i64 0, .int .i64 0]) [.int .i64 0, .int .i64 0] (some 7) (by kernel_rfl) (by kernel_rfl) (by kernel_rfl) ?_
  intro b12 w12 e12 hb12 k12 z12
  have hsz13 := Keep.size k12
  replace hK0 := Keep.tr hK0 (Keep.ofNone k12); have hzhK0 := Keep.size hK0
  have hb12lt := hb12.lt
  refine OI_set (m := 2) (kd := true) 68 (.tmp 7) (.tmp 13) 0 (.agg #[.int .i64 0, .int .i64 0]) [.int .i64 0, .int .i64 0] none (by kernel_rfl) (by kernel_rfl) (by kernel_rfl) hb12 (by kernel_rfl) (by kernel_rfl) (by kernel_rfl) (Nat.le_of_ble_eq_true (by kernel_rfl)) (by simp [Value.oneCell']) ?_
  intro w14 hb12_17 hk15 hz16
  replace hb12_17 : Blk w14 b12 [.int .i64 0, .int .i64 0] 68 := hb12_17
  have hsz18 := Keep.size hk15
  replace hK0 := Keep.fresh hK0 hk15 (by intro i hi hs; first | exact hs | exact Or.inl hs | exact Or.inr hs | (exfalso; have hs2 : i = b12 := hs; omega)); have hzhK0 := Keep.size hK0
  refine OI_static 9 [(0, .pointer none), (1, .int .i64 a), (2, .int .i64 n), (8, .bool false)] (by kernel_rfl) ?_
  refine OI_end rfl ?_
  refine X_then ?_
  refine V_seq ?_
  refine V_block ?_
  refine V_seq ?_
  refine V_region ?_
  refine OI_static 8 [(0, .pointer none), (1, .int .i64 a), (2, .int .i64 n), (15, .bool true)] (by kernel_rfl) ?_
  refine OI_end rfl ?_
  refine X_then ?_
  refine V_true rfl ?_
  refine V_seq ?_
  refine V_region ?_
  refine OI_static 1 [(6, .int .i64 1)] (by kernel_rfl) ?_
  refine OI_end rfl ?_
  refine X_then ?_
  refine V_ret ?_
  refine X_ret_block ?_
  refine X_ret_then ?_
  exact X_return (.int .i64 1) rfl ⟨rfl, hK0⟩

theorem burn_nil (a n : Int) (w : World) : Calls Try.prog 24 #[.pointer none, .int .i64 a, .int .i64 n] w fun e w' => e = .returned (.int .i64 1) ∧ Keep none_ w w' := by
  have hK0 : Keep none_ w w := Keep.refl _ _
  have hzhK0 := Keep.size hK0
  refine enterV Try.func24 rfl [.pointer none, .int .i64 a, .int .i64 n] 27 rfl rfl rfl ?_
  refine V_pick [(0, .pointer none), (1, .int .i64 a), (2, .int .i64 n)] rfl ?_
  refine V_seq ?_
  refine V_region ?_
  refine OI_static 1 [(0, .pointer none), (1, .int .i64 a), (2, .int .i64 n)] (by kernel_rfl) ?_
  refine OI_end rfl ?_
  refine X_then ?_
  refine V_seq ?_
  refine V_region ?_
  refine OI_static 3 [(0, .pointer none), (1, .int .i64 a), (2, .int .i64 n), (8, .pointer none), (9, .int .i64 a), (10, .int .i64 n)] (by kernel_rfl) ?_
  refine OI_call { callee := (Callee.value (Operand.func 38)), args := #[(Operand.tmp 8), (Operand.tmp 9), (Operand.tmp 10)], argTypes := #[22, 3, 3] } 38 #[.pointer none, .int .i64 a, .int .i64 n] (some 11) (by kernel_rfl) (by kernel_rfl) (by kernel_rfl) (spends_nil a n _) ?_
  rintro _ w3 ⟨rfl, hk4⟩
  refine ⟨_, rfl, ?_⟩
  have hsz5 := Keep.size hk4
  replace hK0 := Keep.tr hK0 (Keep.ofNone hk4); have hzhK0 := Keep.size hK0
  refine OI_static 5 [(0, .pointer none), (1, .int .i64 a), (2, .int .i64 n), (7, .int .i64 1)] (by kernel_rfl) ?_
  refine OI_end rfl ?_
  refine X_then ?_
  refine V_seq ?_
  refine V_seq ?_
  refine V_region ?_
  refine OI_static 2 [(0, .pointer none), (1, .int .i64 a), (2, .int .i64 n), (7, .int .i64 1), (13, .bool false)] (by kernel_rfl) ?_
  refine OI_end rfl ?_
  refine X_then ?_
  refine V_false rfl ?_
  refine V_skip ?_
  refine X_then ?_
  refine V_seq ?_
  refine V_region ?_
  refine OI_static 2 [(6, .int .i64 1)] (by kernel_rfl) ?_
  refine OI_end rfl ?_
  refine X_then ?_
  refine V_ret ?_
  exact X_return (.int .i64 1) rfl ⟨rfl, hK0⟩

theorem lock_nil (a b n : Int) (w : World) : Calls Try.prog 15 #[.pointer none, .int .i64 a, .int .i64 b, .int .i64 n] w fun e w' => e = .returned (.tuple #[]) ∧ Keep none_ w w' := by
  have hK0 : Keep none_ w w := Keep.refl _ _
  have hzhK0 := Keep.size hK0
  refine enterV Try.func15 rfl [.pointer none, .int .i64 a, .int .i64 b, .int .i64 n] 41 rfl rfl rfl ?_
  refine V_pick [(0, .pointer none), (1, .int .i64 a), (2, .int .i64 b), (3, .int .i64 n)] rfl ?_
  refine V_seq ?_
  refine V_region ?_
  refine OI_static 2 [(0, .pointer none), (1, .int .i64 a), (2, .int .i64 b), (3, .int .i64 n), (11, .pointer none), (12, .int .i64 a)] (by kernel_rfl) ?_
  refine OI_call { callee := (Callee.value (Operand.func 34)), args := #[(Operand.tmp 11), (Operand.tmp 12)], argTypes := #[22, 3] } 34 #[.pointer none, .int .i64 a] (some 13) (by kernel_rfl) (by kernel_rfl) (by kernel_rfl) (account_nil a _) ?_
  rintro _ w9 ⟨rfl, hk10⟩
  refine ⟨_, rfl, ?_⟩
  have hsz11 := Keep.size hk10
  replace hK0 := Keep.tr hK0 (Keep.ofNone hk10); have hzhK0 := Keep.size hK0
  refine OI_static 6 [(0, .pointer none), (1, .int .i64 a), (2, .int .i64 b), (3, .int .i64 n), (14, .agg #[.int .i64 0, .int .i64 0]), (15, .bool false)] (by kernel_rfl) ?_
  refine OI_alloc 68 (.agg #[.int .i64 0, .int .i64 0]) [.int .i64 0, .int .i64 0] (some 8) (by kernel_rfl) (by kernel_rfl) (by kernel_rfl) ?_
  intro b12 w12 e12 hb12 k12 z12
  have hsz13 := Keep.size k12
  replace hK0 := Keep.tr hK0 (Keep.ofNone k12); have hzhK0 := Keep.size hK0
  have hb12lt := hb12.lt
  refine OI_set (m := 2) (kd := true) 68 (.tmp 8) (.tmp 14) 0 (.agg #[.int .i64 0, .int .i64 0]) [.int .i64 0, .int .i64 0] none (by kernel_rfl) (by kernel_rfl) (by kernel_rfl) hb12 (by kernel_rfl) (by kernel_rfl) (by kernel_rfl) (Nat.le_of_ble_eq_true (by kernel_rfl)) (by simp [Value.oneCell']) ?_
  intro w14 hb12_17 hk15 hz16
  replace hb12_17 : Blk w14 b12 [.int .i64 0, .int .i64 0] 68 := hb12_17
  have hsz18 := Keep.size hk15
  replace hK0 := Keep.fresh hK0 hk15 (by intro i hi hs; first | exact hs | exact Or.inl hs | exact Or.inr hs | (exfalso; have hs2 : i = b12 := hs; omega)); have hzhK0 := Keep.size hK0
  refine OI_static 9 [(0, .pointer none), (1, .int .i64 a), (2, .int .i64 b), (3, .int .i64 n), (9, .bool false)] (by kernel_rfl) ?_
  refine OI_end rfl ?_
  refine X_then ?_
  refine V_block ?_
  refine V_seq ?_
  refine V_region ?_
  refine OI_static 3 [(0, .pointer none), (1, .int .i64 a), (2, .int .i64 b), (3, .int .i64 n), (24, .bool true)] (by kernel_rfl) ?_
  refine OI_end rfl ?_
  refine X_then ?_
  refine V_true rfl ?_
  refine V_skip ?_
  refine X_block ?_
  exact X_end (.tuple #[]) rfl ⟨rfl, hK0⟩
end Go.Al
