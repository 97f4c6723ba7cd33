/-
  Walks of the laws of ledger: what is issued.
-/
import Derived.Test.YtmflbilhdoiihaaLe16
namespace Go.Al
open Go Go.RowKit Go.Proofs
set_option maxHeartbeats 4000000 in
set_option maxRecDepth 10000 in
theorem walk_LedgerIssues (A B : Option Addr) (cap capb : Nat) (fs : List Int) (xs : List Ac4) (w : World) (hA0 : ArgT w 1 intc A cap fs) (hB0 : ArgT w 4 Ac4.cells B capb xs) (hcap : fs.length ≤ 9223372036854775807) (hcapb : xs.length ≤ 9223372036854775807) : Calls Try.prog 12 #[.slice A fs.length cap, .slice B xs.length capb] w fun e w' => e = .returned (.bool true) ∧ Keep none_ w w' := by
  have hA := hA0
  have hB := hB0
  have hK0 : Keep none_ w w := Keep.refl _ _
  have hzhK0 := Keep.size hK0
  refine enterV Try.func12 rfl [.slice A fs.length cap, .slice B xs.length capb] 144 rfl rfl rfl ?_
  refine V_pick [(0, .slice A fs.length cap), (1, .slice B xs.length capb)] rfl ?_
  refine V_seq ?_
  refine V_region ?_
  refine OI_static 1 [(0, .slice A fs.length cap), (1, .slice B xs.length capb)] (by kernel_rfl) ?_
  refine OI_end rfl ?_
  refine X_then ?_
  refine V_seq ?_
  refine V_seq ?_
  refine V_region ?_
  refine OI_static 4 [(0, .slice A fs.length cap), (1, .slice B xs.length capb), (14, .bool (decide (((fs.length : Nat) : Int) > 10)))] (by kernel_rfl) ?_
  by_cases hg1 : ((fs.length : Nat) : Int) > 10
  · skip
    refine OI_eq [(0, .slice A fs.length cap), (1, .slice B xs.length capb), (14, .bool true)] (by first | simp [hg1] | rfl) ?_
    refine OI_static 8 [(0, .slice A fs.length cap), (1, .slice B xs.length capb), (18, .bool true)] (by kernel_rfl) ?_
    refine OI_end rfl ?_
    refine X_then ?_
    refine V_true rfl ?_
    refine V_seq ?_
    refine V_region ?_
    refine OI_static 1 [(4, .bool true)] (by kernel_rfl) ?_
    refine OI_end rfl ?_
    refine X_then ?_
    refine V_ret ?_
    refine X_ret_then ?_
    exact X_return (.bool true) rfl ⟨rfl, hK0⟩
  · skip
    refine OI_eq [(0, .slice A fs.length cap), (1, .slice B xs.length capb), (14, .bool false)] (by first | simp [hg1] | rfl) ?_
    refine OI_static 8 [(0, .slice A fs.length cap), (1, .slice B xs.length capb), (18, .bool (decide (((xs.length : Nat) : Int) > 10000)))] (by kernel_rfl) ?_
    refine OI_end rfl ?_
    refine X_then ?_
    refine V_if (((xs.length : Nat) : Int) > 10000) (by kernel_rfl) (fun hc2 => ?_) (fun hc2 => ?_)
    · skip
      refine V_seq ?_
      refine V_region ?_
      refine OI_static 1 [(4, .bool true)] (by kernel_rfl) ?_
      refine OI_end rfl ?_
      refine X_then ?_
      refine V_ret ?_
      refine X_ret_then ?_
      exact X_return (.bool true) rfl ⟨rfl, hK0⟩
    · skip
      refine V_skip ?_
      refine X_then ?_
      refine V_seq ?_
      refine V_region ?_
      refine OI_static 1 [(1, .slice B xs.length capb), (19, .slice A fs.length cap)] (by kernel_rfl) ?_
      refine OI_call { callee := (Callee.value (Operand.func 25)), args := #[(Operand.tmp 19)], argTypes := #[26] } 25 #[.slice A fs.length cap] (some 20) (by kernel_rfl) (by kernel_rfl) (by kernel_rfl) (begin_spec A cap fs _ hA (by omega)) ?_
      rintro _ w3 ⟨l5, F6, rfl, ho7, hk4, hge8⟩
      refine ⟨_, rfl, ?_⟩
      have hsz9 := Keep.size hk4
      replace hA := ArgT.keep0 hA hk4
      replace hB := ArgT.keep0 hB hk4
      replace hK0 := Keep.tr hK0 (Keep.ofNone hk4); have hzhK0 := Keep.size hK0
      have own10 : ∀ q, F6 q → w.heap.size ≤ q := fun q hq => by have h1 := hge8 q hq; omega
      have lt11 := Led.lt ho7
      have hl5lt : l5 < w3.heap.size := Led.lt ho7 _ (Led.at_ ho7)
      have hl5ge := hge8 _ (Led.at_ ho7)
      refine OI_static 3 [(1, .slice B xs.length capb), (5, .pointer (some ⟨l5, 0, none⟩))] (by kernel_rfl) ?_
      refine OI_end rfl ?_
      refine X_then ?_
      refine V_seq ?_
      refine V_seq ?_
      refine V_region ?_
      refine OI_static 2 [(1, .slice B xs.length capb), (5, .pointer (some ⟨l5, 0, none⟩)), (22, .bool false)] (by kernel_rfl) ?_
      refine OI_end rfl ?_
      refine X_then ?_
      refine V_false rfl ?_
      refine V_skip ?_
      refine X_then ?_
      refine V_seq ?_
      refine V_region ?_
      refine OI_static 1 [(1, .slice B xs.length capb), (5, .pointer (some ⟨l5, 0, none⟩)), (23, .pointer (some ⟨l5, 0, none⟩))] (by kernel_rfl) ?_
      refine OI_call { callee := (Callee.value (Operand.func 19)), args := #[(Operand.tmp 23)], argTypes := #[22] } 19 #[.pointer (some ⟨l5, 0, none⟩)] (some 24) (by kernel_rfl) (by kernel_rfl) (by kernel_rfl) (issued_spec F6 l5 (newX (msk fs) 10) ([] : List Ci) _ ho7) ?_
      rintro _ w12 ⟨rfl, hk13⟩
      refine ⟨_, rfl, ?_⟩
      have hsz14 := Keep.size hk13
      replace hA := ArgT.keep0 hA hk13
      replace hB := ArgT.keep0 hB hk13
      replace hK0 := Keep.tr hK0 (Keep.ofNone hk13); have hzhK0 := Keep.size hK0
      replace ho7 := Led.keep ho7 hk13 (fun _ _ f => f)
      refine OI_static 3 [(1, .slice B xs.length capb), (5, .pointer (some ⟨l5, 0, none⟩)), (6, .int .i64 (tot (newX (msk fs) 10)))] (by kernel_rfl) ?_
      refine OI_end rfl ?_
      refine X_then ?_
      refine V_seq ?_
      refine V_seq ?_
      refine V_region ?_
      refine OI_static 1 [(1, .slice B xs.length capb), (5, .pointer (some ⟨l5, 0, none⟩)), (6, .int .i64 (tot (newX (msk fs) 10))), (7, .int .i64 0)] (by kernel_rfl) ?_
      refine OI_end rfl ?_
      refine X_then ?_
      refine V_block ?_
      refine V_pick [(1, .slice B xs.length capb), (5, .pointer (some ⟨l5, 0, none⟩)), (6, .int .i64 (tot (newX (msk fs) 10))), (7, .int .i64 0)] rfl ?_
      refine V_loop (fun k wI e => ∃ i : Nat, ∃ X : List Acc, ∃ C : List Ci, ∃ wv : Int, ∃ F15 : Nat → Prop, (k + i = min xs.length 100) ∧ (i ≤ 100) ∧ (wv = tot X) ∧ (C.length ≤ i) ∧ (Led F15 wI l5 X C) ∧ (∀ q, F15 q → w.heap.size ≤ q) ∧ (∀ q, F15 q → F6 q ∨ w12.heap.size ≤ q) ∧ Keep F6 w12 wI ∧ e = [(1, .slice B xs.length capb), (5, .pointer (some ⟨l5, 0, none⟩)), (6, .int .i64 wv), (7, .int .i64 ((i : Nat) : Int))]) (min xs.length 100) ⟨0, (newX (msk fs) 10), [], tot (newX (msk fs) 10), F6, by omega, by omega, rfl, by simp, ho7, (fun q hq => by have h1 := own10 q hq; have h2 := lt11 q hq; omega), fun q h => .inl h, Keep.refl _ _, rfl⟩ ?_
      rintro k20 w19 _ ⟨i, X, C, wv, F15, hki, hi9, hw, hcl, ho16, own17, rel18, hk21, rfl⟩
      have hsz22 := Keep.size hk21
      replace hA := ArgT.keep hA hk21 hA0 (fun k hk hs => by have h1 := own10 k hs; have h2 := lt11 k hs; omega)
      replace hB := ArgT.keep hB hk21 hB0 (fun k hk hs => by have h1 := own10 k hs; have h2 := lt11 k hs; omega)
      replace hK0 := Keep.fresh hK0 hk21 (by intro i hi hs; have h1 := own10 i hs; have h2 := lt11 i hs; omega); have hzhK0 := Keep.size hK0
      have hzhk21 := Keep.size hk21
      have lt23 := Led.lt ho16
      have hl5lt : l5 < w19.heap.size := Led.lt ho16 _ (Led.at_ ho16)
      have hinvX := Led.inv ho16
      have ht0 := (tot_mem hinvX.2.1).1
      have ht1 := hinvX.2.2
      refine V_seq ?_
      refine V_seq ?_
      refine V_region ?_
      refine OI_static 5 [(1, .slice B xs.length capb), (5, .pointer (some ⟨l5, 0, none⟩)), (6, .int .i64 wv), (7, .int .i64 ((i : Nat) : Int)), (29, .bool (decide (((i : Nat) : Int) < ((xs.length : Nat) : Int))))] (by kernel_rfl) ?_
      by_cases hg24 : ((i : Nat) : Int) < ((xs.length : Nat) : Int)
      · skip
        refine OI_eq [(1, .slice B xs.length capb), (5, .pointer (some ⟨l5, 0, none⟩)), (6, .int .i64 wv), (7, .int .i64 ((i : Nat) : Int)), (29, .bool true)] (by first | simp [hg24] | rfl) ?_
        refine OI_static 8 [(1, .slice B xs.length capb), (5, .pointer (some ⟨l5, 0, none⟩)), (6, .int .i64 wv), (7, .int .i64 ((i : Nat) : Int)), (30, .int .i64 ((i : Nat) : Int)), (31, .bool (decide (((i : Nat) : Int) < 100))), (32, .bool (decide (((i : Nat) : Int) < 100)))] (by kernel_rfl) ?_
        refine OI_end rfl ?_
        refine X_then ?_
        refine V_if (((i : Nat) : Int) < 100) (by kernel_rfl) (fun hc25 => ?_) (fun hc25 => ?_)
        · skip
          refine V_skip ?_
          refine X_then ?_
          refine V_seq ?_
          refine V_block ?_
          refine V_seq ?_
          refine V_region ?_
          refine OI_static 2 [(1, .slice B xs.length capb), (5, .pointer (some ⟨l5, 0, none⟩)), (6, .int .i64 wv), (7, .int .i64 ((i : Nat) : Int)), (30, .int .i64 ((i : Nat) : Int)), (31, .bool (decide (((i : Nat) : Int) < 100))), (35, .slice B xs.length capb), (36, .int .i64 ((i : Nat) : Int))] (by kernel_rfl) ?_
          obtain ⟨b26, o26, L26, rfl, hat26⟩ := ArgT.open_ hB (by first | omega | (simp only [List.length_map]; omega) | (simp; done) | (simp; omega))
          have hb26lt0 := ArgT.lt hB0 (by first | omega | (simp only [List.length_map]; omega) | (simp; done) | (simp; omega))
          have hb26lt := hat26.blk.lt
          refine OI_pure (some 37) (.indexAddr 38 (.tmp 35) (.tmp 36)) (by kernel_rfl) (pure_idxN (b := b26) (o := o26) (len := xs.length) (cap := capb) (kd := .i64) (j := i) (E := 40) (sz := 4) (by_ := 32) (by kernel_rfl) (by kernel_rfl) (by kernel_rfl) (by omega)) ?_
          obtain ⟨x27, hx28⟩ : ∃ x, xs[i]? = some x := ⟨_, List.getElem?_eq_getElem (by first | omega | (simp only [List.length_map]; omega))⟩
          refine OI_aggR 40 (.tmp 37) (o26 + i * 4) (Ac4.cells x27) (some 38) (by kernel_rfl) (by kernel_rfl) hat26.blk (m := 4) (by kernel_rfl) (AtR.elem' hat26 _ _ (es_at hx28)) (AtR.len hat26 (es_at hx28)) ?_
          refine OI_alloc 40 (.agg #[.int .i64 0, .int .i64 0, .int .i64 0, .int .i64 0]) [.int .i64 0, .int .i64 0, .int .i64 0, .int .i64 0] (some 8) (by kernel_rfl) (by kernel_rfl) (by kernel_rfl) ?_
          intro b29 w29 e29 hb29 k29 z29
          have hsz30 := Keep.size k29
          replace hat26 := hat26.keep k29 (fun f => f)
          have hb26lt := hat26.blk.lt
          replace hA := ArgT.keep0 hA k29
          replace hK0 := Keep.tr hK0 (Keep.ofNone k29); have hzhK0 := Keep.size hK0
          replace hk21 := Keep.tr hk21 (Keep.ofNone k29); have hzhk21 := Keep.size hk21
          replace ho16 := Led.keep ho16 k29 (fun _ _ f => f)
          have hb29lt := hb29.lt
          refine OI_set (m := 4) (kd := true) 40 (.tmp 8) (.tmp 38) 0 (.agg (Ac4.cells x27).toArray) (Ac4.cells x27) none (by kernel_rfl) (by kernel_rfl) (by kernel_rfl) hb29 (by kernel_rfl) rfl (Ac4.len _) (Nat.le_of_ble_eq_true (by kernel_rfl)) (Ac4.one _) ?_
          intro w31 hb29_34 hk32 hz33
          replace hb29_34 : Blk w31 b29 (Ac4.cells x27) 40 := (by rwa [over_whole (by rw [Ac4.len]; rfl)] at hb29_34)
          have hsz35 := Keep.size hk32
          replace hat26 := hat26.keep hk32 (by show ¬ (_ = _); omega)
          have hb26lt := hat26.blk.lt
          replace hA := ArgT.keep hA hk32 hA0 (fun k hk hs => by have hs : k = b29 := hs; omega)
          replace hK0 := Keep.fresh hK0 hk32 (by intro i hi hs; first | exact hs | exact Or.inl hs | exact Or.inr hs | (exfalso; have hs2 : i = b29 := hs; omega)); have hzhK0 := Keep.size hK0
          replace hk21 := Keep.fresh hk21 hk32 (by intro i hi hs; first | exact hs | exact Or.inl hs | exact Or.inr hs | (exfalso; have hs2 : i = b29 := hs; omega)); have hzhk21 := Keep.size hk21
          replace ho16 := Led.keep ho16 hk32 (fun q hq hs => by have hs : q = b29 := hs; have g0 := own17 q hq; have g1 := lt23 q hq; omega)
          refine OI_end rfl ?_
          refine X_then ?_
          refine V_seq ?_
          refine V_seq ?_
          refine V_region ?_
          refine OI_static 1 [(1, .slice (some ⟨b26, o26, none⟩) xs.length capb), (5, .pointer (some ⟨l5, 0, none⟩)), (6, .int .i64 wv), (7, .int .i64 ((i : Nat) : Int)), (8, .pointer (some ⟨b29, 0, none⟩)), (30, .int .i64 ((i : Nat) : Int)), (31, .bool (decide (((i : Nat) : Int) < 100))), (39, .pointer (some ⟨b29, 0, none⟩))] (by kernel_rfl) ?_
          refine OI_cell 3 (.tmp 39) 0 (.int .i64 x27.k) (some 40) (by kernel_rfl) (by kernel_rfl) hb29_34 (m := 1) (by kernel_rfl) rfl ?_
          refine OI_end rfl ?_
          refine X_then ?_
          refine V_blockJ (fun wI e => ∃ X2 : List Acc, ∃ C2 : List Ci, ∃ wv2 : Int, ∃ F36 : Nat → Prop, (wv2 = tot X2) ∧ (C2.length ≤ i + 1) ∧ (Led F36 wI l5 X2 C2) ∧ (∀ q, F36 q → w.heap.size ≤ q ∧ q ≠ b29) ∧ (∀ q, F36 q → F15 q ∨ w31.heap.size ≤ q) ∧ Keep F15 w31 wI ∧ e = [(1, .slice (some ⟨b26, o26, none⟩) xs.length capb), (5, .pointer (some ⟨l5, 0, none⟩)), (6, .int .i64 wv2), (7, .int .i64 ((i : Nat) : Int)), (30, .int .i64 ((i : Nat) : Int)), (31, .bool (decide (((i : Nat) : Int) < 100)))]) ?_ ?_
          · skip
            have hk40 : Keep F15 w31 w31 := Keep.refl _ _
            have rel41 : ∀ q, F15 q → F15 q ∨ w31.heap.size ≤ q := fun q h => .inl h
            refine V_seq ?_
            refine V_region ?_
            refine OI_static 2 [(1, .slice (some ⟨b26, o26, none⟩) xs.length capb), (5, .pointer (some ⟨l5, 0, none⟩)), (6, .int .i64 wv), (7, .int .i64 ((i : Nat) : Int)), (8, .pointer (some ⟨b29, 0, none⟩)), (30, .int .i64 ((i : Nat) : Int)), (31, .bool (decide (((i : Nat) : Int) < 100))), (40, .int .i64 x27.k), (41, .bool (decide (x27.k = 1)))] (by kernel_rfl) ?_
            refine OI_end rfl ?_
            refine X_then ?_
            refine V_if (x27.k = 1) (by kernel_rfl) (fun hc42 => ?_) (fun hc42 => ?_)
            · skip
              refine V_region ?_
              refine OI_static 2 [(1, .slice (some ⟨b26, o26, none⟩) xs.length capb), (5, .pointer (some ⟨l5, 0, none⟩)), (6, .int .i64 wv), (7, .int .i64 ((i : Nat) : Int)), (8, .pointer (some ⟨b29, 0, none⟩)), (30, .int .i64 ((i : Nat) : Int)), (31, .bool (decide (((i : Nat) : Int) < 100))), (43, .pointer (some ⟨l5, 0, none⟩)), (44, .pointer (some ⟨b29, 1, none⟩))] (by kernel_rfl) ?_
              refine OI_cell 3 (.tmp 44) 1 (.int .i64 x27.a) (some 45) (by kernel_rfl) (by kernel_rfl) hb29_34 (m := 1) (by kernel_rfl) rfl ?_
              refine OI_static 4 [(1, .slice (some ⟨b26, o26, none⟩) xs.length capb), (5, .pointer (some ⟨l5, 0, none⟩)), (6, .int .i64 wv), (7, .int .i64 ((i : Nat) : Int)), (8, .pointer (some ⟨b29, 0, none⟩)), (30, .int .i64 ((i : Nat) : Int)), (31, .bool (decide (((i : Nat) : Int) < 100))), (43, .pointer (some ⟨l5, 0, none⟩)), (45, .int .i64 x27.a), (46, .pointer (some ⟨b29, 2, none⟩))] (by kernel_rfl) ?_
              refine OI_cell 3 (.tmp 46) 2 (.int .i64 x27.b) (some 47) (by kernel_rfl) (by kernel_rfl) hb29_34 (m := 1) (by kernel_rfl) rfl ?_
              refine OI_static 6 [(1, .slice (some ⟨b26, o26, none⟩) xs.length capb), (5, .pointer (some ⟨l5, 0, none⟩)), (6, .int .i64 wv), (7, .int .i64 ((i : Nat) : Int)), (30, .int .i64 ((i : Nat) : Int)), (31, .bool (decide (((i : Nat) : Int) < 100))), (43, .pointer (some ⟨l5, 0, none⟩)), (45, .int .i64 x27.a), (47, .int .i64 x27.b), (48, .pointer (some ⟨b29, 3, none⟩))] (by kernel_rfl) ?_
              refine OI_cell 3 (.tmp 48) 3 (.int .i64 x27.n) (some 49) (by kernel_rfl) (by kernel_rfl) hb29_34 (m := 1) (by kernel_rfl) rfl ?_
              refine OI_call { callee := (Callee.value (Operand.func 17)), args := #[(Operand.tmp 43), (Operand.tmp 45), (Operand.tmp 47), (Operand.tmp 49)], argTypes := #[22, 3, 3, 3] } 17 #[.pointer (some ⟨l5, 0, none⟩), .int .i64 x27.a, .int .i64 x27.b, .int .i64 x27.n] (some 50) (by kernel_rfl) (by kernel_rfl) (by kernel_rfl) (transfer_spec F15 l5 X C x27.a x27.b x27.n _ ho16) ?_
              rintro _ w45 ⟨rfl, ⟨F47, ho48, hfr49⟩, hk46⟩
              refine ⟨_, rfl, ?_⟩
              have hsz50 := Keep.size hk46
              replace hb29_34 := hb29_34.keep hk46 (fun hs => by have h1 := own17 _ hs; have h2 := lt23 _ hs; omega)
              have hb29lt := hb29_34.lt
              replace hat26 := hat26.keep hk46 (fun hs => by have h1 := own17 _ hs; have h2 := lt23 _ hs; omega)
              have hb26lt := hat26.blk.lt
              replace hA := ArgT.keep hA hk46 hA0 (fun k hk hs => by have h1 := own17 k hs; have h2 := lt23 k hs; omega)
              replace hK0 := Keep.fresh hK0 hk46 (by intro i hi hs; first | exact hs | (exfalso; have h1 := own17 i hs; have h2 := lt23 i hs; omega) | (have h1 := own17 i hs; have h2 := lt23 i hs; show _ ∨ _; omega)); have hzhK0 := Keep.size hK0
              replace hk21 := Keep.fresh hk21 hk46 (fun i hi hs => by rcases rel18 i hs with h | h; exact h; (exfalso; omega)); have hzhk21 := Keep.size hk21
              replace hk40 := Keep.fresh hk40 hk46 (fun i hi hs => by rcases rel41 i hs with h | h; exact h; (exfalso; omega)); have hzhk40 := Keep.size hk40
              have own52 : ∀ q, F47 q → w.heap.size ≤ q ∧ q ≠ b29 := fun q hq => by rcases hfr49 q hq with h | h; (have h1 := own17 q h; have h2 := lt23 q h; omega); omega
              have lt51 := Led.lt ho48
              have rel53 : ∀ q, F47 q → F6 q ∨ w12.heap.size ≤ q := fun q hq => by rcases hfr49 q hq with h | h; exact rel18 q h; exact .inr (by omega)
              have rel54 : ∀ q, F47 q → F15 q ∨ w31.heap.size ≤ q := fun q hq => by rcases hfr49 q hq with h | h; exact rel41 q h; exact .inr (by omega)
              refine OI_end rfl ?_
              refine X_block ?_
              exact X_join [(1, .slice (some ⟨b26, o26, none⟩) xs.length capb), (5, .pointer (some ⟨l5, 0, none⟩)), (6, .int .i64 wv), (7, .int .i64 ((i : Nat) : Int)), (30, .int .i64 ((i : Nat) : Int)), (31, .bool (decide (((i : Nat) : Int) < 100)))] rfl ⟨(transX X C x27.a x27.b x27.n), C, wv, F47, by rw [tot_trans hinvX]; exact hw, by omega, ho48, (fun q hq => by have h1 := own52 q hq; have h2 := lt51 q hq; omega), rel54, hk40, rfl⟩
            · skip
              refine V_seq ?_
              refine V_region ?_
              refine OI_static 2 [(1, .slice (some ⟨b26, o26, none⟩) xs.length capb), (5, .pointer (some ⟨l5, 0, none⟩)), (6, .int .i64 wv), (7, .int .i64 ((i : Nat) : Int)), (8, .pointer (some ⟨b29, 0, none⟩)), (30, .int .i64 ((i : Nat) : Int)), (31, .bool (decide (((i : Nat) : Int) < 100))), (40, .int .i64 x27.k), (51, .bool (decide (x27.k = 2)))] (by kernel_rfl) ?_
              refine OI_end rfl ?_
              refine X_then ?_
              refine V_if (x27.k = 2) (by kernel_rfl) (fun hc55 => ?_) (fun hc55 => ?_)
              · skip
                refine V_region ?_
                refine OI_static 2 [(1, .slice (some ⟨b26, o26, none⟩) xs.length capb), (5, .pointer (some ⟨l5, 0, none⟩)), (6, .int .i64 wv), (7, .int .i64 ((i : Nat) : Int)), (8, .pointer (some ⟨b29, 0, none⟩)), (30, .int .i64 ((i : Nat) : Int)), (31, .bool (decide (((i : Nat) : Int) < 100))), (53, .pointer (some ⟨l5, 0, none⟩)), (54, .pointer (some ⟨b29, 1, none⟩))] (by kernel_rfl) ?_
                refine OI_cell 3 (.tmp 54) 1 (.int .i64 x27.a) (some 55) (by kernel_rfl) (by kernel_rfl) hb29_34 (m := 1) (by kernel_rfl) rfl ?_
                refine OI_static 4 [(1, .slice (some ⟨b26, o26, none⟩) xs.length capb), (5, .pointer (some ⟨l5, 0, none⟩)), (6, .int .i64 wv), (7, .int .i64 ((i : Nat) : Int)), (30, .int .i64 ((i : Nat) : Int)), (31, .bool (decide (((i : Nat) : Int) < 100))), (53, .pointer (some ⟨l5, 0, none⟩)), (55, .int .i64 x27.a), (56, .pointer (some ⟨b29, 3, none⟩))] (by kernel_rfl) ?_
                refine OI_cell 3 (.tmp 56) 3 (.int .i64 x27.n) (some 57) (by kernel_rfl) (by kernel_rfl) hb29_34 (m := 1) (by kernel_rfl) rfl ?_
                refine OI_call { callee := (Callee.value (Operand.func 21)), args := #[(Operand.tmp 53), (Operand.tmp 55), (Operand.tmp 57)], argTypes := #[22, 3, 3] } 21 #[.pointer (some ⟨l5, 0, none⟩), .int .i64 x27.a, .int .i64 x27.n] (some 58) (by kernel_rfl) (by kernel_rfl) (by kernel_rfl) (reserve_spec F15 l5 X C x27.a x27.n _ ho16) ?_
                rintro _ w58 ⟨rfl, ⟨F60, ho61, hfr62⟩, hk59⟩
                refine ⟨_, rfl, ?_⟩
                have hsz63 := Keep.size hk59
                replace hb29_34 := hb29_34.keep hk59 (fun hs => by have h1 := own17 _ hs; have h2 := lt23 _ hs; omega)
                have hb29lt := hb29_34.lt
                replace hat26 := hat26.keep hk59 (fun hs => by have h1 := own17 _ hs; have h2 := lt23 _ hs; omega)
                have hb26lt := hat26.blk.lt
                replace hA := ArgT.keep hA hk59 hA0 (fun k hk hs => by have h1 := own17 k hs; have h2 := lt23 k hs; omega)
                replace hK0 := Keep.fresh hK0 hk59 (by intro i hi hs; first | exact hs | (exfalso; have h1 := own17 i hs; have h2 := lt23 i hs; omega) | (have h1 := own17 i hs; have h2 := lt23 i hs; show _ ∨ _; omega)); have hzhK0 := Keep.size hK0
                replace hk21 := Keep.fresh hk21 hk59 (fun i hi hs => by rcases rel18 i hs with h | h; exact h; (exfalso; omega)); have hzhk21 := Keep.size hk21
                replace hk40 := Keep.fresh hk40 hk59 (fun i hi hs => by rcases rel41 i hs with h | h; exact h; (exfalso; omega)); have hzhk40 := Keep.size hk40
                have own65 : ∀ q, F60 q → w.heap.size ≤ q ∧ q ≠ b29 := fun q hq => by rcases hfr62 q hq with h | h; (have h1 := own17 q h; have h2 := lt23 q h; omega); omega
                have lt64 := Led.lt ho61
                have rel66 : ∀ q, F60 q → F6 q ∨ w12.heap.size ≤ q := fun q hq => by rcases hfr62 q hq with h | h; exact rel18 q h; exact .inr (by omega)
                have rel67 : ∀ q, F60 q → F15 q ∨ w31.heap.size ≤ q := fun q hq => by rcases hfr62 q hq with h | h; exact rel41 q h; exact .inr (by omega)
                refine OI_end rfl ?_
                refine X_block ?_
                exact X_join [(1, .slice (some ⟨b26, o26, none⟩) xs.length capb), (5, .pointer (some ⟨l5, 0, none⟩)), (6, .int .i64 wv), (7, .int .i64 ((i : Nat) : Int)), (30, .int .i64 ((i : Nat) : Int)), (31, .bool (decide (((i : Nat) : Int) < 100)))] rfl ⟨(resX X C x27.a x27.n), C, wv, F60, by rw [tot_res hinvX]; exact hw, by omega, ho61, (fun q hq => by have h1 := own65 q hq; have h2 := lt64 q hq; omega), rel67, hk40, rfl⟩
              · skip
                refine V_seq ?_
                refine V_region ?_
                refine OI_static 2 [(1, .slice (some ⟨b26, o26, none⟩) xs.length capb), (5, .pointer (some ⟨l5, 0, none⟩)), (6, .int .i64 wv), (7, .int .i64 ((i : Nat) : Int)), (8, .pointer (some ⟨b29, 0, none⟩)), (30, .int .i64 ((i : Nat) : Int)), (31, .bool (decide (((i : Nat) : Int) < 100))), (40, .int .i64 x27.k), (59, .bool (decide (x27.k = 3)))] (by kernel_rfl) ?_
                refine OI_end rfl ?_
                refine X_then ?_
                refine V_if (x27.k = 3) (by kernel_rfl) (fun hc68 => ?_) (fun hc68 => ?_)
                · skip
                  refine V_region ?_
                  refine OI_static 2 [(1, .slice (some ⟨b26, o26, none⟩) xs.length capb), (5, .pointer (some ⟨l5, 0, none⟩)), (6, .int .i64 wv), (7, .int .i64 ((i : Nat) : Int)), (8, .pointer (some ⟨b29, 0, none⟩)), (30, .int .i64 ((i : Nat) : Int)), (31, .bool (decide (((i : Nat) : Int) < 100))), (61, .pointer (some ⟨l5, 0, none⟩)), (62, .pointer (some ⟨b29, 1, none⟩))] (by kernel_rfl) ?_
                  refine OI_cell 3 (.tmp 62) 1 (.int .i64 x27.a) (some 63) (by kernel_rfl) (by kernel_rfl) hb29_34 (m := 1) (by kernel_rfl) rfl ?_
                  refine OI_static 4 [(1, .slice (some ⟨b26, o26, none⟩) xs.length capb), (5, .pointer (some ⟨l5, 0, none⟩)), (6, .int .i64 wv), (7, .int .i64 ((i : Nat) : Int)), (30, .int .i64 ((i : Nat) : Int)), (31, .bool (decide (((i : Nat) : Int) < 100))), (61, .pointer (some ⟨l5, 0, none⟩)), (63, .int .i64 x27.a), (64, .pointer (some ⟨b29, 3, none⟩))] (by kernel_rfl) ?_
                  refine OI_cell 3 (.tmp 64) 3 (.int .i64 x27.n) (some 65) (by kernel_rfl) (by kernel_rfl) hb29_34 (m := 1) (by kernel_rfl) rfl ?_
                  refine OI_call { callee := (Callee.value (Operand.func 27)), args := #[(Operand.tmp 61), (Operand.tmp 63), (Operand.tmp 65)], argTypes := #[22, 3, 3] } 27 #[.pointer (some ⟨l5, 0, none⟩), .int .i64 x27.a, .int .i64 x27.n] (some 66) (by kernel_rfl) (by kernel_rfl) (by kernel_rfl) (release_spec F15 l5 X C x27.a x27.n _ ho16) ?_
                  rintro _ w71 ⟨rfl, ⟨F73, ho74, hfr75⟩, hk72⟩
                  refine ⟨_, rfl, ?_⟩
                  have hsz76 := Keep.size hk72
                  replace hb29_34 := hb29_34.keep hk72 (fun hs => by have h1 := own17 _ hs; have h2 := lt23 _ hs; omega)
                  have hb29lt := hb29_34.lt
                  replace hat26 := hat26.keep hk72 (fun hs => by have h1 := own17 _ hs; have h2 := lt23 _ hs; omega)
                  have hb26lt := hat26.blk.lt
                  replace hA := ArgT.keep hA hk72 hA0 (fun k hk hs => by have h1 := own17 k hs; have h2 := lt23 k hs; omega)
                  replace hK0 := Keep.fresh hK0 hk72 (by intro i hi hs; first | exact hs | (exfalso; have h1 := own17 i hs; have h2 := lt23 i hs; omega) | (have h1 := own17 i hs; have h2 := lt23 i hs; show _ ∨ _; omega)); have hzhK0 := Keep.size hK0
                  replace hk21 := Keep.fresh hk21 hk72 (fun i hi hs => by rcases rel18 i hs with h | h; exact h; (exfalso; omega)); have hzhk21 := Keep.size hk21
                  replace hk40 := Keep.fresh hk40 hk72 (fun i hi hs => by rcases rel41 i hs with h | h; exact h; (exfalso; omega)); have hzhk40 := Keep.size hk40
                  have own78 : ∀ q, F73 q → w.heap.size ≤ q ∧ q ≠ b29 := fun q hq => by rcases hfr75 q hq with h | h; (have h1 := own17 q h; have h2 := lt23 q h; omega); omega
                  have lt77 := Led.lt ho74
                  have rel79 : ∀ q, F73 q → F6 q ∨ w12.heap.size ≤ q := fun q hq => by rcases hfr75 q hq with h | h; exact rel18 q h; exact .inr (by omega)
                  have rel80 : ∀ q, F73 q → F15 q ∨ w31.heap.size ≤ q := fun q hq => by rcases hfr75 q hq with h | h; exact rel41 q h; exact .inr (by omega)
                  refine OI_end rfl ?_
                  refine X_block ?_
                  exact X_join [(1, .slice (some ⟨b26, o26, none⟩) xs.length capb), (5, .pointer (some ⟨l5, 0, none⟩)), (6, .int .i64 wv), (7, .int .i64 ((i : Nat) : Int)), (30, .int .i64 ((i : Nat) : Int)), (31, .bool (decide (((i : Nat) : Int) < 100)))] rfl ⟨(relX X x27.a x27.n), C, wv, F73, by rw [tot_rel hinvX]; exact hw, by omega, ho74, (fun q hq => by have h1 := own78 q hq; have h2 := lt77 q hq; omega), rel80, hk40, rfl⟩
                · skip
                  refine V_seq ?_
                  refine V_region ?_
                  refine OI_static 2 [(1, .slice (some ⟨b26, o26, none⟩) xs.length capb), (5, .pointer (some ⟨l5, 0, none⟩)), (6, .int .i64 wv), (7, .int .i64 ((i : Nat) : Int)), (8, .pointer (some ⟨b29, 0, none⟩)), (30, .int .i64 ((i : Nat) : Int)), (31, .bool (decide (((i : Nat) : Int) < 100))), (40, .int .i64 x27.k), (67, .bool (decide (x27.k = 4)))] (by kernel_rfl) ?_
                  refine OI_end rfl ?_
                  refine X_then ?_
                  refine V_if (x27.k = 4) (by kernel_rfl) (fun hc81 => ?_) (fun hc81 => ?_)
                  · skip
                    refine V_region ?_
                    refine OI_static 2 [(1, .slice (some ⟨b26, o26, none⟩) xs.length capb), (5, .pointer (some ⟨l5, 0, none⟩)), (6, .int .i64 wv), (7, .int .i64 ((i : Nat) : Int)), (8, .pointer (some ⟨b29, 0, none⟩)), (30, .int .i64 ((i : Nat) : Int)), (31, .bool (decide (((i : Nat) : Int) < 100))), (69, .pointer (some ⟨l5, 0, none⟩)), (70, .pointer (some ⟨b29, 1, none⟩))] (by kernel_rfl) ?_
                    refine OI_cell 3 (.tmp 70) 1 (.int .i64 x27.a) (some 71) (by kernel_rfl) (by kernel_rfl) hb29_34 (m := 1) (by kernel_rfl) rfl ?_
                    refine OI_static 4 [(1, .slice (some ⟨b26, o26, none⟩) xs.length capb), (5, .pointer (some ⟨l5, 0, none⟩)), (6, .int .i64 wv), (7, .int .i64 ((i : Nat) : Int)), (30, .int .i64 ((i : Nat) : Int)), (31, .bool (decide (((i : Nat) : Int) < 100))), (69, .pointer (some ⟨l5, 0, none⟩)), (71, .int .i64 x27.a), (72, .pointer (some ⟨b29, 3, none⟩))] (by kernel_rfl) ?_
                    refine OI_cell 3 (.tmp 72) 3 (.int .i64 x27.n) (some 73) (by kernel_rfl) (by kernel_rfl) hb29_34 (m := 1) (by kernel_rfl) rfl ?_
                    refine OI_call { callee := (Callee.value (Operand.func 26)), args := #[(Operand.tmp 69), (Operand.tmp 71), (Operand.tmp 73)], argTypes := #[22, 3, 3] } 26 #[.pointer (some ⟨l5, 0, none⟩), .int .i64 x27.a, .int .i64 x27.n] (some 74) (by kernel_rfl) (by kernel_rfl) (by kernel_rfl) (slash_spec F15 l5 X C x27.a x27.n _ ho16) ?_
                    rintro _ w84 ⟨rfl, ⟨F86, ho87, hfr88⟩, hk85⟩
                    refine ⟨_, rfl, ?_⟩
                    have hsz89 := Keep.size hk85
                    replace hb29_34 := hb29_34.keep hk85 (fun hs => by have h1 := own17 _ hs; have h2 := lt23 _ hs; omega)
                    have hb29lt := hb29_34.lt
                    replace hat26 := hat26.keep hk85 (fun hs => by have h1 := own17 _ hs; have h2 := lt23 _ hs; omega)
                    have hb26lt := hat26.blk.lt
                    replace hA := ArgT.keep hA hk85 hA0 (fun k hk hs => by have h1 := own17 k hs; have h2 := lt23 k hs; omega)
                    replace hK0 := Keep.fresh hK0 hk85 (by intro i hi hs; first | exact hs | (exfalso; have h1 := own17 i hs; have h2 := lt23 i hs; omega) | (have h1 := own17 i hs; have h2 := lt23 i hs; show _ ∨ _; omega)); have hzhK0 := Keep.size hK0
                    replace hk21 := Keep.fresh hk21 hk85 (fun i hi hs => by rcases rel18 i hs with h | h; exact h; (exfalso; omega)); have hzhk21 := Keep.size hk21
                    replace hk40 := Keep.fresh hk40 hk85 (fun i hi hs => by rcases rel41 i hs with h | h; exact h; (exfalso; omega)); have hzhk40 := Keep.size hk40
                    have own91 : ∀ q, F86 q → w.heap.size ≤ q ∧ q ≠ b29 := fun q hq => by rcases hfr88 q hq with h | h; (have h1 := own17 q h; have h2 := lt23 q h; omega); omega
                    have lt90 := Led.lt ho87
                    have rel92 : ∀ q, F86 q → F6 q ∨ w12.heap.size ≤ q := fun q hq => by rcases hfr88 q hq with h | h; exact rel18 q h; exact .inr (by omega)
                    have rel93 : ∀ q, F86 q → F15 q ∨ w31.heap.size ≤ q := fun q hq => by rcases hfr88 q hq with h | h; exact rel41 q h; exact .inr (by omega)
                    refine OI_end rfl ?_
                    refine X_block ?_
                    exact X_join [(1, .slice (some ⟨b26, o26, none⟩) xs.length capb), (5, .pointer (some ⟨l5, 0, none⟩)), (6, .int .i64 wv), (7, .int .i64 ((i : Nat) : Int)), (30, .int .i64 ((i : Nat) : Int)), (31, .bool (decide (((i : Nat) : Int) < 100)))] rfl ⟨(slX X x27.a x27.n), C, wv, F86, by rw [tot_sl hinvX]; exact hw, by omega, ho87, (fun q hq => by have h1 := own91 q hq; have h2 := lt90 q hq; omega), rel93, hk40, rfl⟩
                  · skip
                    refine V_seq ?_
                    refine V_region ?_
                    refine OI_static 2 [(1, .slice (some ⟨b26, o26, none⟩) xs.length capb), (5, .pointer (some ⟨l5, 0, none⟩)), (6, .int .i64 wv), (7, .int .i64 ((i : Nat) : Int)), (8, .pointer (some ⟨b29, 0, none⟩)), (30, .int .i64 ((i : Nat) : Int)), (31, .bool (decide (((i : Nat) : Int) < 100))), (40, .int .i64 x27.k), (75, .bool (decide (x27.k = 5)))] (by kernel_rfl) ?_
                    refine OI_end rfl ?_
                    refine X_then ?_
                    refine V_if (x27.k = 5) (by kernel_rfl) (fun hc94 => ?_) (fun hc94 => ?_)
                    · skip
                      refine V_region ?_
                      refine OI_static 2 [(1, .slice (some ⟨b26, o26, none⟩) xs.length capb), (5, .pointer (some ⟨l5, 0, none⟩)), (6, .int .i64 wv), (7, .int .i64 ((i : Nat) : Int)), (8, .pointer (some ⟨b29, 0, none⟩)), (30, .int .i64 ((i : Nat) : Int)), (31, .bool (decide (((i : Nat) : Int) < 100))), (77, .pointer (some ⟨l5, 0, none⟩)), (78, .pointer (some ⟨b29, 1, none⟩))] (by kernel_rfl) ?_
                      refine OI_cell 3 (.tmp 78) 1 (.int .i64 x27.a) (some 79) (by kernel_rfl) (by kernel_rfl) hb29_34 (m := 1) (by kernel_rfl) rfl ?_
                      refine OI_static 4 [(1, .slice (some ⟨b26, o26, none⟩) xs.length capb), (5, .pointer (some ⟨l5, 0, none⟩)), (6, .int .i64 wv), (7, .int .i64 ((i : Nat) : Int)), (8, .pointer (some ⟨b29, 0, none⟩)), (30, .int .i64 ((i : Nat) : Int)), (31, .bool (decide (((i : Nat) : Int) < 100))), (77, .pointer (some ⟨l5, 0, none⟩)), (79, .int .i64 x27.a), (80, .pointer (some ⟨b29, 2, none⟩))] (by kernel_rfl) ?_
                      refine OI_cell 3 (.tmp 80) 2 (.int .i64 x27.b) (some 81) (by kernel_rfl) (by kernel_rfl) hb29_34 (m := 1) (by kernel_rfl) rfl ?_
                      refine OI_static 6 [(1, .slice (some ⟨b26, o26, none⟩) xs.length capb), (5, .pointer (some ⟨l5, 0, none⟩)), (6, .int .i64 wv), (7, .int .i64 ((i : Nat) : Int)), (30, .int .i64 ((i : Nat) : Int)), (31, .bool (decide (((i : Nat) : Int) < 100))), (77, .pointer (some ⟨l5, 0, none⟩)), (79, .int .i64 x27.a), (81, .int .i64 x27.b), (82, .pointer (some ⟨b29, 3, none⟩))] (by kernel_rfl) ?_
                      refine OI_cell 3 (.tmp 82) 3 (.int .i64 x27.n) (some 83) (by kernel_rfl) (by kernel_rfl) hb29_34 (m := 1) (by kernel_rfl) rfl ?_
                      refine OI_call { callee := (Callee.value (Operand.func 15)), args := #[(Operand.tmp 77), (Operand.tmp 79), (Operand.tmp 81), (Operand.tmp 83)], argTypes := #[22, 3, 3, 3] } 15 #[.pointer (some ⟨l5, 0, none⟩), .int .i64 x27.a, .int .i64 x27.b, .int .i64 x27.n] (some 84) (by kernel_rfl) (by kernel_rfl) (by kernel_rfl) (lock_spec F15 l5 X C x27.a x27.b x27.n _ ho16 (by omega)) ?_
                      rintro _ w97 ⟨rfl, ⟨F99, ho100, hfr101⟩, hk98⟩
                      refine ⟨_, rfl, ?_⟩
                      have hsz102 := Keep.size hk98
                      replace hb29_34 := hb29_34.keep hk98 (fun hs => by have h1 := own17 _ hs; have h2 := lt23 _ hs; omega)
                      have hb29lt := hb29_34.lt
                      replace hat26 := hat26.keep hk98 (fun hs => by have h1 := own17 _ hs; have h2 := lt23 _ hs; omega)
                      have hb26lt := hat26.blk.lt
                      replace hA := ArgT.keep hA hk98 hA0 (fun k hk hs => by have h1 := own17 k hs; have h2 := lt23 k hs; omega)
                      replace hK0 := Keep.fresh hK0 hk98 (by intro i hi hs; first | exact hs | (exfalso; have h1 := own17 i hs; have h2 := lt23 i hs; omega) | (have h1 := own17 i hs; have h2 := lt23 i hs; show _ ∨ _; omega)); have hzhK0 := Keep.size hK0
                      replace hk21 := Keep.fresh hk21 hk98 (fun i hi hs => by rcases rel18 i hs with h | h; exact h; (exfalso; omega)); have hzhk21 := Keep.size hk21
                      replace hk40 := Keep.fresh hk40 hk98 (fun i hi hs => by rcases rel41 i hs with h | h; exact h; (exfalso; omega)); have hzhk40 := Keep.size hk40
                      have own104 : ∀ q, F99 q → w.heap.size ≤ q ∧ q ≠ b29 := fun q hq => by rcases hfr101 q hq with h | h; (have h1 := own17 q h; have h2 := lt23 q h; omega); omega
                      have lt103 := Led.lt ho100
                      have rel105 : ∀ q, F99 q → F6 q ∨ w12.heap.size ≤ q := fun q hq => by rcases hfr101 q hq with h | h; exact rel18 q h; exact .inr (by omega)
                      have rel106 : ∀ q, F99 q → F15 q ∨ w31.heap.size ≤ q := fun q hq => by rcases hfr101 q hq with h | h; exact rel41 q h; exact .inr (by omega)
                      refine OI_end rfl ?_
                      refine X_block ?_
                      exact X_join [(1, .slice (some ⟨b26, o26, none⟩) xs.length capb), (5, .pointer (some ⟨l5, 0, none⟩)), (6, .int .i64 wv), (7, .int .i64 ((i : Nat) : Int)), (30, .int .i64 ((i : Nat) : Int)), (31, .bool (decide (((i : Nat) : Int) < 100)))] rfl ⟨X, (lockC C x27.a x27.b x27.n), wv, F99, hw, Nat.le_trans (lockC_len _ _ _ _) (by omega), ho100, (fun q hq => by have h1 := own104 q hq; have h2 := lt103 q hq; omega), rel106, hk40, rfl⟩
                    · skip
                      refine V_seq ?_
                      refine V_region ?_
                      refine OI_static 2 [(1, .slice (some ⟨b26, o26, none⟩) xs.length capb), (5, .pointer (some ⟨l5, 0, none⟩)), (6, .int .i64 wv), (7, .int .i64 ((i : Nat) : Int)), (8, .pointer (some ⟨b29, 0, none⟩)), (30, .int .i64 ((i : Nat) : Int)), (31, .bool (decide (((i : Nat) : Int) < 100))), (40, .int .i64 x27.k), (85, .bool (decide (x27.k = 6)))] (by kernel_rfl) ?_
                      refine OI_end rfl ?_
                      refine X_then ?_
                      refine V_if (x27.k = 6) (by kernel_rfl) (fun hc107 => ?_) (fun hc107 => ?_)
                      · skip
                        refine V_seq ?_
                        refine V_region ?_
                        refine OI_static 2 [(1, .slice (some ⟨b26, o26, none⟩) xs.length capb), (5, .pointer (some ⟨l5, 0, none⟩)), (6, .int .i64 wv), (7, .int .i64 ((i : Nat) : Int)), (8, .pointer (some ⟨b29, 0, none⟩)), (30, .int .i64 ((i : Nat) : Int)), (31, .bool (decide (((i : Nat) : Int) < 100))), (87, .pointer (some ⟨l5, 0, none⟩)), (88, .pointer (some ⟨b29, 1, none⟩))] (by kernel_rfl) ?_
                        refine OI_cell 3 (.tmp 88) 1 (.int .i64 x27.a) (some 89) (by kernel_rfl) (by kernel_rfl) hb29_34 (m := 1) (by kernel_rfl) rfl ?_
                        refine OI_static 4 [(1, .slice (some ⟨b26, o26, none⟩) xs.length capb), (5, .pointer (some ⟨l5, 0, none⟩)), (6, .int .i64 wv), (7, .int .i64 ((i : Nat) : Int)), (8, .pointer (some ⟨b29, 0, none⟩)), (30, .int .i64 ((i : Nat) : Int)), (31, .bool (decide (((i : Nat) : Int) < 100))), (87, .pointer (some ⟨l5, 0, none⟩)), (89, .int .i64 x27.a), (90, .pointer (some ⟨b29, 3, none⟩))] (by kernel_rfl) ?_
                        refine OI_cell 3 (.tmp 90) 3 (.int .i64 x27.n) (some 91) (by kernel_rfl) (by kernel_rfl) hb29_34 (m := 1) (by kernel_rfl) rfl ?_
                        refine OI_call { callee := (Callee.value (Operand.func 23)), args := #[(Operand.tmp 87), (Operand.tmp 89), (Operand.tmp 91)], argTypes := #[22, 3, 3] } 23 #[.pointer (some ⟨l5, 0, none⟩), .int .i64 x27.a, .int .i64 x27.n] (some 92) (by kernel_rfl) (by kernel_rfl) (by kernel_rfl) (mint_spec F15 l5 X C x27.a x27.n _ ho16) ?_
                        rintro _ w110 ⟨rfl, ⟨F112, ho113, hfr114⟩, hk111⟩
                        refine ⟨_, rfl, ?_⟩
                        have hsz115 := Keep.size hk111
                        replace hb29_34 := hb29_34.keep hk111 (fun hs => by have h1 := own17 _ hs; have h2 := lt23 _ hs; omega)
                        have hb29lt := hb29_34.lt
                        replace hat26 := hat26.keep hk111 (fun hs => by have h1 := own17 _ hs; have h2 := lt23 _ hs; omega)
                        have hb26lt := hat26.blk.lt
                        replace hA := ArgT.keep hA hk111 hA0 (fun k hk hs => by have h1 := own17 k hs; have h2 := lt23 k hs; omega)
                        replace hK0 := Keep.fresh hK0 hk111 (by intro i hi hs; first | exact hs | (exfalso; have h1 := own17 i hs; have h2 := lt23 i hs; omega) | (have h1 := own17 i hs; have h2 := lt23 i hs; show _ ∨ _; omega)); have hzhK0 := Keep.size hK0
                        replace hk21 := Keep.fresh hk21 hk111 (fun i hi hs => by rcases rel18 i hs with h | h; exact h; (exfalso; omega)); have hzhk21 := Keep.size hk21
                        replace hk40 := Keep.fresh hk40 hk111 (fun i hi hs => by rcases rel41 i hs with h | h; exact h; (exfalso; omega)); have hzhk40 := Keep.size hk40
                        have own117 : ∀ q, F112 q → w.heap.size ≤ q ∧ q ≠ b29 := fun q hq => by rcases hfr114 q hq with h | h; (have h1 := own17 q h; have h2 := lt23 q h; omega); omega
                        have lt116 := Led.lt ho113
                        have rel118 : ∀ q, F112 q → F6 q ∨ w12.heap.size ≤ q := fun q hq => by rcases hfr114 q hq with h | h; exact rel18 q h; exact .inr (by omega)
                        have rel119 : ∀ q, F112 q → F15 q ∨ w31.heap.size ≤ q := fun q hq => by rcases hfr114 q hq with h | h; exact rel41 q h; exact .inr (by omega)
                        refine OI_static 7 [(1, .slice (some ⟨b26, o26, none⟩) xs.length capb), (5, .pointer (some ⟨l5, 0, none⟩)), (6, .int .i64 wv), (7, .int .i64 ((i : Nat) : Int)), (8, .pointer (some ⟨b29, 0, none⟩)), (30, .int .i64 ((i : Nat) : Int)), (31, .bool (decide (((i : Nat) : Int) < 100))), (93, .bool (decide (mintE X x27.a x27.n = 0)))] (by kernel_rfl) ?_
                        refine OI_end rfl ?_
                        refine X_then ?_
                        refine V_if (mintE X x27.a x27.n = 0) (by kernel_rfl) (fun hc120 => ?_) (fun hc120 => ?_)
                        · skip
                          obtain ⟨_, hmn1, hmn2⟩ := mint_ok2 hc120
                          refine V_region ?_
                          refine OI_static 2 [(1, .slice (some ⟨b26, o26, none⟩) xs.length capb), (5, .pointer (some ⟨l5, 0, none⟩)), (7, .int .i64 ((i : Nat) : Int)), (30, .int .i64 ((i : Nat) : Int)), (31, .bool (decide (((i : Nat) : Int) < 100))), (94, .int .i64 wv), (95, .pointer (some ⟨b29, 3, none⟩))] (by kernel_rfl) ?_
                          refine OI_cell 3 (.tmp 95) 3 (.int .i64 x27.n) (some 96) (by kernel_rfl) (by kernel_rfl) hb29_34 (m := 1) (by kernel_rfl) rfl ?_
                          have hw121 : IntKind.i64.wrap (wv + x27.n) = wv + x27.n := (wrap64_id (by omega) (by omega)).trans (by omega)
                          refine OI_static 4 [(1, .slice (some ⟨b26, o26, none⟩) xs.length capb), (5, .pointer (some ⟨l5, 0, none⟩)), (7, .int .i64 ((i : Nat) : Int)), (30, .int .i64 ((i : Nat) : Int)), (31, .bool (decide (((i : Nat) : Int) < 100))), (97, .int .i64 (IntKind.i64.wrap (wv + x27.n)))] (by kernel_rfl) ?_
                          refine OI_eq [(1, .slice (some ⟨b26, o26, none⟩) xs.length capb), (5, .pointer (some ⟨l5, 0, none⟩)), (7, .int .i64 ((i : Nat) : Int)), (30, .int .i64 ((i : Nat) : Int)), (31, .bool (decide (((i : Nat) : Int) < 100))), (97, .int .i64 (wv + x27.n))] (by rw [hw121]) ?_
                          refine OI_static 5 [(1, .slice (some ⟨b26, o26, none⟩) xs.length capb), (5, .pointer (some ⟨l5, 0, none⟩)), (6, .int .i64 (wv + x27.n)), (7, .int .i64 ((i : Nat) : Int)), (30, .int .i64 ((i : Nat) : Int)), (31, .bool (decide (((i : Nat) : Int) < 100)))] (by kernel_rfl) ?_
                          refine OI_end rfl ?_
                          refine X_block ?_
                          exact X_join [(1, .slice (some ⟨b26, o26, none⟩) xs.length capb), (5, .pointer (some ⟨l5, 0, none⟩)), (6, .int .i64 (wv + x27.n)), (7, .int .i64 ((i : Nat) : Int)), (30, .int .i64 ((i : Nat) : Int)), (31, .bool (decide (((i : Nat) : Int) < 100)))] rfl ⟨(mintX X x27.a x27.n), C, wv + x27.n, F112, by rw [tot_mint hinvX, if_pos hc120]; omega, by omega, ho113, (fun q hq => by have h1 := own117 q hq; have h2 := lt116 q hq; omega), rel119, hk40, rfl⟩
                        · skip
                          refine V_skip ?_
                          refine X_block ?_
                          exact X_join [(1, .slice (some ⟨b26, o26, none⟩) xs.length capb), (5, .pointer (some ⟨l5, 0, none⟩)), (6, .int .i64 wv), (7, .int .i64 ((i : Nat) : Int)), (30, .int .i64 ((i : Nat) : Int)), (31, .bool (decide (((i : Nat) : Int) < 100)))] rfl ⟨(mintX X x27.a x27.n), C, wv, F112, by rw [tot_mint hinvX, if_neg hc120]; omega, by omega, ho113, (fun q hq => by have h1 := own117 q hq; have h2 := lt116 q hq; omega), rel119, hk40, rfl⟩
                      · skip
                        refine V_seq ?_
                        refine V_region ?_
                        refine OI_static 2 [(1, .slice (some ⟨b26, o26, none⟩) xs.length capb), (5, .pointer (some ⟨l5, 0, none⟩)), (6, .int .i64 wv), (7, .int .i64 ((i : Nat) : Int)), (8, .pointer (some ⟨b29, 0, none⟩)), (30, .int .i64 ((i : Nat) : Int)), (31, .bool (decide (((i : Nat) : Int) < 100))), (98, .bool (decide (x27.k = 7)))] (by kernel_rfl) ?_
                        refine OI_end rfl ?_
                        refine X_then ?_
                        refine V_if (x27.k = 7) (by kernel_rfl) (fun hc122 => ?_) (fun hc122 => ?_)
                        · skip
                          refine V_seq ?_
                          refine V_region ?_
                          refine OI_static 2 [(1, .slice (some ⟨b26, o26, none⟩) xs.length capb), (5, .pointer (some ⟨l5, 0, none⟩)), (6, .int .i64 wv), (7, .int .i64 ((i : Nat) : Int)), (8, .pointer (some ⟨b29, 0, none⟩)), (30, .int .i64 ((i : Nat) : Int)), (31, .bool (decide (((i : Nat) : Int) < 100))), (100, .pointer (some ⟨l5, 0, none⟩)), (101, .pointer (some ⟨b29, 1, none⟩))] (by kernel_rfl) ?_
                          refine OI_cell 3 (.tmp 101) 1 (.int .i64 x27.a) (some 102) (by kernel_rfl) (by kernel_rfl) hb29_34 (m := 1) (by kernel_rfl) rfl ?_
                          refine OI_static 4 [(1, .slice (some ⟨b26, o26, none⟩) xs.length capb), (5, .pointer (some ⟨l5, 0, none⟩)), (6, .int .i64 wv), (7, .int .i64 ((i : Nat) : Int)), (8, .pointer (some ⟨b29, 0, none⟩)), (30, .int .i64 ((i : Nat) : Int)), (31, .bool (decide (((i : Nat) : Int) < 100))), (100, .pointer (some ⟨l5, 0, none⟩)), (102, .int .i64 x27.a), (103, .pointer (some ⟨b29, 3, none⟩))] (by kernel_rfl) ?_
                          refine OI_cell 3 (.tmp 103) 3 (.int .i64 x27.n) (some 104) (by kernel_rfl) (by kernel_rfl) hb29_34 (m := 1) (by kernel_rfl) rfl ?_
                          refine OI_call { callee := (Callee.value (Operand.func 24)), args := #[(Operand.tmp 100), (Operand.tmp 102), (Operand.tmp 104)], argTypes := #[22, 3, 3] } 24 #[.pointer (some ⟨l5, 0, none⟩), .int .i64 x27.a, .int .i64 x27.n] (some 105) (by kernel_rfl) (by kernel_rfl) (by kernel_rfl) (burn_spec F15 l5 X C x27.a x27.n _ ho16) ?_
                          rintro _ w125 ⟨rfl, ⟨F127, ho128, hfr129⟩, hk126⟩
                          refine ⟨_, rfl, ?_⟩
                          have hsz130 := Keep.size hk126
                          replace hb29_34 := hb29_34.keep hk126 (fun hs => by have h1 := own17 _ hs; have h2 := lt23 _ hs; omega)
                          have hb29lt := hb29_34.lt
                          replace hat26 := hat26.keep hk126 (fun hs => by have h1 := own17 _ hs; have h2 := lt23 _ hs; omega)
                          have hb26lt := hat26.blk.lt
                          replace hA := ArgT.keep hA hk126 hA0 (fun k hk hs => by have h1 := own17 k hs; have h2 := lt23 k hs; omega)
                          replace hK0 := Keep.fresh hK0 hk126 (by intro i hi hs; first | exact hs | (exfalso; have h1 := own17 i hs; have h2 := lt23 i hs; omega) | (have h1 := own17 i hs; have h2 := lt23 i hs; show _ ∨ _; omega)); have hzhK0 := Keep.size hK0
                          replace hk21 := Keep.fresh hk21 hk126 (fun i hi hs => by rcases rel18 i hs with h | h; exact h; (exfalso; omega)); have hzhk21 := Keep.size hk21
                          replace hk40 := Keep.fresh hk40 hk126 (fun i hi hs => by rcases rel41 i hs with h | h; exact h; (exfalso; omega)); have hzhk40 := Keep.size hk40
                          have own132 : ∀ q, F127 q → w.heap.size ≤ q ∧ q ≠ b29 := fun q hq => by rcases hfr129 q hq with h | h; (have h1 := own17 q h; have h2 := lt23 q h; omega); omega
                          have lt131 := Led.lt ho128
                          have rel133 : ∀ q, F127 q → F6 q ∨ w12.heap.size ≤ q := fun q hq => by rcases hfr129 q hq with h | h; exact rel18 q h; exact .inr (by omega)
                          have rel134 : ∀ q, F127 q → F15 q ∨ w31.heap.size ≤ q := fun q hq => by rcases hfr129 q hq with h | h; exact rel41 q h; exact .inr (by omega)
                          refine OI_static 7 [(1, .slice (some ⟨b26, o26, none⟩) xs.length capb), (5, .pointer (some ⟨l5, 0, none⟩)), (6, .int .i64 wv), (7, .int .i64 ((i : Nat) : Int)), (8, .pointer (some ⟨b29, 0, none⟩)), (30, .int .i64 ((i : Nat) : Int)), (31, .bool (decide (((i : Nat) : Int) < 100))), (106, .bool (decide (spendsE X C x27.a x27.n = 0)))] (by kernel_rfl) ?_
                          refine OI_end rfl ?_
                          refine X_then ?_
                          refine V_if (spendsE X C x27.a x27.n = 0) (by kernel_rfl) (fun hc135 => ?_) (fun hc135 => ?_)
                          · skip
                            obtain ⟨_, hsn1, hsn2, _⟩ := spends_ok hinvX hc135
                            refine V_region ?_
                            refine OI_static 2 [(1, .slice (some ⟨b26, o26, none⟩) xs.length capb), (5, .pointer (some ⟨l5, 0, none⟩)), (7, .int .i64 ((i : Nat) : Int)), (30, .int .i64 ((i : Nat) : Int)), (31, .bool (decide (((i : Nat) : Int) < 100))), (107, .int .i64 wv), (108, .pointer (some ⟨b29, 3, none⟩))] (by kernel_rfl) ?_
                            refine OI_cell 3 (.tmp 108) 3 (.int .i64 x27.n) (some 109) (by kernel_rfl) (by kernel_rfl) hb29_34 (m := 1) (by kernel_rfl) rfl ?_
                            have hw136 : IntKind.i64.wrap (wv - x27.n) = wv - x27.n := (wrap64_id (by omega) (by omega)).trans (by omega)
                            refine OI_static 4 [(1, .slice (some ⟨b26, o26, none⟩) xs.length capb), (5, .pointer (some ⟨l5, 0, none⟩)), (7, .int .i64 ((i : Nat) : Int)), (30, .int .i64 ((i : Nat) : Int)), (31, .bool (decide (((i : Nat) : Int) < 100))), (110, .int .i64 (IntKind.i64.wrap (wv - x27.n)))] (by kernel_rfl) ?_
                            refine OI_eq [(1, .slice (some ⟨b26, o26, none⟩) xs.length capb), (5, .pointer (some ⟨l5, 0, none⟩)), (7, .int .i64 ((i : Nat) : Int)), (30, .int .i64 ((i : Nat) : Int)), (31, .bool (decide (((i : Nat) : Int) < 100))), (110, .int .i64 (wv - x27.n))] (by rw [hw136]) ?_
                            refine OI_static 5 [(1, .slice (some ⟨b26, o26, none⟩) xs.length capb), (5, .pointer (some ⟨l5, 0, none⟩)), (6, .int .i64 (wv - x27.n)), (7, .int .i64 ((i : Nat) : Int)), (30, .int .i64 ((i : Nat) : Int)), (31, .bool (decide (((i : Nat) : Int) < 100)))] (by kernel_rfl) ?_
                            refine OI_end rfl ?_
                            refine X_block ?_
                            exact X_join [(1, .slice (some ⟨b26, o26, none⟩) xs.length capb), (5, .pointer (some ⟨l5, 0, none⟩)), (6, .int .i64 (wv - x27.n)), (7, .int .i64 ((i : Nat) : Int)), (30, .int .i64 ((i : Nat) : Int)), (31, .bool (decide (((i : Nat) : Int) < 100)))] rfl ⟨(burnX X C x27.a x27.n), C, wv - x27.n, F127, by rw [tot_burn hinvX, if_pos hc135]; omega, by omega, ho128, (fun q hq => by have h1 := own132 q hq; have h2 := lt131 q hq; omega), rel134, hk40, rfl⟩
                          · skip
                            refine V_skip ?_
                            refine X_block ?_
                            exact X_join [(1, .slice (some ⟨b26, o26, none⟩) xs.length capb), (5, .pointer (some ⟨l5, 0, none⟩)), (6, .int .i64 wv), (7, .int .i64 ((i : Nat) : Int)), (30, .int .i64 ((i : Nat) : Int)), (31, .bool (decide (((i : Nat) : Int) < 100)))] rfl ⟨(burnX X C x27.a x27.n), C, wv, F127, by rw [tot_burn hinvX, if_neg hc135]; omega, by omega, ho128, (fun q hq => by have h1 := own132 q hq; have h2 := lt131 q hq; omega), rel134, hk40, rfl⟩
                        · skip
                          refine V_skip ?_
                          refine X_block ?_
                          exact X_join [(1, .slice (some ⟨b26, o26, none⟩) xs.length capb), (5, .pointer (some ⟨l5, 0, none⟩)), (6, .int .i64 wv), (7, .int .i64 ((i : Nat) : Int)), (30, .int .i64 ((i : Nat) : Int)), (31, .bool (decide (((i : Nat) : Int) < 100)))] rfl ⟨X, C, wv, F15, hw, by omega, ho16, (fun q hq => by have h1 := own17 q hq; have h2 := lt23 q hq; omega), rel41, hk40, rfl⟩
          · skip
            rintro w137 _ ⟨X2, C2, wv2, F36, hw2, hcl2, ho37, own38, rel39, hk138, rfl⟩
            have hsz139 := Keep.size hk138
            replace hb29_34 := hb29_34.keep hk138 (fun hs => by have h1 := own17 _ hs; have h2 := lt23 _ hs; omega)
            have hb29lt := hb29_34.lt
            replace hat26 := hat26.keep hk138 (fun hs => by have h1 := own17 _ hs; have h2 := lt23 _ hs; omega)
            have hb26lt := hat26.blk.lt
            replace hA := ArgT.keep hA hk138 hA0 (fun k hk hs => by have h1 := own17 k hs; have h2 := lt23 k hs; omega)
            replace hK0 := Keep.fresh hK0 hk138 (by intro i hi hs; have h1 := own17 i hs; have h2 := lt23 i hs; omega); have hzhK0 := Keep.size hK0
            replace hk21 := Keep.fresh hk21 hk138 (fun i hi hs => by rcases rel18 i hs with h | h; exact h; (exfalso; omega)); have hzhk21 := Keep.size hk21
            have lt140 := Led.lt ho37
            have rel141 : ∀ q, F36 q → F6 q ∨ w12.heap.size ≤ q := fun q hq => by rcases rel39 q hq with h | h; exact rel18 q h; exact .inr (by omega)
            have hl5lt : l5 < w137.heap.size := Led.lt ho37 _ (Led.at_ ho37)
            have hinv2 := Led.inv ho37
            have ht2 := (tot_mem hinv2.2.1).1
            have ht3 := hinv2.2.2
            have hl10 := hinv2.1
            refine X_then ?_
            refine V_seq ?_
            refine V_region ?_
            refine OI_static 1 [(1, .slice (some ⟨b26, o26, none⟩) xs.length capb), (5, .pointer (some ⟨l5, 0, none⟩)), (6, .int .i64 wv2), (7, .int .i64 ((i : Nat) : Int)), (9, .int .i64 0), (30, .int .i64 ((i : Nat) : Int)), (31, .bool (decide (((i : Nat) : Int) < 100)))] (by kernel_rfl) ?_
            refine OI_end rfl ?_
            refine X_then ?_
            refine V_seq ?_
            refine V_seq ?_
            refine V_region ?_
            refine OI_static 1 [(1, .slice (some ⟨b26, o26, none⟩) xs.length capb), (5, .pointer (some ⟨l5, 0, none⟩)), (6, .int .i64 wv2), (7, .int .i64 ((i : Nat) : Int)), (9, .int .i64 0), (10, .int .i64 0), (30, .int .i64 ((i : Nat) : Int)), (31, .bool (decide (((i : Nat) : Int) < 100)))] (by kernel_rfl) ?_
            refine OI_end rfl ?_
            refine X_then ?_
            refine V_block ?_
            refine V_pick [(1, .slice (some ⟨b26, o26, none⟩) xs.length capb), (5, .pointer (some ⟨l5, 0, none⟩)), (6, .int .i64 wv2), (7, .int .i64 ((i : Nat) : Int)), (9, .int .i64 0), (10, .int .i64 0), (30, .int .i64 ((i : Nat) : Int)), (31, .bool (decide (((i : Nat) : Int) < 100)))] rfl ?_
            refine V_loop (fun k wI e => ∃ j : Nat, ∃ n9 : Int, (k + j = 10) ∧ (n9 = tot (X2.take j)) ∧ (0 ≤ tot (X2.take j)) ∧ (tot (X2.take j) ≤ 1073741824) ∧ Keep none_ w137 wI ∧ e = [(1, .slice (some ⟨b26, o26, none⟩) xs.length capb), (5, .pointer (some ⟨l5, 0, none⟩)), (6, .int .i64 wv2), (7, .int .i64 ((i : Nat) : Int)), (9, .int .i64 n9), (10, .int .i64 ((j : Nat) : Int)), (30, .int .i64 ((i : Nat) : Int)), (31, .bool (decide (((i : Nat) : Int) < 100)))]) 10 ⟨0, 0, by omega, by simp [tot], by simp [tot], by simp [tot], Keep.refl _ _, rfl⟩ ?_
            rintro k143 w142 _ ⟨j, n9, hkj, hn9, hn0, hn1, hk144, rfl⟩
            have hsz145 := Keep.size hk144
            replace hb29_34 := hb29_34.keep hk144 (fun f => f)
            have hb29lt := hb29_34.lt
            replace hat26 := hat26.keep hk144 (fun f => f)
            have hb26lt := hat26.blk.lt
            replace hA := ArgT.keep0 hA hk144
            replace hK0 := Keep.tr hK0 (Keep.ofNone hk144); have hzhK0 := Keep.size hK0
            replace hk21 := Keep.tr hk21 (Keep.ofNone hk144); have hzhk21 := Keep.size hk21
            replace ho37 := Led.keep ho37 hk144 (fun _ _ f => f)
            have hzhk144 := Keep.size hk144
            have hab := acct_bnd hinv2 ((j : Nat) : Int)
            refine V_seq ?_
            refine V_seq ?_
            refine V_region ?_
            refine OI_static 2 [(1, .slice (some ⟨b26, o26, none⟩) xs.length capb), (5, .pointer (some ⟨l5, 0, none⟩)), (6, .int .i64 wv2), (7, .int .i64 ((i : Nat) : Int)), (9, .int .i64 n9), (10, .int .i64 ((j : Nat) : Int)), (30, .int .i64 ((i : Nat) : Int)), (31, .bool (decide (((i : Nat) : Int) < 100))), (112, .bool (decide (((j : Nat) : Int) < 10)))] (by kernel_rfl) ?_
            refine OI_end rfl ?_
            refine X_then ?_
            refine V_if (((j : Nat) : Int) < 10) (by kernel_rfl) (fun hc146 => ?_) (fun hc146 => ?_)
            · skip
              refine V_skip ?_
              refine X_then ?_
              refine V_seq ?_
              refine V_block ?_
              refine V_seq ?_
              refine V_seq ?_
              refine V_region ?_
              refine OI_static 2 [(1, .slice (some ⟨b26, o26, none⟩) xs.length capb), (5, .pointer (some ⟨l5, 0, none⟩)), (6, .int .i64 wv2), (7, .int .i64 ((i : Nat) : Int)), (9, .int .i64 n9), (10, .int .i64 ((j : Nat) : Int)), (30, .int .i64 ((i : Nat) : Int)), (31, .bool (decide (((i : Nat) : Int) < 100))), (115, .pointer (some ⟨l5, 0, none⟩)), (116, .int .i64 ((j : Nat) : Int))] (by kernel_rfl) ?_
              refine OI_call { callee := (Callee.value (Operand.func 20)), args := #[(Operand.tmp 115), (Operand.tmp 116)], argTypes := #[22, 3] } 20 #[.pointer (some ⟨l5, 0, none⟩), .int .i64 ((j : Nat) : Int)] (some 117) (by kernel_rfl) (by kernel_rfl) (by kernel_rfl) (free_spec F36 l5 X2 C2 ((j : Nat) : Int) _ ho37) ?_
              rintro _ w147 ⟨rfl, hk148⟩
              refine ⟨_, rfl, ?_⟩
              have hsz149 := Keep.size hk148
              replace hb29_34 := hb29_34.keep hk148 (fun f => f)
              have hb29lt := hb29_34.lt
              replace hat26 := hat26.keep hk148 (fun f => f)
              have hb26lt := hat26.blk.lt
              replace hA := ArgT.keep0 hA hk148
              replace hK0 := Keep.tr hK0 (Keep.ofNone hk148); have hzhK0 := Keep.size hK0
              replace hk21 := Keep.tr hk21 (Keep.ofNone hk148); have hzhk21 := Keep.size hk21
              replace ho37 := Led.keep ho37 hk148 (fun _ _ f => f)
              replace hk144 := Keep.tr hk144 (Keep.ofNone hk148); have hzhk144 := Keep.size hk144
              refine OI_static 5 [(1, .slice (some ⟨b26, o26, none⟩) xs.length capb), (5, .pointer (some ⟨l5, 0, none⟩)), (6, .int .i64 wv2), (7, .int .i64 ((i : Nat) : Int)), (9, .int .i64 n9), (10, .int .i64 ((j : Nat) : Int)), (30, .int .i64 ((i : Nat) : Int)), (31, .bool (decide (((i : Nat) : Int) < 100))), (119, .bool (decide ((acct X2 ((j : Nat) : Int)).free < 0)))] (by kernel_rfl) ?_
              refine OI_eq [(1, .slice (some ⟨b26, o26, none⟩) xs.length capb), (5, .pointer (some ⟨l5, 0, none⟩)), (6, .int .i64 wv2), (7, .int .i64 ((i : Nat) : Int)), (9, .int .i64 n9), (10, .int .i64 ((j : Nat) : Int)), (30, .int .i64 ((i : Nat) : Int)), (31, .bool (decide (((i : Nat) : Int) < 100))), (119, .bool false)] (by rw [decide_eq_false (by omega : ¬ (acct X2 ((j : Nat) : Int)).free < 0)]) ?_
              refine OI_static 7 [(1, .slice (some ⟨b26, o26, none⟩) xs.length capb), (5, .pointer (some ⟨l5, 0, none⟩)), (6, .int .i64 wv2), (7, .int .i64 ((i : Nat) : Int)), (9, .int .i64 n9), (10, .int .i64 ((j : Nat) : Int)), (30, .int .i64 ((i : Nat) : Int)), (31, .bool (decide (((i : Nat) : Int) < 100))), (119, .bool false), (120, .pointer (some ⟨l5, 0, none⟩)), (121, .int .i64 ((j : Nat) : Int))] (by kernel_rfl) ?_
              refine OI_call { callee := (Callee.value (Operand.func 22)), args := #[(Operand.tmp 120), (Operand.tmp 121)], argTypes := #[22, 3] } 22 #[.pointer (some ⟨l5, 0, none⟩), .int .i64 ((j : Nat) : Int)] (some 122) (by kernel_rfl) (by kernel_rfl) (by kernel_rfl) (held_spec F36 l5 X2 C2 ((j : Nat) : Int) _ ho37) ?_
              rintro _ w151 ⟨rfl, hk152⟩
              refine ⟨_, rfl, ?_⟩
              have hsz153 := Keep.size hk152
              replace hb29_34 := hb29_34.keep hk152 (fun f => f)
              have hb29lt := hb29_34.lt
              replace hat26 := hat26.keep hk152 (fun f => f)
              have hb26lt := hat26.blk.lt
              replace hA := ArgT.keep0 hA hk152
              replace hK0 := Keep.tr hK0 (Keep.ofNone hk152); have hzhK0 := Keep.size hK0
              replace hk21 := Keep.tr hk21 (Keep.ofNone hk152); have hzhk21 := Keep.size hk21
              replace ho37 := Led.keep ho37 hk152 (fun _ _ f => f)
              replace hk144 := Keep.tr hk144 (Keep.ofNone hk152); have hzhk144 := Keep.size hk144
              refine OI_static 10 [(1, .slice (some ⟨b26, o26, none⟩) xs.length capb), (5, .pointer (some ⟨l5, 0, none⟩)), (6, .int .i64 wv2), (7, .int .i64 ((i : Nat) : Int)), (9, .int .i64 n9), (10, .int .i64 ((j : Nat) : Int)), (30, .int .i64 ((i : Nat) : Int)), (31, .bool (decide (((i : Nat) : Int) < 100))), (120, .pointer (some ⟨l5, 0, none⟩)), (121, .int .i64 ((j : Nat) : Int)), (122, .int .i64 ((acct X2 ((j : Nat) : Int)).held)), (123, .bool (decide ((acct X2 ((j : Nat) : Int)).held < 0))), (124, .bool (decide ((acct X2 ((j : Nat) : Int)).held < 0)))] (by kernel_rfl) ?_
              refine OI_end rfl ?_
              refine X_then ?_
              refine V_eq [(1, .slice (some ⟨b26, o26, none⟩) xs.length capb), (5, .pointer (some ⟨l5, 0, none⟩)), (6, .int .i64 wv2), (7, .int .i64 ((i : Nat) : Int)), (9, .int .i64 n9), (10, .int .i64 ((j : Nat) : Int)), (30, .int .i64 ((i : Nat) : Int)), (31, .bool (decide (((i : Nat) : Int) < 100))), (120, .pointer (some ⟨l5, 0, none⟩)), (121, .int .i64 ((j : Nat) : Int)), (122, .int .i64 ((acct X2 ((j : Nat) : Int)).held)), (123, .bool (decide ((acct X2 ((j : Nat) : Int)).held < 0))), (124, .bool false)] (by rw [decide_eq_false (by omega : ¬ (acct X2 ((j : Nat) : Int)).held < 0)]) ?_
              refine V_false rfl ?_
              refine V_skip ?_
              refine X_then ?_
              refine V_region ?_
              refine OI_static 3 [(1, .slice (some ⟨b26, o26, none⟩) xs.length capb), (5, .pointer (some ⟨l5, 0, none⟩)), (6, .int .i64 wv2), (7, .int .i64 ((i : Nat) : Int)), (10, .int .i64 ((j : Nat) : Int)), (30, .int .i64 ((i : Nat) : Int)), (31, .bool (decide (((i : Nat) : Int) < 100))), (120, .pointer (some ⟨l5, 0, none⟩)), (121, .int .i64 ((j : Nat) : Int)), (122, .int .i64 ((acct X2 ((j : Nat) : Int)).held)), (123, .bool (decide ((acct X2 ((j : Nat) : Int)).held < 0))), (125, .int .i64 n9), (126, .pointer (some ⟨l5, 0, none⟩)), (127, .int .i64 ((j : Nat) : Int))] (by kernel_rfl) ?_
              refine OI_call { callee := (Callee.value (Operand.func 20)), args := #[(Operand.tmp 126), (Operand.tmp 127)], argTypes := #[22, 3] } 20 #[.pointer (some ⟨l5, 0, none⟩), .int .i64 ((j : Nat) : Int)] (some 128) (by kernel_rfl) (by kernel_rfl) (by kernel_rfl) (free_spec F36 l5 X2 C2 ((j : Nat) : Int) _ ho37) ?_
              rintro _ w155 ⟨rfl, hk156⟩
              refine ⟨_, rfl, ?_⟩
              have hsz157 := Keep.size hk156
              replace hb29_34 := hb29_34.keep hk156 (fun f => f)
              have hb29lt := hb29_34.lt
              replace hat26 := hat26.keep hk156 (fun f => f)
              have hb26lt := hat26.blk.lt
              replace hA := ArgT.keep0 hA hk156
              replace hK0 := Keep.tr hK0 (Keep.ofNone hk156); have hzhK0 := Keep.size hK0
              replace hk21 := Keep.tr hk21 (Keep.ofNone hk156); have hzhk21 := Keep.size hk21
              replace ho37 := Led.keep ho37 hk156 (fun _ _ f => f)
              replace hk144 := Keep.tr hk144 (Keep.ofNone hk156); have hzhk144 := Keep.size hk144
              have hw158 : IntKind.i64.wrap (n9 + ((acct X2 ((j : Nat) : Int)).free)) = n9 + ((acct X2 ((j : Nat) : Int)).free) := (wrap64_id (by omega) (by omega)).trans (by omega)
              refine OI_static 5 [(1, .slice (some ⟨b26, o26, none⟩) xs.length capb), (5, .pointer (some ⟨l5, 0, none⟩)), (6, .int .i64 wv2), (7, .int .i64 ((i : Nat) : Int)), (10, .int .i64 ((j : Nat) : Int)), (30, .int .i64 ((i : Nat) : Int)), (31, .bool (decide (((i : Nat) : Int) < 100))), (120, .pointer (some ⟨l5, 0, none⟩)), (121, .int .i64 ((j : Nat) : Int)), (122, .int .i64 ((acct X2 ((j : Nat) : Int)).held)), (123, .bool (decide ((acct X2 ((j : Nat) : Int)).held < 0))), (129, .int .i64 (IntKind.i64.wrap (n9 + ((acct X2 ((j : Nat) : Int)).free))))] (by kernel_rfl) ?_
              refine OI_eq [(1, .slice (some ⟨b26, o26, none⟩) xs.length capb), (5, .pointer (some ⟨l5, 0, none⟩)), (6, .int .i64 wv2), (7, .int .i64 ((i : Nat) : Int)), (10, .int .i64 ((j : Nat) : Int)), (30, .int .i64 ((i : Nat) : Int)), (31, .bool (decide (((i : Nat) : Int) < 100))), (120, .pointer (some ⟨l5, 0, none⟩)), (121, .int .i64 ((j : Nat) : Int)), (122, .int .i64 ((acct X2 ((j : Nat) : Int)).held)), (123, .bool (decide ((acct X2 ((j : Nat) : Int)).held < 0))), (129, .int .i64 (n9 + ((acct X2 ((j : Nat) : Int)).free)))] (by rw [hw158]) ?_
              refine OI_static 7 [(1, .slice (some ⟨b26, o26, none⟩) xs.length capb), (5, .pointer (some ⟨l5, 0, none⟩)), (6, .int .i64 wv2), (7, .int .i64 ((i : Nat) : Int)), (10, .int .i64 ((j : Nat) : Int)), (30, .int .i64 ((i : Nat) : Int)), (31, .bool (decide (((i : Nat) : Int) < 100))), (120, .pointer (some ⟨l5, 0, none⟩)), (121, .int .i64 ((j : Nat) : Int)), (122, .int .i64 ((acct X2 ((j : Nat) : Int)).held)), (123, .bool (decide ((acct X2 ((j : Nat) : Int)).held < 0))), (129, .int .i64 (n9 + ((acct X2 ((j : Nat) : Int)).free))), (130, .pointer (some ⟨l5, 0, none⟩)), (131, .int .i64 ((j : Nat) : Int))] (by kernel_rfl) ?_
              refine OI_call { callee := (Callee.value (Operand.func 22)), args := #[(Operand.tmp 130), (Operand.tmp 131)], argTypes := #[22, 3] } 22 #[.pointer (some ⟨l5, 0, none⟩), .int .i64 ((j : Nat) : Int)] (some 132) (by kernel_rfl) (by kernel_rfl) (by kernel_rfl) (held_spec F36 l5 X2 C2 ((j : Nat) : Int) _ ho37) ?_
              rintro _ w159 ⟨rfl, hk160⟩
              refine ⟨_, rfl, ?_⟩
              have hsz161 := Keep.size hk160
              replace hb29_34 := hb29_34.keep hk160 (fun f => f)
              have hb29lt := hb29_34.lt
              replace hat26 := hat26.keep hk160 (fun f => f)
              have hb26lt := hat26.blk.lt
              replace hA := ArgT.keep0 hA hk160
              replace hK0 := Keep.tr hK0 (Keep.ofNone hk160); have hzhK0 := Keep.size hK0
              replace hk21 := Keep.tr hk21 (Keep.ofNone hk160); have hzhk21 := Keep.size hk21
              replace ho37 := Led.keep ho37 hk160 (fun _ _ f => f)
              replace hk144 := Keep.tr hk144 (Keep.ofNone hk160); have hzhk144 := Keep.size hk144
              have hw162 : IntKind.i64.wrap ((n9 + ((acct X2 ((j : Nat) : Int)).free)) + ((acct X2 ((j : Nat) : Int)).held)) = (n9 + ((acct X2 ((j : Nat) : Int)).free)) + ((acct X2 ((j : Nat) : Int)).held) := (wrap64_id (by omega) (by omega)).trans (by omega)
              refine OI_static 9 [(1, .slice (some ⟨b26, o26, none⟩) xs.length capb), (5, .pointer (some ⟨l5, 0, none⟩)), (6, .int .i64 wv2), (7, .int .i64 ((i : Nat) : Int)), (10, .int .i64 ((j : Nat) : Int)), (30, .int .i64 ((i : Nat) : Int)), (31, .bool (decide (((i : Nat) : Int) < 100))), (120, .pointer (some ⟨l5, 0, none⟩)), (121, .int .i64 ((j : Nat) : Int)), (122, .int .i64 ((acct X2 ((j : Nat) : Int)).held)), (123, .bool (decide ((acct X2 ((j : Nat) : Int)).held < 0))), (133, .int .i64 (IntKind.i64.wrap ((n9 + ((acct X2 ((j : Nat) : Int)).free)) + ((acct X2 ((j : Nat) : Int)).held))))] (by kernel_rfl) ?_
              refine OI_eq [(1, .slice (some ⟨b26, o26, none⟩) xs.length capb), (5, .pointer (some ⟨l5, 0, none⟩)), (6, .int .i64 wv2), (7, .int .i64 ((i : Nat) : Int)), (10, .int .i64 ((j : Nat) : Int)), (30, .int .i64 ((i : Nat) : Int)), (31, .bool (decide (((i : Nat) : Int) < 100))), (120, .pointer (some ⟨l5, 0, none⟩)), (121, .int .i64 ((j : Nat) : Int)), (122, .int .i64 ((acct X2 ((j : Nat) : Int)).held)), (123, .bool (decide ((acct X2 ((j : Nat) : Int)).held < 0))), (133, .int .i64 ((n9 + ((acct X2 ((j : Nat) : Int)).free)) + ((acct X2 ((j : Nat) : Int)).held)))] (by rw [hw162]) ?_
              refine OI_static 10 [(1, .slice (some ⟨b26, o26, none⟩) xs.length capb), (5, .pointer (some ⟨l5, 0, none⟩)), (6, .int .i64 wv2), (7, .int .i64 ((i : Nat) : Int)), (9, .int .i64 ((n9 + ((acct X2 ((j : Nat) : Int)).free)) + ((acct X2 ((j : Nat) : Int)).held))), (10, .int .i64 ((j : Nat) : Int)), (30, .int .i64 ((i : Nat) : Int)), (31, .bool (decide (((i : Nat) : Int) < 100))), (120, .pointer (some ⟨l5, 0, none⟩)), (121, .int .i64 ((j : Nat) : Int)), (122, .int .i64 ((acct X2 ((j : Nat) : Int)).held)), (123, .bool (decide ((acct X2 ((j : Nat) : Int)).held < 0)))] (by kernel_rfl) ?_
              refine OI_end rfl ?_
              refine X_block ?_
              refine X_then ?_
              refine V_region ?_
              have hw163 : IntKind.i64.wrap (((j : Nat) : Int) + 1) = ((j + 1 : Nat) : Int) := (wrap64_id (by omega) (by omega)).trans (by omega)
              refine OI_static 2 [(1, .slice (some ⟨b26, o26, none⟩) xs.length capb), (5, .pointer (some ⟨l5, 0, none⟩)), (6, .int .i64 wv2), (7, .int .i64 ((i : Nat) : Int)), (9, .int .i64 ((n9 + ((acct X2 ((j : Nat) : Int)).free)) + ((acct X2 ((j : Nat) : Int)).held))), (30, .int .i64 ((i : Nat) : Int)), (31, .bool (decide (((i : Nat) : Int) < 100))), (114, .int .i64 (IntKind.i64.wrap (((j : Nat) : Int) + 1))), (120, .pointer (some ⟨l5, 0, none⟩)), (121, .int .i64 ((j : Nat) : Int)), (122, .int .i64 ((acct X2 ((j : Nat) : Int)).held)), (123, .bool (decide ((acct X2 ((j : Nat) : Int)).held < 0)))] (by kernel_rfl) ?_
              refine OI_eq [(1, .slice (some ⟨b26, o26, none⟩) xs.length capb), (5, .pointer (some ⟨l5, 0, none⟩)), (6, .int .i64 wv2), (7, .int .i64 ((i : Nat) : Int)), (9, .int .i64 ((n9 + ((acct X2 ((j : Nat) : Int)).free)) + ((acct X2 ((j : Nat) : Int)).held))), (30, .int .i64 ((i : Nat) : Int)), (31, .bool (decide (((i : Nat) : Int) < 100))), (114, .int .i64 ((j + 1 : Nat) : Int)), (120, .pointer (some ⟨l5, 0, none⟩)), (121, .int .i64 ((j : Nat) : Int)), (122, .int .i64 ((acct X2 ((j : Nat) : Int)).held)), (123, .bool (decide ((acct X2 ((j : Nat) : Int)).held < 0)))] (by rw [hw163]) ?_
              refine OI_static 3 [(1, .slice (some ⟨b26, o26, none⟩) xs.length capb), (5, .pointer (some ⟨l5, 0, none⟩)), (6, .int .i64 wv2), (7, .int .i64 ((i : Nat) : Int)), (9, .int .i64 ((n9 + ((acct X2 ((j : Nat) : Int)).free)) + ((acct X2 ((j : Nat) : Int)).held))), (10, .int .i64 ((j + 1 : Nat) : Int)), (30, .int .i64 ((i : Nat) : Int)), (31, .bool (decide (((i : Nat) : Int) < 100))), (120, .pointer (some ⟨l5, 0, none⟩)), (121, .int .i64 ((j : Nat) : Int)), (122, .int .i64 ((acct X2 ((j : Nat) : Int)).held)), (123, .bool (decide ((acct X2 ((j : Nat) : Int)).held < 0)))] (by kernel_rfl) ?_
              refine OI_end rfl ?_
              obtain ⟨y, hy⟩ : ∃ y, X2[j]? = some y := ⟨_, List.getElem?_eq_getElem (by omega)⟩
              have hac := acct_in hy (by omega)
              obtain ⟨hs1, hs2, hs3⟩ := tot_step hinv2 hy
              rw [hac] at hab
              exact V_again (k143 - 1) (by omega) [(1, .slice (some ⟨b26, o26, none⟩) xs.length capb), (5, .pointer (some ⟨l5, 0, none⟩)), (6, .int .i64 wv2), (7, .int .i64 ((i : Nat) : Int)), (9, .int .i64 ((n9 + ((acct X2 ((j : Nat) : Int)).free)) + ((acct X2 ((j : Nat) : Int)).held))), (10, .int .i64 ((j + 1 : Nat) : Int)), (30, .int .i64 ((i : Nat) : Int)), (31, .bool (decide (((i : Nat) : Int) < 100)))] rfl ⟨j + 1, (n9 + ((acct X2 ((j : Nat) : Int)).free)) + ((acct X2 ((j : Nat) : Int)).held), by omega, by rw [hs1, hac]; omega, by rw [hs1]; omega, by rw [hs1]; omega, hk144, rfl⟩
            · skip
              obtain rfl : j = 10 := by omega
              rw [List.take_of_length_le (by omega)] at hn9
              refine V_exit ?_
              refine X_exit_then ?_
              refine X_exit_then ?_
              refine X_exit_here ?_
              refine X_then ?_
              refine V_seq ?_
              refine V_region ?_
              refine OI_static 4 [(1, .slice (some ⟨b26, o26, none⟩) xs.length capb), (5, .pointer (some ⟨l5, 0, none⟩)), (6, .int .i64 wv2), (7, .int .i64 ((i : Nat) : Int)), (30, .int .i64 ((i : Nat) : Int)), (31, .bool (decide (((i : Nat) : Int) < 100))), (137, .bool (!(decide (n9 = wv2))))] (by kernel_rfl) ?_
              refine OI_eq [(1, .slice (some ⟨b26, o26, none⟩) xs.length capb), (5, .pointer (some ⟨l5, 0, none⟩)), (6, .int .i64 wv2), (7, .int .i64 ((i : Nat) : Int)), (30, .int .i64 ((i : Nat) : Int)), (31, .bool (decide (((i : Nat) : Int) < 100))), (137, .bool false)] (by rw [decide_eq_true (by omega : n9 = wv2)]; rfl) ?_
              refine OI_static 5 [(1, .slice (some ⟨b26, o26, none⟩) xs.length capb), (5, .pointer (some ⟨l5, 0, none⟩)), (6, .int .i64 wv2), (7, .int .i64 ((i : Nat) : Int)), (30, .int .i64 ((i : Nat) : Int)), (31, .bool (decide (((i : Nat) : Int) < 100))), (137, .bool false), (138, .pointer (some ⟨l5, 0, none⟩))] (by kernel_rfl) ?_
              refine OI_call { callee := (Callee.value (Operand.func 19)), args := #[(Operand.tmp 138)], argTypes := #[22] } 19 #[.pointer (some ⟨l5, 0, none⟩)] (some 139) (by kernel_rfl) (by kernel_rfl) (by kernel_rfl) (issued_spec F36 l5 X2 C2 _ ho37) ?_
              rintro _ w165 ⟨rfl, hk166⟩
              refine ⟨_, rfl, ?_⟩
              have hsz167 := Keep.size hk166
              replace hb29_34 := hb29_34.keep hk166 (fun f => f)
              have hb29lt := hb29_34.lt
              replace hat26 := hat26.keep hk166 (fun f => f)
              have hb26lt := hat26.blk.lt
              replace hA := ArgT.keep0 hA hk166
              replace hK0 := Keep.tr hK0 (Keep.ofNone hk166); have hzhK0 := Keep.size hK0
              replace hk21 := Keep.tr hk21 (Keep.ofNone hk166); have hzhk21 := Keep.size hk21
              replace ho37 := Led.keep ho37 hk166 (fun _ _ f => f)
              refine OI_static 9 [(1, .slice (some ⟨b26, o26, none⟩) xs.length capb), (5, .pointer (some ⟨l5, 0, none⟩)), (6, .int .i64 wv2), (7, .int .i64 ((i : Nat) : Int)), (30, .int .i64 ((i : Nat) : Int)), (31, .bool (decide (((i : Nat) : Int) < 100))), (138, .pointer (some ⟨l5, 0, none⟩)), (139, .int .i64 (tot X2)), (140, .int .i64 wv2), (141, .bool (!(decide (tot X2 = wv2)))), (142, .bool (!(decide (tot X2 = wv2))))] (by kernel_rfl) ?_
              refine OI_end rfl ?_
              refine X_then ?_
              refine V_eq [(1, .slice (some ⟨b26, o26, none⟩) xs.length capb), (5, .pointer (some ⟨l5, 0, none⟩)), (6, .int .i64 wv2), (7, .int .i64 ((i : Nat) : Int)), (30, .int .i64 ((i : Nat) : Int)), (31, .bool (decide (((i : Nat) : Int) < 100))), (138, .pointer (some ⟨l5, 0, none⟩)), (139, .int .i64 (tot X2)), (140, .int .i64 wv2), (141, .bool (!(decide (tot X2 = wv2)))), (142, .bool false)] (by rw [decide_eq_true (by omega : tot X2 = wv2)]; rfl) ?_
              refine V_false rfl ?_
              refine V_skip ?_
              refine X_block ?_
              refine X_then ?_
              refine V_region ?_
              have hw169 : IntKind.i64.wrap (((i : Nat) : Int) + 1) = ((i + 1 : Nat) : Int) := (wrap64_id (by omega) (by omega)).trans (by omega)
              refine OI_static 2 [(1, .slice (some ⟨b26, o26, none⟩) xs.length capb), (5, .pointer (some ⟨l5, 0, none⟩)), (6, .int .i64 wv2), (30, .int .i64 ((i : Nat) : Int)), (31, .bool (decide (((i : Nat) : Int) < 100))), (34, .int .i64 (IntKind.i64.wrap (((i : Nat) : Int) + 1))), (138, .pointer (some ⟨l5, 0, none⟩)), (139, .int .i64 (tot X2)), (140, .int .i64 wv2), (141, .bool (!(decide (tot X2 = wv2))))] (by kernel_rfl) ?_
              refine OI_eq [(1, .slice (some ⟨b26, o26, none⟩) xs.length capb), (5, .pointer (some ⟨l5, 0, none⟩)), (6, .int .i64 wv2), (30, .int .i64 ((i : Nat) : Int)), (31, .bool (decide (((i : Nat) : Int) < 100))), (34, .int .i64 ((i + 1 : Nat) : Int)), (138, .pointer (some ⟨l5, 0, none⟩)), (139, .int .i64 (tot X2)), (140, .int .i64 wv2), (141, .bool (!(decide (tot X2 = wv2))))] (by rw [hw169]) ?_
              refine OI_static 3 [(1, .slice (some ⟨b26, o26, none⟩) xs.length capb), (5, .pointer (some ⟨l5, 0, none⟩)), (6, .int .i64 wv2), (7, .int .i64 ((i + 1 : Nat) : Int)), (30, .int .i64 ((i : Nat) : Int)), (31, .bool (decide (((i : Nat) : Int) < 100))), (138, .pointer (some ⟨l5, 0, none⟩)), (139, .int .i64 (tot X2)), (140, .int .i64 wv2), (141, .bool (!(decide (tot X2 = wv2))))] (by kernel_rfl) ?_
              refine OI_end rfl ?_
              exact V_again (k20 - 1) (by omega) [(1, .slice (some ⟨b26, o26, none⟩) xs.length capb), (5, .pointer (some ⟨l5, 0, none⟩)), (6, .int .i64 wv2), (7, .int .i64 ((i + 1 : Nat) : Int))] rfl ⟨i + 1, X2, C2, wv2, F36, by omega, by omega, hw2, hcl2, ho37, (fun q hq => by have h1 := own38 q hq; have h2 := lt140 q hq; omega), rel141, hk21, rfl⟩
        · skip
          refine V_exit ?_
          refine X_exit_then ?_
          refine X_exit_then ?_
          refine X_exit_here ?_
          refine X_then ?_
          refine V_seq ?_
          refine V_region ?_
          refine OI_call { callee := (Callee.value (Operand.func 18)), args := #[], argTypes := #[] } 18 #[] (some 143) (by kernel_rfl) (by kernel_rfl) (by kernel_rfl) (known_spec _) ?_
          rintro _ w170 ⟨rfl, hk171⟩
          refine ⟨_, rfl, ?_⟩
          have hsz172 := Keep.size hk171
          replace hA := ArgT.keep0 hA hk171
          replace hB := ArgT.keep0 hB hk171
          replace hK0 := Keep.tr hK0 (Keep.ofNone hk171); have hzhK0 := Keep.size hK0
          replace ho16 := Led.keep ho16 hk171 (fun _ _ f => f)
          refine OI_static 2 [(4, .bool true)] (by kernel_rfl) ?_
          refine OI_end rfl ?_
          refine X_then ?_
          refine V_ret ?_
          exact X_return (.bool true) rfl ⟨rfl, hK0⟩
      · skip
        refine OI_eq [(1, .slice B xs.length capb), (5, .pointer (some ⟨l5, 0, none⟩)), (6, .int .i64 wv), (7, .int .i64 ((i : Nat) : Int)), (29, .bool false)] (by first | simp [hg24] | rfl) ?_
        refine OI_static 8 [(1, .slice B xs.length capb), (5, .pointer (some ⟨l5, 0, none⟩)), (6, .int .i64 wv), (7, .int .i64 ((i : Nat) : Int)), (30, undef), (31, undef), (32, .bool false)] (by kernel_rfl) ?_
        refine OI_end rfl ?_
        refine X_then ?_
        refine V_false rfl ?_
        refine V_exit ?_
        refine X_exit_then ?_
        refine X_exit_then ?_
        refine X_exit_here ?_
        refine X_then ?_
        refine V_seq ?_
        refine V_region ?_
        refine OI_call { callee := (Callee.value (Operand.func 18)), args := #[], argTypes := #[] } 18 #[] (some 143) (by kernel_rfl) (by kernel_rfl) (by kernel_rfl) (known_spec _) ?_
        rintro _ w173 ⟨rfl, hk174⟩
        refine ⟨_, rfl, ?_⟩
        have hsz175 := Keep.size hk174
        replace hA := ArgT.keep0 hA hk174
        replace hB := ArgT.keep0 hB hk174
        replace hK0 := Keep.tr hK0 (Keep.ofNone hk174); have hzhK0 := Keep.size hK0
        replace ho16 := Led.keep ho16 hk174 (fun _ _ f => f)
        refine OI_static 2 [(4, .bool true)] (by kernel_rfl) ?_
        refine OI_end rfl ?_
        refine X_then ?_
        refine V_ret ?_
        exact X_return (.bool true) rfl ⟨rfl, hK0⟩

theorem over_LedgerIssues {H : Type} {enc : TypeId × Value → H} {A B : Option Addr} {len cap lenb capb : Nat} {d db : DataW H} {ps pb : List MemPlace} {w : World} (h : DataW.Trod enc Try.prog w 0 (fun _ => true) true 26 (.slice A len cap) d ps) (hb : DataW.Trod enc Try.prog w 0 (fun _ => true) true 38 (.slice B lenb capb) db pb) : Calls Try.prog 12 #[.slice A len cap, .slice B lenb capb] w fun e w' => e = .returned (.bool true) ∧ Keep none_ w w' := by
  obtain ⟨fs, rfl, hA, hl, hc⟩ := read_elems (f := intc) (ks := [.int .i64]) (n := 1) (sz := 1) lift_int Try.underlying26 (by kernel_rfl) (by kernel_rfl) rfl (by decide) h
  obtain ⟨xs, rfl, hB, hlb, hcb⟩ := read_elems (f := Ac4.cells) (ks := [.int .i64, .int .i64, .int .i64, .int .i64]) (n := 4) (sz := 4) lift_Ac4 Try.underlying38 (by kernel_rfl) (by kernel_rfl) rfl (by decide) hb
  exact walk_LedgerIssues A B cap capb fs xs w hA hB (by unfold maxLen at hc; omega) (by unfold maxLen at hcb; omega)
end Go.Al
