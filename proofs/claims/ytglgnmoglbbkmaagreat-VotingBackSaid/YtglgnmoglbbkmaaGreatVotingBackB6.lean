/-
  Put together out of 1 texts: Walks of the laws of voting: a vote that is taken away.
-/
import Derived.Test.YtglgnmoglbbkmaaGreatVotingBackB5
namespace Go.Al
open Go Go.RowKit Go.Proofs
set_option maxRecDepth 10000 in
set_option maxHeartbeats 1000000 in
theorem walk_VotingBack (x y : Vt) (level n : Int) (w : World) : Calls Tryz.prog 5 #[.agg x.cells.toArray, .agg y.cells.toArray, .int .i64 level, .int .i64 n] w fun e w' => e = .returned (.bool true) ∧ Keep none_ w w' := by
 have hK0 : Keep none_ w w := Keep.refl _ _
 have hzhK0 := Keep.size hK0
 refine enterV Tryz.func5 rfl [.agg (Vt.cells x).toArray, .agg (Vt.cells y).toArray, nt level, nt n] 162 rfl rfl rfl ?_
 refine V_pick [(0, .agg (Vt.cells x).toArray), (1, .agg (Vt.cells y).toArray), (2, nt level), (3, nt n)] rfl ?_
 refine V_seq ?_
 refine V_region ?_
 refine OI_box 23 (.tmp 0) (.agg (Vt.cells x).toArray) (Vt.cells x) (some 4) (by kernel_rfl) (by kernel_rfl) rfl ?_
 intro b1 w1 e1 hb1 k1 z1
 have hsz2 := Keep.size k1
 replace hK0 := Keep.tr hK0 (Keep.ofNone k1)
 have hb1lt := hb1.lt
 refine OI_box 23 (.tmp 1) (.agg (Vt.cells y).toArray) (Vt.cells y) (some 5) (by kernel_rfl) (by kernel_rfl) rfl ?_
 intro b3 w3 e3 hb3 k3 z3
 have hsz4 := Keep.size k3
 replace hb1 := hb1.keep k3 (fun f => f)
 replace hK0 := Keep.tr hK0 (Keep.ofNone k3)
 have hb3lt := hb3.lt
 refine OI_static 3 [(2, nt level), (3, nt n), (4, pt b1), (5, pt b3)] (by kernel_rfl) ?_
 refine OI_end rfl ?_
 refine X_then ?_
 refine V_seq ?_
 refine V_seq ?_
 refine V_region ?_
 refine OI_agg 23 (.tmp 4) 0 (Vt.cells x) (some 17) (by kernel_rfl) (by kernel_rfl) hb1 (m := 6) (by kernel_rfl) (take_all (Vt.len _)) (Vt.len _) ?_
 refine OI_call { callee := (Callee.value (Operand.func 13)), args := #[(Operand.tmp 17)], argTypes := #[23] } 13 #[.agg (Vt.cells x).toArray] (some 18) (by kernel_rfl) (by kernel_rfl) (by kernel_rfl) (rIs_spec x _) ?_
 rintro _ w5 ⟨rfl, hk6⟩
 refine ⟨_, rfl, ?_⟩
 have hsz7 := Keep.size hk6
 replace hb1 := hb1.keep hk6 (fun f => f)
 replace hb3 := hb3.keep hk6 (fun f => f)
 replace hK0 := Keep.tr hK0 (Keep.ofNone hk6)
 refine OI_static 4 [(2, nt level), (3, nt n), (4, pt b1), (5, pt b3), (20, .bool (!(decide (okV x))))] (by kernel_rfl) ?_
 by_cases hg8 : okV x
 ·
  refine OI_eq [(2, nt level), (3, nt n), (4, pt b1), (5, pt b3), (20, .bool false)] (by first | simp [hg8] | rfl) ?_
  refine OI_agg 23 (.tmp 5) 0 (Vt.cells y) (some 21) (by kernel_rfl) (by kernel_rfl) hb3 (m := 6) (by kernel_rfl) (take_all (Vt.len _)) (Vt.len _) ?_
  refine OI_call { callee := (Callee.value (Operand.func 13)), args := #[(Operand.tmp 21)], argTypes := #[23] } 13 #[.agg (Vt.cells y).toArray] (some 22) (by kernel_rfl) (by kernel_rfl) (by kernel_rfl) (rIs_spec y _) ?_
  rintro _ w9 ⟨rfl, hk10⟩
  refine ⟨_, rfl, ?_⟩
  have hsz11 := Keep.size hk10
  replace hb1 := hb1.keep hk10 (fun f => f)
  replace hb3 := hb3.keep hk10 (fun f => f)
  replace hK0 := Keep.tr hK0 (Keep.ofNone hk10)
  refine OI_static 9 [(2, nt level), (3, nt n), (4, pt b1), (5, pt b3), (25, .bool (!(decide (okV y))))] (by kernel_rfl) ?_
  by_cases hg12 : okV y
  ·
   refine OI_eq [(2, nt level), (3, nt n), (4, pt b1), (5, pt b3), (25, .bool false)] (by first | simp [hg12] | rfl) ?_
   refine OI_agg 23 (.tmp 4) 0 (Vt.cells x) (some 26) (by kernel_rfl) (by kernel_rfl) hb1 (m := 6) (by kernel_rfl) (take_all (Vt.len _)) (Vt.len _) ?_
   refine OI_call { callee := (Callee.value (Operand.func 14)), args := #[(Operand.tmp 26)], argTypes := #[23] } 14 #[.agg (Vt.cells x).toArray] (some 27) (by kernel_rfl) (by kernel_rfl) (by kernel_rfl) (rCapital_spec x _) ?_
   rintro _ w13 ⟨rfl, hk14⟩
   refine ⟨_, rfl, ?_⟩
   have hsz15 := Keep.size hk14
   replace hb1 := hb1.keep hk14 (fun f => f)
   replace hb3 := hb3.keep hk14 (fun f => f)
   replace hK0 := Keep.tr hK0 (Keep.ofNone hk14)
   refine OI_static 14 [(2, nt level), (3, nt n), (4, pt b1), (5, pt b3), (30, .bool (decide (capI x > 1048576)))] (by kernel_rfl) ?_
   by_cases hg16 : capI x > 1048576
   ·
    refine OI_eq [(2, nt level), (3, nt n), (4, pt b1), (5, pt b3), (30, .bool true)] (by first | simp [hg16] | rfl) ?_
    refine OI_static 34 [(2, nt level), (3, nt n), (4, pt b1), (5, pt b3), (50, .bool true)] (by kernel_rfl) ?_
    refine OI_end rfl ?_
    refine X_then ?_
    refine V_true rfl ?_
    refine V_seq ?_
    refine V_region ?_
    refine OI_static 1 [(8, .bool true)] (by kernel_rfl) ?_
    refine OI_end rfl ?_
    refine X_then ?_
    refine V_ret ?_
    refine X_ret_then ?_
    exact X_return (.bool true) rfl ⟨rfl, hK0⟩
   ·
    refine OI_eq [(2, nt level), (3, nt n), (4, pt b1), (5, pt b3), (30, .bool false)] (by first | simp [hg16] | rfl) ?_
    refine OI_agg 23 (.tmp 5) 0 (Vt.cells y) (some 31) (by kernel_rfl) (by kernel_rfl) hb3 (m := 6) (by kernel_rfl) (take_all (Vt.len _)) (Vt.len _) ?_
    refine OI_call { callee := (Callee.value (Operand.func 14)), args := #[(Operand.tmp 31)], argTypes := #[23] } 14 #[.agg (Vt.cells y).toArray] (some 32) (by kernel_rfl) (by kernel_rfl) (by kernel_rfl) (rCapital_spec y _) ?_
    rintro _ w17 ⟨rfl, hk18⟩
    refine ⟨_, rfl, ?_⟩
    have hsz19 := Keep.size hk18
    replace hb1 := hb1.keep hk18 (fun f => f)
    replace hb3 := hb3.keep hk18 (fun f => f)
    replace hK0 := Keep.tr hK0 (Keep.ofNone hk18)
    refine OI_static 19 [(2, nt level), (3, nt n), (4, pt b1), (5, pt b3), (35, .bool (decide (capI y > 1048576)))] (by kernel_rfl) ?_
    by_cases hg20 : capI y > 1048576
    ·
     refine OI_eq [(2, nt level), (3, nt n), (4, pt b1), (5, pt b3), (35, .bool true)] (by first | simp [hg20] | rfl) ?_
     refine OI_static 34 [(2, nt level), (3, nt n), (4, pt b1), (5, pt b3), (50, .bool true)] (by kernel_rfl) ?_
     refine OI_end rfl ?_
     refine X_then ?_
     refine V_true rfl ?_
     refine V_seq ?_
     refine V_region ?_
     refine OI_static 1 [(8, .bool true)] (by kernel_rfl) ?_
     refine OI_end rfl ?_
     refine X_then ?_
     refine V_ret ?_
     refine X_ret_then ?_
     exact X_return (.bool true) rfl ⟨rfl, hK0⟩
    ·
     refine OI_eq [(2, nt level), (3, nt n), (4, pt b1), (5, pt b3), (35, .bool false)] (by first | simp [hg20] | rfl) ?_
     refine OI_static 23 [(2, nt level), (3, nt n), (4, pt b1), (5, pt b3), (39, .bool (decide (n < 0)))] (by kernel_rfl) ?_
     by_cases hg21 : n < 0
     ·
      refine OI_eq [(2, nt level), (3, nt n), (4, pt b1), (5, pt b3), (39, .bool true)] (by first | simp [hg21] | rfl) ?_
      refine OI_static 34 [(2, nt level), (3, nt n), (4, pt b1), (5, pt b3), (50, .bool true)] (by kernel_rfl) ?_
      refine OI_end rfl ?_
      refine X_then ?_
      refine V_true rfl ?_
      refine V_seq ?_
      refine V_region ?_
      refine OI_static 1 [(8, .bool true)] (by kernel_rfl) ?_
      refine OI_end rfl ?_
      refine X_then ?_
      refine V_ret ?_
      refine X_ret_then ?_
      exact X_return (.bool true) rfl ⟨rfl, hK0⟩
     ·
      refine OI_eq [(2, nt level), (3, nt n), (4, pt b1), (5, pt b3), (39, .bool false)] (by first | simp [hg21] | rfl) ?_
      refine OI_static 27 [(2, nt level), (3, nt n), (4, pt b1), (5, pt b3), (43, .bool (decide (n > 1048576)))] (by kernel_rfl) ?_
      by_cases hg22 : n > 1048576
      ·
       refine OI_eq [(2, nt level), (3, nt n), (4, pt b1), (5, pt b3), (43, .bool true)] (by first | simp [hg22] | rfl) ?_
       refine OI_static 34 [(2, nt level), (3, nt n), (4, pt b1), (5, pt b3), (50, .bool true)] (by kernel_rfl) ?_
       refine OI_end rfl ?_
       refine X_then ?_
       refine V_true rfl ?_
       refine V_seq ?_
       refine V_region ?_
       refine OI_static 1 [(8, .bool true)] (by kernel_rfl) ?_
       refine OI_end rfl ?_
       refine X_then ?_
       refine V_ret ?_
       refine X_ret_then ?_
       exact X_return (.bool true) rfl ⟨rfl, hK0⟩
      ·
       refine OI_eq [(2, nt level), (3, nt n), (4, pt b1), (5, pt b3), (43, .bool false)] (by first | simp [hg22] | rfl) ?_
       refine OI_static 31 [(2, nt level), (3, nt n), (4, pt b1), (5, pt b3), (47, .bool (decide (level < 0)))] (by kernel_rfl) ?_
       by_cases hg23 : level < 0
       ·
        refine OI_eq [(2, nt level), (3, nt n), (4, pt b1), (5, pt b3), (47, .bool true)] (by first | simp [hg23] | rfl) ?_
        refine OI_static 34 [(2, nt level), (3, nt n), (4, pt b1), (5, pt b3), (50, .bool true)] (by kernel_rfl) ?_
        refine OI_end rfl ?_
        refine X_then ?_
        refine V_true rfl ?_
        refine V_seq ?_
        refine V_region ?_
        refine OI_static 1 [(8, .bool true)] (by kernel_rfl) ?_
        refine OI_end rfl ?_
        refine X_then ?_
        refine V_ret ?_
        refine X_ret_then ?_
        exact X_return (.bool true) rfl ⟨rfl, hK0⟩
       ·
        refine OI_eq [(2, nt level), (3, nt n), (4, pt b1), (5, pt b3), (47, .bool false)] (by first | simp [hg23] | rfl) ?_
        refine OI_static 34 [(2, nt level), (3, nt n), (4, pt b1), (5, pt b3), (50, .bool (decide (level > 6)))] (by kernel_rfl) ?_
        refine OI_end rfl ?_
        refine X_then ?_
        refine V_if (level > 6) (by kernel_rfl) (fun hc24 => ?_) (fun hc24 => ?_)
        ·
         refine V_seq ?_
         refine V_region ?_
         refine OI_static 1 [(8, .bool true)] (by kernel_rfl) ?_
         refine OI_end rfl ?_
         refine X_then ?_
         refine V_ret ?_
         refine X_ret_then ?_
         exact X_return (.bool true) rfl ⟨rfl, hK0⟩
        ·
         refine V_skip ?_
         refine X_then ?_
         refine V_seq ?_
         refine V_region ?_
         refine OI_slit (E := 3) (zv := nt 0) (sz := 1) (by_ := 8) 28 4 #[(0, (Operand.const (Value.int IntKind.i64 0))), (1, (Operand.const (Value.int IntKind.i64 1048576))), (2, (Operand.const (Value.int IntKind.i64 1048576))), (3, (Operand.const (Value.int IntKind.i64 1048576)))] [nt 0, nt 1048576, nt 1048576, nt 1048576] [nt 0, nt 1048576, nt 1048576, nt 1048576] (some 51) (by kernel_rfl) (by kernel_rfl) (by kernel_rfl) (by omega) rfl (by omega) (by intro v hv; simp only [List.mem_cons, List.not_mem_nil, or_false] at hv; rcases hv with rfl | rfl | rfl | rfl <;> rfl) (by kernel_rfl) rfl ?_
         intro b25 w25 e25 hb25 k25 z25
         have hsz26 := Keep.size k25
         replace hb1 := hb1.keep k25 (fun f => f)
         replace hb3 := hb3.keep k25 (fun f => f)
         replace hK0 := Keep.tr hK0 (Keep.ofNone k25)
         have hb25lt := hb25.lt
         refine OI_call { callee := (Callee.value (Operand.func 15)), args := #[(Operand.tmp 51)], argTypes := #[28] } 15 #[.slice (some ⟨b25, 0, none⟩) 4 4] (some 52) (by kernel_rfl) (by kernel_rfl) (by kernel_rfl) (begin_weak (some ⟨b25, 0, none⟩) 4 [0, 1048576, 1048576, 1048576] _ (slt_blk (xs := [0, 1048576, 1048576, 1048576]) (f := intc) hb25 (fun _ => rfl) rfl).arg (by simp)) ?_
         rintro _ w29 ⟨b31, v32, l33, F34, G35, xv36, yv37, rfl, hb38, ho39, hl40, hk30, hge41, hF42, hG43, hd44⟩
         refine ⟨_, rfl, ?_⟩
         have hsz45 := Keep.size hk30
         replace hb1 := hb1.keep hk30 (fun f => f)
         replace hb3 := hb3.keep hk30 (fun f => f)
         replace hb25 := hb25.keep hk30 (fun f => f)
         replace hK0 := Keep.tr hK0 (Keep.ofNone hk30)
         have hb31lt := hb38.lt
         have own46 : ∀ q, F34 q → w25.heap.size ≤ q ∧ q ≠ b1 ∧ q ≠ b3 ∧ q ≠ b25 ∧ q ≠ b31 := fun q hq => by have h1 := hF42 q hq; omega
         have lt47 := VotT.lt ho39
         have hb31lt := hb38.lt
         have own48 : ∀ q, G35 q → w25.heap.size ≤ q ∧ q ≠ b1 ∧ q ≠ b3 ∧ q ≠ b25 ∧ q ≠ b31 := fun q hq => by have h1 := hG43 q hq; omega
         have lt49 := Led.lt hl40
         replace hl40 : Led G35 w29 l33 bkX ([] : List Ci) := by rw [bk0] at hl40; exact hl40
         refine OI_static 3 [(2, nt level), (3, nt n), (4, pt b1), (5, pt b3), (9, pt b31)] (by kernel_rfl) ?_
         refine OI_end rfl ?_
         refine X_then ?_
         refine V_seq ?_
         refine V_seq ?_
         refine V_region ?_
         refine OI_static 2 [(2, nt level), (3, nt n), (4, pt b1), (5, pt b3), (9, pt b31), (54, .bool false)] (by kernel_rfl) ?_
         refine OI_end rfl ?_
         refine X_then ?_
         refine V_false rfl ?_
         refine V_skip ?_
         refine X_then ?_
         refine V_seq ?_
         refine V_region ?_
         refine OI_static 3 [(2, nt level), (3, nt n), (4, pt b1), (5, pt b3), (9, pt b31), (57, .pointer (some ⟨b31, 1, none⟩))] (by kernel_rfl) ?_
         refine OI_cell 31 (.tmp 57) 1 (pt v32) (some 58) (by kernel_rfl) (by kernel_rfl) hb38 (m := 1) (by kernel_rfl) rfl ?_
         refine OI_call { callee := (Callee.value (Operand.func 16)), args := #[(Operand.tmp 58), (Operand.const (Value.int IntKind.i64 0)), (Operand.const (Value.int IntKind.i64 0))], argTypes := #[31, 3, 3] } 16 #[pt v32, nt 0, nt 0] (some 59) (by kernel_rfl) (by kernel_rfl) (by kernel_rfl) (open_specT F34 v32 VS.zero 0 0 _ ho39) ?_
         rintro _ w52 ⟨rfl, ⟨F54, ho55, hfr56⟩, hk53⟩
         refine ⟨_, rfl, ?_⟩
         have hsz57 := Keep.size hk53
         replace hb1 := hb1.keep hk53 (fun hs => by have h1 := own46 _ hs; have h2 := lt47 _ hs; omega)
         replace hb3 := hb3.keep hk53 (fun hs => by have h1 := own46 _ hs; have h2 := lt47 _ hs; omega)
         replace hb38 := hb38.keep hk53 (fun hs => by have h1 := own46 _ hs; have h2 := lt47 _ hs; omega)
         replace hK0 := Keep.fresh hK0 hk53 (by intro i hi hs; first | exact hs | (exfalso; have h1 := own46 i hs; have h2 := lt47 i hs; omega) | (have h1 := own46 i hs; have h2 := lt47 i hs; show _ ∨ _; omega))
         replace hl40 := Led.keep hl40 hk53 (fun q hq hs => hd44 q hs hq)
         have own59 : ∀ q, F54 q → w25.heap.size ≤ q ∧ q ≠ b1 ∧ q ≠ b3 ∧ q ≠ b31 := fun q hq => by rcases hfr56 q hq with h | h; (have h1 := own46 q h; have h2 := lt47 q h; omega); omega
         have lt58 := VotT.lt ho55
         have dis60 : ∀ q, F54 q → ¬ G35 q := fun q h1 h2 => by rcases hfr56 q h1 with h | h; exact hd44 q h h2; (have h4 := lt49 q h2; omega)
         replace ho55 : VotT F54 w52 v32 twS1 := by rw [show openS VS.zero 0 0 = twS1 from rfl] at ho55; exact ho55
         refine OI_end rfl ?_
         refine X_then ?_
         refine V_seq ?_
         refine V_seq ?_
         refine V_draws (acts [9]) none_ [[0, 1, 2, 3, 4, 5, 6, 7, 8, 9, 10]] (by kernel_rfl) (by repeat first | exact sure_body (by rintro _ _ ⟨h, _⟩; exact ⟨_, h⟩) | refine sure_then ?_ | refine sure_block ?_ | refine sure_join ?_) (by kernel_rfl) ?_
         intro w62 hk61 he63 L hL64
         have hsz65 := Keep.size hk61
         replace hb1 := hb1.keep hk61 (fun f => f)
         replace hb3 := hb3.keep hk61 (fun f => f)
         replace hb38 := hb38.keep hk61 (fun f => f)
         replace hK0 := Keep.tr hK0 (Keep.ofNone hk61)
         replace hl40 := Led.keep hl40 hk61 (fun _ _ f => f)
         replace ho55 := VotT.keep ho55 hk61 (fun _ _ f => f)
         have qhb1 := hb1
         have qhb3 := hb3
         have qhb38 := hb38
         have K66 : Keep none_ w62 w62 := Keep.refl _ _
         obtain rfl := List.mem_singleton.1 hL64
         refine GI_static [3, 4, 5, 6, 7, 8, 9, 10] [(2, nt level), (3, nt n), (4, pt b1), (5, pt b3), (9, pt b31), (62, .pointer (some ⟨b31, 1, none⟩))] (by kernel_rfl) ?_
         refine GI_cell 31 (.tmp 62) 1 (pt v32) (some 63) (by kernel_rfl) (by kernel_rfl) (by kernel_rfl) qhb38 (fun f => f) (m := 1) (by kernel_rfl) rfl ?_
         refine GI_static [7, 8, 9, 10] [(2, nt level), (3, nt n), (4, pt b1), (5, pt b3), (9, pt b31), (63, pt v32), (66, pt b31)] (by kernel_rfl) ?_
         refine GI_cell 30 (.tmp 66) 0 (pt l33) (some 67) (by kernel_rfl) (by kernel_rfl) (by kernel_rfl) qhb38 (fun f => f) (m := 1) (by kernel_rfl) rfl ?_
         refine GI_agg 23 (.tmp 4) 0 (Vt.cells x) (some 68) (by kernel_rfl) (by kernel_rfl) (by kernel_rfl) qhb1 (fun f => f) (m := 6) (by kernel_rfl) (take_all (Vt.len _)) (Vt.len _) ?_
         obtain ⟨s2a, s2b, s2c⟩ := bk2 (x := x) hg8 (by omega)
         refine GI_call0 { callee := (Callee.value (Operand.func 18)), args := #[(Operand.tmp 63), (Operand.tmp 67), (Operand.const (Value.int IntKind.i64 1)), (Operand.const (Value.int IntKind.i64 0)), (Operand.tmp 68)], argTypes := #[31, 30, 3, 3, 23] } 18 #[pt v32, pt l33, nt 1, nt 0, .agg (Vt.cells x).toArray] (some 69) (by kernel_rfl) (by kernel_rfl) (by kernel_rfl) (by kernel_rfl) (by kernel_rfl) (vote_spec F54 G35 v32 l33 twS1 bkX ([] : List Ci) 1 0 x _ ho55 hl40 dis60 (by first | decide | exact Nat.lt_trans (raise_lt (m := 1) (by decide) _ _ _) (by decide) | exact Nat.lt_trans (raise_lt (raise_lt (m := 1) (by decide) _ _ _) _ _ _) (by decide) | exact Nat.lt_trans (raise_lt (raise_lt (raise_lt (m := 1) (by decide) _ _ _) _ _ _) _ _ _) (by decide) | exact Nat.lt_trans (raise_lt (raise_lt (raise_lt (raise_lt (m := 1) (by decide) _ _ _) _ _ _) _ _ _) _ _ _) (by decide))) ?_
         rintro _ w69 ⟨rfl, ⟨F71, F74, ho72, ho75, hfr73, hfr76, hdis77⟩, hk70⟩
         refine ⟨_, rfl, ?_⟩
         have hsz78 := Keep.size hk70
         replace hb1 := hb1.keep hk70 (fun hs => by rcases hs with hs | hs; (have u0 := own59 _ hs; have u1 := lt58 _ hs; omega); (have u0 := own48 _ hs; have u1 := lt49 _ hs; omega))
         replace hb3 := hb3.keep hk70 (fun hs => by rcases hs with hs | hs; (have u0 := own59 _ hs; have u1 := lt58 _ hs; omega); (have u0 := own48 _ hs; have u1 := lt49 _ hs; omega))
         replace hb38 := hb38.keep hk70 (fun hs => by rcases hs with hs | hs; (have u0 := own59 _ hs; have u1 := lt58 _ hs; omega); (have u0 := own48 _ hs; have u1 := lt49 _ hs; omega))
         replace hK0 := Keep.fresh hK0 hk70 (by intro i hi hs; first | exact hs | (rcases hs with hs | hs; (have u0 := own59 i hs; have u1 := lt58 i hs; omega); (have u0 := own48 i hs; have u1 := lt49 i hs; omega)))
         have own80 : ∀ q, F71 q → w25.heap.size ≤ q ∧ q ≠ b1 ∧ q ≠ b3 ∧ q ≠ b31 := fun q hq => by rcases hfr73 q hq with h | h; (have h1 := own59 q h; have h2 := lt58 q h; omega); omega
         have lt79 := VotT.lt ho72
         have own82 : ∀ q, F74 q → w25.heap.size ≤ q ∧ q ≠ b1 ∧ q ≠ b3 ∧ q ≠ b31 := fun q hq => by rcases hfr76 q hq with h | h; (have h1 := own48 q h; have h2 := lt49 q h; omega); omega
         have lt81 := Led.lt ho75
         replace ho72 : VotT F71 w69 v32 (bkS2 x) := by rw [s2b] at ho72; exact ho72
         replace ho75 : Led F74 w69 l33 bkX (raiseC ([] : List Ci) 1 0 (capI x)) := by rw [s2c _] at ho75; exact ho75
         refine GI_pick [(2, nt level), (3, nt n), (4, pt b1), (5, pt b3), (9, pt b31), (69, nt (voteE bkX twS1 1 0 x))] (by kernel_rfl) ?_
         refine GI_eq [(2, nt level), (3, nt n), (4, pt b1), (5, pt b3), (9, pt b31), (69, nt 0)] (by rw [s2a]) ?_
         refine GI_static [] [(2, nt level), (3, nt n), (4, pt b1), (5, pt b3), (9, pt b31), (70, .bool false)] (by kernel_rfl) ?_
         refine GI_end ?_
         refine X_then ?_
         refine V_false rfl ?_
         refine V_skip ?_
         refine X_then ?_
         refine V_seq ?_
         refine V_region ?_
         refine OI_static 3 [(2, nt level), (3, nt n), (4, pt b1), (5, pt b3), (9, pt b31), (73, .pointer (some ⟨b31, 1, none⟩))] (by kernel_rfl) ?_
         refine OI_cell 31 (.tmp 73) 1 (pt v32) (some 74) (by kernel_rfl) (by kernel_rfl) hb38 (m := 1) (by kernel_rfl) rfl ?_
         refine OI_call { callee := (Callee.value (Operand.func 20)), args := #[(Operand.tmp 74), (Operand.const (Value.int IntKind.i64 0))], argTypes := #[31, 3] } 20 #[pt v32, nt 0] (some 75) (by kernel_rfl) (by kernel_rfl) (by kernel_rfl) (tally_spec F71 v32 (bkS2 x) 0 _ (ho72).1) ?_
         rintro _ w83 ⟨rfl, hk84⟩
         refine ⟨_, rfl, ?_⟩
         have hsz85 := Keep.size hk84
         replace hb1 := hb1.keep hk84 (fun f => f)
         replace hb3 := hb3.keep hk84 (fun f => f)
         replace hb38 := hb38.keep hk84 (fun f => f)
         replace hK0 := Keep.tr hK0 (Keep.ofNone hk84)
         replace ho72 := VotT.keep ho72 hk84 (fun _ _ f => f)
         replace ho75 := Led.keep ho75 hk84 (fun _ _ f => f)
         refine OI_pick [(2, nt level), (3, nt n), (4, pt b1), (5, pt b3), (9, pt b31), (75, .agg (Tly.cells (tallyT (bkS2 x) 0)).toArray)] (by kernel_rfl) ?_
         refine OI_eq [(2, nt level), (3, nt n), (4, pt b1), (5, pt b3), (9, pt b31), (75, .agg (Tly.cells (addT Tly.zero (gainT x ⟨0, 0⟩))).toArray)] (by rw [show tallyT (bkS2 x) 0 = addT Tly.zero (gainT x ⟨0, 0⟩) by kernel_rfl]) ?_
         refine OI_alloc 43 (.agg #[nt 0, nt 0, nt 0]) [nt 0, nt 0, nt 0] (some 10) (by kernel_rfl) (by kernel_rfl) (by kernel_rfl) ?_
         intro b86 w86 e86 hb86 k86 z86
         have hsz87 := Keep.size k86
         replace hb1 := hb1.keep k86 (fun f => f)
         replace hb3 := hb3.keep k86 (fun f => f)
         replace hb38 := hb38.keep k86 (fun f => f)
         replace hK0 := Keep.tr hK0 (Keep.ofNone k86)
         replace ho72 := VotT.keep ho72 k86 (fun _ _ f => f)
         replace ho75 := Led.keep ho75 k86 (fun _ _ f => f)
         have hb86lt := hb86.lt
         refine OI_set (m := 3) (kd := true) 43 (.tmp 10) (.tmp 75) 0 (.agg (Tly.cells (addT Tly.zero (gainT x ⟨0, 0⟩))).toArray) (Tly.cells (addT Tly.zero (gainT x ⟨0, 0⟩))) none (by kernel_rfl) (by kernel_rfl) (by kernel_rfl) hb86 (by kernel_rfl) rfl (Tly.len _) (Nat.le_of_ble_eq_true (by kernel_rfl)) (Tly.one _) ?_
         intro w88 hb86_91 hk89 hz90
         replace hb86_91 : Blk w88 b86 (Tly.cells (addT Tly.zero (gainT x ⟨0, 0⟩))) 43 := (by rwa [over_whole (by rw [Tly.len]; rfl)] at hb86_91)
         have hsz92 := Keep.size hk89
         replace hb1 := hb1.keep hk89 (by show ¬ (_ = _); omega)
         replace hb3 := hb3.keep hk89 (by show ¬ (_ = _); omega)
         replace hb38 := hb38.keep hk89 (by show ¬ (_ = _); omega)
         replace hK0 := Keep.fresh hK0 hk89 (by intro i hi hs; first | exact hs | exact Or.inl hs | exact Or.inr hs | (exfalso; have hs2 : i = b86 := hs; omega))
         replace ho72 := VotT.keep ho72 hk89 (fun q hq hs => by have hs : q = b86 := hs; have g0 := own80 q hq; have g1 := lt79 q hq; omega)
         replace ho75 := Led.keep ho75 hk89 (fun q hq hs => by have hs : q = b86 := hs; have g0 := own82 q hq; have g1 := lt81 q hq; omega)
         refine OI_end rfl ?_
         refine X_then ?_
         refine V_seq ?_
         refine V_draws (acts [9]) none_ [[0, 1, 2, 3, 4, 5, 6, 7, 8, 9, 10]] (by kernel_rfl) (by repeat first | exact sure_body (by rintro _ _ ⟨h, _⟩; exact ⟨_, h⟩) | refine sure_then ?_ | refine sure_block ?_ | refine sure_join ?_) (by kernel_rfl) ?_
         intro w94 hk93 he95 L hL96
         have hsz97 := Keep.size hk93
         replace hb1 := hb1.keep hk93 (fun f => f)
         replace hb3 := hb3.keep hk93 (fun f => f)
         replace hb38 := hb38.keep hk93 (fun f => f)
         replace hb86_91 := hb86_91.keep hk93 (fun f => f)
         replace hK0 := Keep.tr hK0 (Keep.ofNone hk93)
         replace ho72 := VotT.keep ho72 hk93 (fun _ _ f => f)
         replace ho75 := Led.keep ho75 hk93 (fun _ _ f => f)
         have qhb1 := hb1
         have qhb3 := hb3
         have qhb38 := hb38
         have qhb86_91 := hb86_91
         have K98 : Keep none_ w94 w94 := Keep.refl _ _
         obtain rfl := List.mem_singleton.1 hL96
         refine GI_static [3, 4, 5, 6, 7, 8, 9, 10] [(2, nt level), (3, nt n), (4, pt b1), (5, pt b3), (9, pt b31), (10, pt b86), (78, .pointer (some ⟨b31, 1, none⟩))] (by kernel_rfl) ?_
         refine GI_cell 31 (.tmp 78) 1 (pt v32) (some 79) (by kernel_rfl) (by kernel_rfl) (by kernel_rfl) qhb38 (fun f => f) (m := 1) (by kernel_rfl) rfl ?_
         refine GI_static [7, 8, 9, 10] [(2, nt level), (3, nt n), (4, pt b1), (5, pt b3), (9, pt b31), (10, pt b86), (79, pt v32), (82, pt b31)] (by kernel_rfl) ?_
         refine GI_cell 30 (.tmp 82) 0 (pt l33) (some 83) (by kernel_rfl) (by kernel_rfl) (by kernel_rfl) qhb38 (fun f => f) (m := 1) (by kernel_rfl) rfl ?_
         refine GI_agg 23 (.tmp 5) 0 (Vt.cells y) (some 84) (by kernel_rfl) (by kernel_rfl) (by kernel_rfl) qhb3 (fun f => f) (m := 6) (by kernel_rfl) (take_all (Vt.len _)) (Vt.len _) ?_
         obtain ⟨s3a, s3b, s3c⟩ := bk3 (x := x) (y := y) hg12 (by omega)
         refine GI_call0 { callee := (Callee.value (Operand.func 18)), args := #[(Operand.tmp 79), (Operand.tmp 83), (Operand.const (Value.int IntKind.i64 2)), (Operand.const (Value.int IntKind.i64 0)), (Operand.tmp 84)], argTypes := #[31, 30, 3, 3, 23] } 18 #[pt v32, pt l33, nt 2, nt 0, .agg (Vt.cells y).toArray] (some 85) (by kernel_rfl) (by kernel_rfl) (by kernel_rfl) (by kernel_rfl) (by kernel_rfl) (vote_spec F71 F74 v32 l33 (bkS2 x) bkX (raiseC ([] : List Ci) 1 0 (capI x)) 2 0 y _ ho72 ho75 hdis77 (by first | decide | exact Nat.lt_trans (raise_lt (m := 1) (by decide) _ _ _) (by decide) | exact Nat.lt_trans (raise_lt (raise_lt (m := 1) (by decide) _ _ _) _ _ _) (by decide) | exact Nat.lt_trans (raise_lt (raise_lt (raise_lt (m := 1) (by decide) _ _ _) _ _ _) _ _ _) (by decide) | exact Nat.lt_trans (raise_lt (raise_lt (raise_lt (raise_lt (m := 1) (by decide) _ _ _) _ _ _) _ _ _) _ _ _) (by decide))) ?_
         rintro _ w101 ⟨rfl, ⟨F103, F106, ho104, ho107, hfr105, hfr108, hdis109⟩, hk102⟩
         refine ⟨_, rfl, ?_⟩
         have hsz110 := Keep.size hk102
         replace hb1 := hb1.keep hk102 (fun hs => by rcases hs with hs | hs; (have u0 := own80 _ hs; have u1 := lt79 _ hs; omega); (have u0 := own82 _ hs; have u1 := lt81 _ hs; omega))
         replace hb3 := hb3.keep hk102 (fun hs => by rcases hs with hs | hs; (have u0 := own80 _ hs; have u1 := lt79 _ hs; omega); (have u0 := own82 _ hs; have u1 := lt81 _ hs; omega))
         replace hb38 := hb38.keep hk102 (fun hs => by rcases hs with hs | hs; (have u0 := own80 _ hs; have u1 := lt79 _ hs; omega); (have u0 := own82 _ hs; have u1 := lt81 _ hs; omega))
         replace hb86_91 := hb86_91.keep hk102 (fun hs => by rcases hs with hs | hs; (have u0 := own80 _ hs; have u1 := lt79 _ hs; omega); (have u0 := own82 _ hs; have u1 := lt81 _ hs; omega))
         replace hK0 := Keep.fresh hK0 hk102 (by intro i hi hs; first | exact hs | (rcases hs with hs | hs; (have u0 := own80 i hs; have u1 := lt79 i hs; omega); (have u0 := own82 i hs; have u1 := lt81 i hs; omega)))
         have own112 : ∀ q, F103 q → w25.heap.size ≤ q ∧ q ≠ b1 ∧ q ≠ b3 ∧ q ≠ b31 ∧ q ≠ b86 := fun q hq => by rcases hfr105 q hq with h | h; (have h1 := own80 q h; have h2 := lt79 q h; omega); omega
         have lt111 := VotT.lt ho104
         have own114 : ∀ q, F106 q → w25.heap.size ≤ q ∧ q ≠ b1 ∧ q ≠ b3 ∧ q ≠ b31 ∧ q ≠ b86 := fun q hq => by rcases hfr108 q hq with h | h; (have h1 := own82 q h; have h2 := lt81 q h; omega); omega
         have lt113 := Led.lt ho107
         replace ho104 : VotT F103 w101 v32 (bkS3 x y) := by rw [s3b] at ho104; exact ho104
         replace ho107 : Led F106 w101 l33 bkX (raiseC (raiseC ([] : List Ci) 1 0 (capI x)) 2 0 (capI y)) := by rw [s3c _] at ho107; exact ho107
         refine GI_pick [(2, nt level), (3, nt n), (4, pt b1), (9, pt b31), (10, pt b86), (85, nt (voteE bkX (bkS2 x) 2 0 y))] (by kernel_rfl) ?_
         refine GI_eq [(2, nt level), (3, nt n), (4, pt b1), (9, pt b31), (10, pt b86), (85, nt 0)] (by rw [s3a]) ?_
         refine GI_static [] [(2, nt level), (3, nt n), (4, pt b1), (9, pt b31), (10, pt b86), (11, nt 0)] (by kernel_rfl) ?_
         refine GI_end ?_
         refine X_then ?_
         refine V_seq ?_
         refine V_region ?_
         refine OI_static 3 [(2, nt level), (3, nt n), (4, pt b1), (9, pt b31), (10, pt b86), (11, nt 0), (88, .pointer (some ⟨b31, 1, none⟩))] (by kernel_rfl) ?_
         refine OI_cell 31 (.tmp 88) 1 (pt v32) (some 89) (by kernel_rfl) (by kernel_rfl) hb38 (m := 1) (by kernel_rfl) rfl ?_
         obtain ⟨s4a, s4b⟩ := bk4 x y 0
         refine OI_call { callee := (Callee.value (Operand.func 25)), args := #[(Operand.tmp 89), (Operand.const (Value.int IntKind.i64 2)), (Operand.const (Value.int IntKind.i64 0)), (Operand.const (Value.int IntKind.i64 0))], argTypes := #[31, 3, 3, 3] } 25 #[pt v32, nt 2, nt 0, nt 0] (some 90) (by kernel_rfl) (by kernel_rfl) (by kernel_rfl) (unvote_specT F103 v32 (bkS3 x y) 2 0 0 _ ho104) ?_
         rintro _ w117 ⟨rfl, ⟨F119, ho120, hfr121⟩, hk118⟩
         refine ⟨_, rfl, ?_⟩
         have hsz122 := Keep.size hk118
         replace hb1 := hb1.keep hk118 (fun hs => by have h1 := own112 _ hs; have h2 := lt111 _ hs; omega)
         replace hb3 := hb3.keep hk118 (fun hs => by have h1 := own112 _ hs; have h2 := lt111 _ hs; omega)
         replace hb38 := hb38.keep hk118 (fun hs => by have h1 := own112 _ hs; have h2 := lt111 _ hs; omega)
         replace hb86_91 := hb86_91.keep hk118 (fun hs => by have h1 := own112 _ hs; have h2 := lt111 _ hs; omega)
         replace hK0 := Keep.fresh hK0 hk118 (by intro i hi hs; first | exact hs | (exfalso; have h1 := own112 i hs; have h2 := lt111 i hs; omega) | (have h1 := own112 i hs; have h2 := lt111 i hs; show _ ∨ _; omega))
         replace ho107 := Led.keep ho107 hk118 (fun q hq hs => hdis109 q hs hq)
         have own124 : ∀ q, F119 q → w25.heap.size ≤ q ∧ q ≠ b1 ∧ q ≠ b3 ∧ q ≠ b31 ∧ q ≠ b86 := fun q hq => by rcases hfr121 q hq with h | h; (have h1 := own112 q h; have h2 := lt111 q h; omega); omega
         have lt123 := VotT.lt ho120
         have dis125 : ∀ q, F119 q → ¬ F106 q := fun q h1 h2 => by rcases hfr121 q h1 with h | h; exact hdis109 q h h2; (have h4 := lt113 q h2; omega)
         replace ho120 : VotT F119 w117 v32 (bkS2 x) := by rw [s4b] at ho120; exact ho120
         refine OI_pick [(2, nt level), (3, nt n), (4, pt b1), (9, pt b31), (10, pt b86), (11, nt 0), (90, nt (unvE (bkS3 x y) 2 0))] (by kernel_rfl) ?_
         refine OI_eq [(2, nt level), (3, nt n), (4, pt b1), (9, pt b31), (10, pt b86), (11, nt 0), (90, nt 0)] (by rw [s4a]) ?_
         refine OI_static 6 [(2, nt level), (3, nt n), (4, pt b1), (9, pt b31), (10, pt b86), (11, nt 0), (12, nt 0)] (by kernel_rfl) ?_
         refine OI_end rfl ?_
         refine X_then ?_
         refine V_seq ?_
         refine V_seq ?_
         refine V_draws (acts [9]) none_ [[0, 1, 2, 3, 4, 5, 6, 7, 8, 9, 10, 11, 12]] (by kernel_rfl) (by repeat first | exact sure_body (by rintro _ _ ⟨h, _⟩; exact ⟨_, h⟩) | refine sure_then ?_ | refine sure_block ?_ | refine sure_join ?_) (by kernel_rfl) ?_
         intro w127 hk126 he128 L hL129
         have hsz130 := Keep.size hk126
         replace hb1 := hb1.keep hk126 (fun f => f)
         replace hb3 := hb3.keep hk126 (fun f => f)
         replace hb38 := hb38.keep hk126 (fun f => f)
         replace hb86_91 := hb86_91.keep hk126 (fun f => f)
         replace hK0 := Keep.tr hK0 (Keep.ofNone hk126)
         replace ho107 := Led.keep ho107 hk126 (fun _ _ f => f)
         replace ho120 := VotT.keep ho120 hk126 (fun _ _ f => f)
         have qhb1 := hb1
         have qhb3 := hb3
         have qhb38 := hb38
         have qhb86_91 := hb86_91
         have K131 : Keep none_ w127 w127 := Keep.refl _ _
         obtain rfl := List.mem_singleton.1 hL129
         refine GI_static [8, 9, 10, 11, 12] [(2, nt level), (3, nt n), (4, pt b1), (9, pt b31), (10, pt b86), (95, .bool false), (98, .pointer (some ⟨b31, 1, none⟩))] (by kernel_rfl) ?_
         refine GI_cell 31 (.tmp 98) 1 (pt v32) (some 99) (by kernel_rfl) (by kernel_rfl) (by kernel_rfl) qhb38 (fun f => f) (m := 1) (by kernel_rfl) rfl ?_
         refine GI_call { callee := (Callee.value (Operand.func 20)), args := #[(Operand.tmp 99), (Operand.const (Value.int IntKind.i64 0))], argTypes := #[31, 3] } 20 #[pt v32, nt 0] (some 100) (by kernel_rfl) (by kernel_rfl) (by kernel_rfl) (by kernel_rfl) (tally_spec F119 v32 (bkS2 x) 0 _ (ho120).1) ?_
         rintro _ w132 ⟨rfl, hk133⟩
         have K134 := K131.tr (Keep.ofNone hk133)
         refine ⟨_, rfl, K134, ?_⟩
         have hzK134 := Keep.size K134
         have hsz135 := Keep.size hk133
         replace hb1 := hb1.keep hk133 (fun f => f)
         replace hb3 := hb3.keep hk133 (fun f => f)
         replace hb38 := hb38.keep hk133 (fun f => f)
         replace hb86_91 := hb86_91.keep hk133 (fun f => f)
         replace hK0 := Keep.tr hK0 (Keep.ofNone hk133)
         replace ho107 := Led.keep ho107 hk133 (fun _ _ f => f)
         replace ho120 := VotT.keep ho120 hk133 (fun _ _ f => f)
         refine GI_pick [(2, nt level), (3, nt n), (4, pt b1), (9, pt b31), (10, pt b86), (95, .bool false), (100, .agg (Tly.cells (tallyT (bkS2 x) 0)).toArray)] (by kernel_rfl) ?_
         refine GI_eq [(2, nt level), (3, nt n), (4, pt b1), (9, pt b31), (10, pt b86), (95, .bool false), (100, .agg (Tly.cells (addT Tly.zero (gainT x ⟨0, 0⟩))).toArray)] (by rw [show tallyT (bkS2 x) 0 = addT Tly.zero (gainT x ⟨0, 0⟩) by kernel_rfl]) ?_
         refine GI_agg 43 (.tmp 10) 0 (Tly.cells (addT Tly.zero (gainT x ⟨0, 0⟩))) (some 101) (by kernel_rfl) (by kernel_rfl) (by kernel_rfl) qhb86_91 (fun f => f) (m := 3) (by kernel_rfl) (take_all (Tly.len _)) (Tly.len _) ?_
         refine GI_pure (some 102) ((Op.binOp BinOp.neq 43 (Operand.tmp 100) (Operand.tmp 101) 43)) (by kernel_rfl) (by kernel_rfl) (pure_neq_same (xs := Tly.cells (addT Tly.zero (gainT x ⟨0, 0⟩))) (by kernel_rfl) (by kernel_rfl) (by kernel_rfl) (by kernel_rfl)) ?_
         refine GI_static [] [(2, nt level), (3, nt n), (4, pt b1), (9, pt b31), (10, pt b86), (103, .bool false)] (by kernel_rfl) ?_
         refine GI_end ?_
         refine X_then ?_
         refine V_false rfl ?_
         refine V_skip ?_
         refine X_then ?_
         refine V_seq ?_
         refine V_draws (acts [10]) none_ [[0, 1, 2, 3, 4, 5, 6, 7, 8, 9, 10, 11]] (by kernel_rfl) (by repeat first | exact sure_body (by rintro _ _ ⟨h, _⟩; exact ⟨_, h⟩) | refine sure_then ?_ | refine sure_block ?_ | refine sure_join ?_) (by kernel_rfl) ?_
         intro w137 hk136 he138 L hL139
         have hsz140 := Keep.size hk136
         replace hb1 := hb1.keep hk136 (fun f => f)
         replace hb3 := hb3.keep hk136 (fun f => f)
         replace hb38 := hb38.keep hk136 (fun f => f)
         replace hb86_91 := hb86_91.keep hk136 (fun f => f)
         replace hK0 := Keep.tr hK0 (Keep.ofNone hk136)
         replace ho107 := Led.keep ho107 hk136 (fun _ _ f => f)
         replace ho120 := VotT.keep ho120 hk136 (fun _ _ f => f)
         have qhb1 := hb1
         have qhb3 := hb3
         have qhb38 := hb38
         have qhb86_91 := hb86_91
         have K141 : Keep none_ w137 w137 := Keep.refl _ _
         obtain rfl := List.mem_singleton.1 hL139
         refine GI_static [3, 4, 5, 6, 7, 8, 9, 10, 11] [(2, nt level), (3, nt n), (4, pt b1), (9, pt b31), (10, pt b86), (106, .pointer (some ⟨b31, 1, none⟩))] (by kernel_rfl) ?_
         refine GI_cell 31 (.tmp 106) 1 (pt v32) (some 107) (by kernel_rfl) (by kernel_rfl) (by kernel_rfl) qhb38 (fun f => f) (m := 1) (by kernel_rfl) rfl ?_
         refine GI_static [7, 8, 9, 10, 11] [(2, nt level), (3, nt n), (4, pt b1), (9, pt b31), (10, pt b86), (107, pt v32), (110, pt b31)] (by kernel_rfl) ?_
         refine GI_cell 30 (.tmp 110) 0 (pt l33) (some 111) (by kernel_rfl) (by kernel_rfl) (by kernel_rfl) qhb38 (fun f => f) (m := 1) (by kernel_rfl) rfl ?_
         refine GI_static [10, 11] [(2, nt level), (3, nt n), (4, pt b1), (9, pt b31), (10, pt b86), (107, pt v32), (111, pt l33), (112, nt level), (113, nt n)] (by kernel_rfl) ?_
         obtain ⟨s5a, s5b, s5c⟩ := bk5 (x := x) (level := level) (n := n) (by omega) (by omega)
         refine GI_call0 { callee := (Callee.value (Operand.func 17)), args := #[(Operand.tmp 107), (Operand.tmp 111), (Operand.const (Value.int IntKind.i64 3)), (Operand.const (Value.int IntKind.i64 0)), (Operand.const (Value.int IntKind.i64 1)), (Operand.tmp 112), (Operand.tmp 113)], argTypes := #[31, 30, 3, 3, 3, 3, 3] } 17 #[pt v32, pt l33, nt 3, nt 0, nt 1, nt level, nt n] (some 114) (by kernel_rfl) (by kernel_rfl) (by kernel_rfl) (by kernel_rfl) (by kernel_rfl) (delegate_spec F119 F106 v32 l33 (bkS2 x) bkX (raiseC (raiseC ([] : List Ci) 1 0 (capI x)) 2 0 (capI y)) 3 0 1 level n _ ho120 ho107 dis125 (by first | decide | exact Nat.lt_trans (raise_lt (m := 1) (by decide) _ _ _) (by decide) | exact Nat.lt_trans (raise_lt (raise_lt (m := 1) (by decide) _ _ _) _ _ _) (by decide) | exact Nat.lt_trans (raise_lt (raise_lt (raise_lt (m := 1) (by decide) _ _ _) _ _ _) _ _ _) (by decide) | exact Nat.lt_trans (raise_lt (raise_lt (raise_lt (raise_lt (m := 1) (by decide) _ _ _) _ _ _) _ _ _) _ _ _) (by decide))) ?_
         rintro _ w144 ⟨rfl, ⟨F146, F149, ho147, ho150, hfr148, hfr151, hdis152⟩, hk145⟩
         refine ⟨_, rfl, ?_⟩
         have hsz153 := Keep.size hk145
         replace hb1 := hb1.keep hk145 (fun hs => by rcases hs with hs | hs; (have u0 := own124 _ hs; have u1 := lt123 _ hs; omega); (have u0 := own114 _ hs; have u1 := lt113 _ hs; omega))
         replace hb3 := hb3.keep hk145 (fun hs => by rcases hs with hs | hs; (have u0 := own124 _ hs; have u1 := lt123 _ hs; omega); (have u0 := own114 _ hs; have u1 := lt113 _ hs; omega))
         replace hb38 := hb38.keep hk145 (fun hs => by rcases hs with hs | hs; (have u0 := own124 _ hs; have u1 := lt123 _ hs; omega); (have u0 := own114 _ hs; have u1 := lt113 _ hs; omega))
         replace hb86_91 := hb86_91.keep hk145 (fun hs => by rcases hs with hs | hs; (have u0 := own124 _ hs; have u1 := lt123 _ hs; omega); (have u0 := own114 _ hs; have u1 := lt113 _ hs; omega))
         replace hK0 := Keep.fresh hK0 hk145 (by intro i hi hs; first | exact hs | (rcases hs with hs | hs; (have u0 := own124 i hs; have u1 := lt123 i hs; omega); (have u0 := own114 i hs; have u1 := lt113 i hs; omega)))
         have own155 : ∀ q, F146 q → w25.heap.size ≤ q ∧ q ≠ b1 ∧ q ≠ b3 ∧ q ≠ b31 ∧ q ≠ b86 := fun q hq => by rcases hfr148 q hq with h | h; (have h1 := own124 q h; have h2 := lt123 q h; omega); omega
         have lt154 := VotT.lt ho147
         have own157 : ∀ q, F149 q → w25.heap.size ≤ q ∧ q ≠ b1 ∧ q ≠ b3 ∧ q ≠ b31 ∧ q ≠ b86 := fun q hq => by rcases hfr151 q hq with h | h; (have h1 := own114 q h; have h2 := lt113 q h; omega); omega
         have lt156 := Led.lt ho150
         replace ho147 : VotT F146 w144 v32 (bkS4 x level n) := by rw [s5b] at ho147; exact ho147
         replace ho150 : Led F149 w144 l33 bkX (raiseC (raiseC (raiseC ([] : List Ci) 1 0 (capI x)) 2 0 (capI y)) 3 0 n) := by rw [s5c _] at ho150; exact ho150
         refine GI_pick [(2, nt level), (3, nt n), (4, pt b1), (9, pt b31), (10, pt b86), (114, nt (delE bkX (bkS2 x) 3 0 1 level n))] (by kernel_rfl) ?_
         refine GI_eq [(2, nt level), (3, nt n), (4, pt b1), (9, pt b31), (10, pt b86), (114, nt 0)] (by rw [s5a]) ?_
         refine GI_static [] [(2, nt level), (3, nt n), (4, pt b1), (9, pt b31), (10, pt b86), (13, nt 0)] (by kernel_rfl) ?_
         refine GI_end ?_
         refine X_then ?_
         refine V_seq ?_
         refine V_region ?_
         refine OI_static 3 [(2, nt level), (3, nt n), (4, pt b1), (9, pt b31), (10, pt b86), (13, nt 0), (117, .pointer (some ⟨b31, 1, none⟩))] (by kernel_rfl) ?_
         refine OI_cell 31 (.tmp 117) 1 (pt v32) (some 118) (by kernel_rfl) (by kernel_rfl) hb38 (m := 1) (by kernel_rfl) rfl ?_
         refine OI_call { callee := (Callee.value (Operand.func 20)), args := #[(Operand.tmp 118), (Operand.const (Value.int IntKind.i64 0))], argTypes := #[31, 3] } 20 #[pt v32, nt 0] (some 119) (by kernel_rfl) (by kernel_rfl) (by kernel_rfl) (tally_spec F146 v32 (bkS4 x level n) 0 _ (ho147).1) ?_
         rintro _ w158 ⟨rfl, hk159⟩
         refine ⟨_, rfl, ?_⟩
         have hsz160 := Keep.size hk159
         replace hb1 := hb1.keep hk159 (fun f => f)
         replace hb3 := hb3.keep hk159 (fun f => f)
         replace hb38 := hb38.keep hk159 (fun f => f)
         replace hb86_91 := hb86_91.keep hk159 (fun f => f)
         replace hK0 := Keep.tr hK0 (Keep.ofNone hk159)
         replace ho147 := VotT.keep ho147 hk159 (fun _ _ f => f)
         replace ho150 := Led.keep ho150 hk159 (fun _ _ f => f)
         refine OI_pick [(2, nt level), (3, nt n), (4, pt b1), (9, pt b31), (10, pt b86), (13, nt 0), (119, .agg (Tly.cells (tallyT (bkS4 x level n) 0)).toArray)] (by kernel_rfl) ?_
         refine OI_eq [(2, nt level), (3, nt n), (4, pt b1), (9, pt b31), (10, pt b86), (13, nt 0), (119, .agg (Tly.cells (gainT x (Wgt.mk (cvVotes n level) n))).toArray)] (by rw [show tallyT (bkS4 x level n) 0 = gainT x (Wgt.mk (cvVotes n level) n) from by rw [show tallyT (bkS4 x level n) 0 = addT Tly.zero (gainT x ⟨cvVotes n level, n⟩) by kernel_rfl, addT_gain]]) ?_
         refine OI_alloc 43 (.agg #[nt 0, nt 0, nt 0]) [nt 0, nt 0, nt 0] (some 14) (by kernel_rfl) (by kernel_rfl) (by kernel_rfl) ?_
         intro b161 w161 e161 hb161 k161 z161
         have hsz162 := Keep.size k161
         replace hb1 := hb1.keep k161 (fun f => f)
         replace hb3 := hb3.keep k161 (fun f => f)
         replace hb38 := hb38.keep k161 (fun f => f)
         replace hb86_91 := hb86_91.keep k161 (fun f => f)
         replace hK0 := Keep.tr hK0 (Keep.ofNone k161)
         replace ho147 := VotT.keep ho147 k161 (fun _ _ f => f)
         replace ho150 := Led.keep ho150 k161 (fun _ _ f => f)
         have hb161lt := hb161.lt
         refine OI_set (m := 3) (kd := true) 43 (.tmp 14) (.tmp 119) 0 (.agg (Tly.cells (gainT x (Wgt.mk (cvVotes n level) n))).toArray) (Tly.cells (gainT x (Wgt.mk (cvVotes n level) n))) none (by kernel_rfl) (by kernel_rfl) (by kernel_rfl) hb161 (by kernel_rfl) rfl (Tly.len _) (Nat.le_of_ble_eq_true (by kernel_rfl)) (Tly.one _) ?_
         intro w163 hb161_166 hk164 hz165
         replace hb161_166 : Blk w163 b161 (Tly.cells (gainT x (Wgt.mk (cvVotes n level) n))) 43 := (by rwa [over_whole (by rw [Tly.len]; rfl)] at hb161_166)
         have hsz167 := Keep.size hk164
         replace hb1 := hb1.keep hk164 (by show ¬ (_ = _); omega)
         replace hb3 := hb3.keep hk164 (by show ¬ (_ = _); omega)
         replace hb38 := hb38.keep hk164 (by show ¬ (_ = _); omega)
         replace hb86_91 := hb86_91.keep hk164 (by show ¬ (_ = _); omega)
         replace hK0 := Keep.fresh hK0 hk164 (by intro i hi hs; first | exact hs | exact Or.inl hs | exact Or.inr hs | (exfalso; have hs2 : i = b161 := hs; omega))
         replace ho147 := VotT.keep ho147 hk164 (fun q hq hs => by have hs : q = b161 := hs; have g0 := own155 q hq; have g1 := lt154 q hq; omega)
         replace ho150 := Led.keep ho150 hk164 (fun q hq hs => by have hs : q = b161 := hs; have g0 := own157 q hq; have g1 := lt156 q hq; omega)
         refine OI_end rfl ?_
         refine X_then ?_
         refine V_seq ?_
         refine V_region ?_
         refine OI_static 2 [(3, nt n), (4, pt b1), (9, pt b31), (10, pt b86), (13, nt 0), (14, pt b161), (120, nt n), (121, nt level)] (by kernel_rfl) ?_
         refine OI_call { callee := (Callee.value (Operand.func 24)), args := #[(Operand.tmp 120), (Operand.tmp 121)], argTypes := #[3, 3] } 24 #[nt n, nt level] (some 122) (by kernel_rfl) (by kernel_rfl) (by kernel_rfl) (rVotes_spec n level _) ?_
         rintro _ w163 ⟨rfl, rfl⟩
         refine ⟨_, rfl, ?_⟩
         refine OI_static 5 [(4, pt b1), (9, pt b31), (10, pt b86), (13, nt 0), (14, pt b161), (124, .agg #[nt (cvVotes n level), nt n])] (by kernel_rfl) ?_
         refine OI_alloc 54 (.agg #[nt 0, nt 0]) [nt 0, nt 0] (some 15) (by kernel_rfl) (by kernel_rfl) (by kernel_rfl) ?_
         intro b171 w171 e171 hb171 k171 z171
         have hsz172 := Keep.size k171
         replace hb1 := hb1.keep k171 (fun f => f)
         replace hb3 := hb3.keep k171 (fun f => f)
         replace hb38 := hb38.keep k171 (fun f => f)
         replace hb86_91 := hb86_91.keep k171 (fun f => f)
         replace hb161_166 := hb161_166.keep k171 (fun f => f)
         replace hK0 := Keep.tr hK0 (Keep.ofNone k171)
         replace ho147 := VotT.keep ho147 k171 (fun _ _ f => f)
         replace ho150 := Led.keep ho150 k171 (fun _ _ f => f)
         have hb171lt := hb171.lt
         refine OI_set (m := 2) (kd := true) 54 (.tmp 15) (.tmp 124) 0 (.agg #[nt (cvVotes n level), nt n]) [nt (cvVotes n level), nt n] none (by kernel_rfl) (by kernel_rfl) (by kernel_rfl) hb171 (by kernel_rfl) (by kernel_rfl) (by kernel_rfl) (Nat.le_of_ble_eq_true (by kernel_rfl)) (by simp [Value.oneCell']) ?_
         intro w173 hb171_176 hk174 hz175
         replace hb171_176 : Blk w173 b171 [nt (cvVotes n level), nt n] 54 := hb171_176
         have hsz177 := Keep.size hk174
         replace hb1 := hb1.keep hk174 (by show ¬ (_ = _); omega)
         replace hb3 := hb3.keep hk174 (by show ¬ (_ = _); omega)
         replace hb38 := hb38.keep hk174 (by show ¬ (_ = _); omega)
         replace hb86_91 := hb86_91.keep hk174 (by show ¬ (_ = _); omega)
         replace hb161_166 := hb161_166.keep hk174 (by show ¬ (_ = _); omega)
         replace hK0 := Keep.fresh hK0 hk174 (by intro i hi hs; first | exact hs | exact Or.inl hs | exact Or.inr hs | (exfalso; have hs2 : i = b171 := hs; omega))
         replace ho147 := VotT.keep ho147 hk174 (fun q hq hs => by have hs : q = b171 := hs; have g0 := own155 q hq; have g1 := lt154 q hq; omega)
         replace ho150 := Led.keep ho150 hk174 (fun q hq hs => by have hs : q = b171 := hs; have g0 := own157 q hq; have g1 := lt156 q hq; omega)
         refine OI_end rfl ?_
         refine X_then ?_
         refine V_seq ?_
         refine V_region ?_
         refine OI_static 3 [(4, pt b1), (9, pt b31), (10, pt b86), (13, nt 0), (14, pt b161), (15, pt b171), (127, .pointer (some ⟨b31, 1, none⟩))] (by kernel_rfl) ?_
         refine OI_cell 31 (.tmp 127) 1 (pt v32) (some 128) (by kernel_rfl) (by kernel_rfl) hb38 (m := 1) (by kernel_rfl) rfl ?_
         obtain ⟨s6a, s6b, s6c⟩ := bk6 (x := x) (level := level) (n := n) (by omega) (by omega)
         refine OI_call { callee := (Callee.value (Operand.func 23)), args := #[(Operand.tmp 128), (Operand.const (Value.int IntKind.i64 3)), (Operand.const (Value.int IntKind.i64 0)), (Operand.const (Value.int IntKind.i64 0))], argTypes := #[31, 3, 3, 3] } 23 #[pt v32, nt 3, nt 0, nt 0] (some 129) (by kernel_rfl) (by kernel_rfl) (by kernel_rfl) (undelegate_specT F146 v32 (bkS4 x level n) 3 0 0 _ ho147) ?_
         rintro _ w180 ⟨rfl, ⟨F182, ho183, hfr184⟩, hk181⟩
         refine ⟨_, rfl, ?_⟩
         have hsz185 := Keep.size hk181
         replace hb1 := hb1.keep hk181 (fun hs => by have h1 := own155 _ hs; have h2 := lt154 _ hs; omega)
         replace hb3 := hb3.keep hk181 (fun hs => by have h1 := own155 _ hs; have h2 := lt154 _ hs; omega)
         replace hb38 := hb38.keep hk181 (fun hs => by have h1 := own155 _ hs; have h2 := lt154 _ hs; omega)
         replace hb86_91 := hb86_91.keep hk181 (fun hs => by have h1 := own155 _ hs; have h2 := lt154 _ hs; omega)
         replace hb161_166 := hb161_166.keep hk181 (fun hs => by have h1 := own155 _ hs; have h2 := lt154 _ hs; omega)
         replace hb171_176 := hb171_176.keep hk181 (fun hs => by have h1 := own155 _ hs; have h2 := lt154 _ hs; omega)
         replace hK0 := Keep.fresh hK0 hk181 (by intro i hi hs; first | exact hs | (exfalso; have h1 := own155 i hs; have h2 := lt154 i hs; omega) | (have h1 := own155 i hs; have h2 := lt154 i hs; show _ ∨ _; omega))
         replace ho150 := Led.keep ho150 hk181 (fun q hq hs => hdis152 q hs hq)
         have own187 : ∀ q, F182 q → w25.heap.size ≤ q ∧ q ≠ b1 ∧ q ≠ b3 ∧ q ≠ b31 ∧ q ≠ b86 ∧ q ≠ b161 ∧ q ≠ b171 := fun q hq => by rcases hfr184 q hq with h | h; (have h1 := own155 q h; have h2 := lt154 q h; omega); omega
         have lt186 := VotT.lt ho183
         have dis188 : ∀ q, F182 q → ¬ F149 q := fun q h1 h2 => by rcases hfr184 q h1 with h | h; exact hdis152 q h h2; (have h4 := lt156 q h2; omega)
         replace ho183 : VotT F182 w180 v32 (bkS5 x level n) := by rw [show undS (bkS4 x level n) 3 0 0 = bkS5 x level n from rfl] at ho183; exact ho183
         refine OI_pick [(4, pt b1), (9, pt b31), (10, pt b86), (13, nt 0), (14, pt b161), (15, pt b171), (129, nt (undE (bkS4 x level n) 3 0))] (by kernel_rfl) ?_
         refine OI_eq [(4, pt b1), (9, pt b31), (10, pt b86), (13, nt 0), (14, pt b161), (15, pt b171), (129, nt 0)] (by rw [s6a]) ?_
         refine OI_static 6 [(4, pt b1), (9, pt b31), (10, pt b86), (13, nt 0), (14, pt b161), (15, pt b171), (16, nt 0)] (by kernel_rfl) ?_
         refine OI_end rfl ?_
         refine X_then ?_
         refine V_seq ?_
         refine V_draws (acts [8, 16, 25, 30]) none_ [[0, 1, 2, 3, 4, 6, 7, 8, 5, 9, 10, 11, 12, 13, 14, 15, 16, 17, 18, 19, 20, 21, 22, 23, 24, 25, 26, 27, 28, 29, 30, 31, 32]] (by kernel_rfl) (by repeat first | exact sure_body (by rintro _ _ ⟨h, _⟩; exact ⟨_, h⟩) | refine sure_then ?_ | refine sure_block ?_ | refine sure_join ?_) (by kernel_rfl) ?_
         intro w190 hk189 he191 L hL192
         have hsz193 := Keep.size hk189
         replace hb1 := hb1.keep hk189 (fun f => f)
         replace hb3 := hb3.keep hk189 (fun f => f)
         replace hb38 := hb38.keep hk189 (fun f => f)
         replace hb86_91 := hb86_91.keep hk189 (fun f => f)
         replace hb161_166 := hb161_166.keep hk189 (fun f => f)
         replace hb171_176 := hb171_176.keep hk189 (fun f => f)
         replace hK0 := Keep.tr hK0 (Keep.ofNone hk189)
         replace ho150 := Led.keep ho150 hk189 (fun _ _ f => f)
         replace ho183 := VotT.keep ho183 hk189 (fun _ _ f => f)
         have qhb1 := hb1
         have qhb3 := hb3
         have qhb38 := hb38
         have qhb86_91 := hb86_91
         have qhb161_166 := hb161_166
         have qhb171_176 := hb171_176
         have K194 : Keep none_ w190 w190 := Keep.refl _ _
         obtain rfl := List.mem_singleton.1 hL192
         refine GI_static [6, 7, 8, 5, 9, 10, 11, 12, 13, 14, 15, 16, 17, 18, 19, 20, 21, 22, 23, 24, 25, 26, 27, 28, 29, 30, 31, 32] [(4, pt b1), (9, pt b31), (10, pt b86), (14, pt b161), (15, pt b171), (134, .bool true)] (by kernel_rfl) ?_
         refine GI_agg 23 (.tmp 4) 0 (Vt.cells x) (some 136) (by kernel_rfl) (by kernel_rfl) (by kernel_rfl) qhb1 (fun f => f) (m := 6) (by kernel_rfl) (take_all (Vt.len _)) (Vt.len _) ?_
         refine GI_agg 54 (.tmp 15) 0 [nt (cvVotes n level), nt n] (some 137) (by kernel_rfl) (by kernel_rfl) (by kernel_rfl) qhb171_176 (fun f => f) (m := 2) (by kernel_rfl) rfl rfl ?_
         refine GI_call { callee := (Callee.value (Operand.func 26)), args := #[(Operand.tmp 136), (Operand.tmp 137)], argTypes := #[23, 54] } 26 #[.agg (Vt.cells x).toArray, .agg #[nt (cvVotes n level), nt n]] (some 138) (by kernel_rfl) (by kernel_rfl) (by kernel_rfl) (by kernel_rfl) (rGain_spec x (Wgt.mk (cvVotes n level) n) _) ?_
         rintro _ w195 ⟨rfl, hk196⟩
         have K197 := K194.tr (Keep.ofNone hk196)
         refine ⟨_, rfl, K197, ?_⟩
         have hzK197 := Keep.size K197
         have hsz198 := Keep.size hk196
         replace hb1 := hb1.keep hk196 (fun f => f)
         replace hb3 := hb3.keep hk196 (fun f => f)
         replace hb38 := hb38.keep hk196 (fun f => f)
         replace hb86_91 := hb86_91.keep hk196 (fun f => f)
         replace hb161_166 := hb161_166.keep hk196 (fun f => f)
         replace hK0 := Keep.tr hK0 (Keep.ofNone hk196)
         replace ho150 := Led.keep ho150 hk196 (fun _ _ f => f)
         replace ho183 := VotT.keep ho183 hk196 (fun _ _ f => f)
         refine GI_agg 43 (.tmp 14) 0 (Tly.cells (gainT x (Wgt.mk (cvVotes n level) n))) (some 135) (by kernel_rfl) (by kernel_rfl) (by kernel_rfl) qhb161_166 (fun f => f) (m := 3) (by kernel_rfl) (take_all (Tly.len _)) (Tly.len _) ?_
         refine GI_pure (some 139) ((Op.binOp BinOp.eql 43 (Operand.tmp 135) (Operand.tmp 138) 43)) (by kernel_rfl) (by kernel_rfl) (pure_eql_same (xs := Tly.cells (gainT x (Wgt.mk (cvVotes n level) n))) (by kernel_rfl) (by kernel_rfl) (by kernel_rfl) (by kernel_rfl)) ?_
         refine GI_static [15, 16, 17, 18, 19, 20, 21, 22, 23, 24, 25, 26, 27, 28, 29, 30, 31, 32] [(9, pt b31), (10, pt b86), (141, .bool true), (144, .pointer (some ⟨b31, 1, none⟩))] (by kernel_rfl) ?_
         refine GI_cell 31 (.tmp 144) 1 (pt v32) (some 145) (by kernel_rfl) (by kernel_rfl) (by kernel_rfl) qhb38 (fun f => f) (m := 1) (by kernel_rfl) rfl ?_
         refine GI_call { callee := (Callee.value (Operand.func 20)), args := #[(Operand.tmp 145), (Operand.const (Value.int IntKind.i64 0))], argTypes := #[31, 3] } 20 #[pt v32, nt 0] (some 146) (by kernel_rfl) (by kernel_rfl) (by kernel_rfl) (by kernel_rfl) (tally_spec F182 v32 (bkS5 x level n) 0 _ (ho183).1) ?_
         rintro _ w199 ⟨rfl, hk200⟩
         have K201 := K197.tr (Keep.ofNone hk200)
         refine ⟨_, rfl, K201, ?_⟩
         have hzK201 := Keep.size K201
         have hsz202 := Keep.size hk200
         replace hb1 := hb1.keep hk200 (fun f => f)
         replace hb3 := hb3.keep hk200 (fun f => f)
         replace hb38 := hb38.keep hk200 (fun f => f)
         replace hb86_91 := hb86_91.keep hk200 (fun f => f)
         replace hb161_166 := hb161_166.keep hk200 (fun f => f)
         replace hK0 := Keep.tr hK0 (Keep.ofNone hk200)
         replace ho150 := Led.keep ho150 hk200 (fun _ _ f => f)
         replace ho183 := VotT.keep ho183 hk200 (fun _ _ f => f)
         refine GI_pick [(9, pt b31), (10, pt b86), (141, .bool true), (146, .agg (Tly.cells (tallyT (bkS5 x level n) 0)).toArray)] (by kernel_rfl) ?_
         refine GI_eq [(9, pt b31), (10, pt b86), (141, .bool true), (146, .agg (Tly.cells (addT Tly.zero (gainT x ⟨0, 0⟩))).toArray)] (by rw [s6b]) ?_
         refine GI_agg 43 (.tmp 10) 0 (Tly.cells (addT Tly.zero (gainT x ⟨0, 0⟩))) (some 147) (by kernel_rfl) (by kernel_rfl) (by kernel_rfl) qhb86_91 (fun f => f) (m := 3) (by kernel_rfl) (take_all (Tly.len _)) (Tly.len _) ?_
         refine GI_pure (some 148) ((Op.binOp BinOp.eql 43 (Operand.tmp 146) (Operand.tmp 147) 43)) (by kernel_rfl) (by kernel_rfl) (pure_eql_same (xs := Tly.cells (addT Tly.zero (gainT x ⟨0, 0⟩))) (by kernel_rfl) (by kernel_rfl) (by kernel_rfl) (by kernel_rfl)) ?_
         refine GI_static [24, 25, 26, 27, 28, 29, 30, 31, 32] [(150, .bool true), (153, .pointer (some ⟨b31, 1, none⟩))] (by kernel_rfl) ?_
         refine GI_cell 31 (.tmp 153) 1 (pt v32) (some 154) (by kernel_rfl) (by kernel_rfl) (by kernel_rfl) qhb38 (fun f => f) (m := 1) (by kernel_rfl) rfl ?_
         refine GI_call0 { callee := (Callee.value (Operand.func 27)), args := #[(Operand.tmp 154), (Operand.const (Value.int IntKind.i64 1)), (Operand.const (Value.int IntKind.i64 0))], argTypes := #[31, 3, 3] } 27 #[pt v32, nt 1, nt 0] (some 155) (by kernel_rfl) (by kernel_rfl) (by kernel_rfl) (by kernel_rfl) (by kernel_rfl) (got_specT F182 v32 (bkS5 x level n) 1 0 _ ho183) ?_
         rintro _ w205 ⟨rfl, ⟨F207, ho208, hfr209⟩, hk206⟩
         refine ⟨_, rfl, ?_⟩
         have hsz210 := Keep.size hk206
         replace hb1 := hb1.keep hk206 (fun hs => by have h1 := own187 _ hs; have h2 := lt186 _ hs; omega)
         replace hb3 := hb3.keep hk206 (fun hs => by have h1 := own187 _ hs; have h2 := lt186 _ hs; omega)
         replace hb86_91 := hb86_91.keep hk206 (fun hs => by have h1 := own187 _ hs; have h2 := lt186 _ hs; omega)
         replace hb161_166 := hb161_166.keep hk206 (fun hs => by have h1 := own187 _ hs; have h2 := lt186 _ hs; omega)
         replace hK0 := Keep.fresh hK0 hk206 (by intro i hi hs; first | exact hs | (exfalso; have h1 := own187 i hs; have h2 := lt186 i hs; omega) | (have h1 := own187 i hs; have h2 := lt186 i hs; show _ ∨ _; omega))
         replace ho150 := Led.keep ho150 hk206 (fun q hq hs => dis188 q hs hq)
         have own212 : ∀ q, F207 q → w25.heap.size ≤ q ∧ q ≠ b1 ∧ q ≠ b3 ∧ q ≠ b86 ∧ q ≠ b161 := fun q hq => by rcases hfr209 q hq with h | h; (have h1 := own187 q h; have h2 := lt186 q h; omega); omega
         have lt211 := VotT.lt ho208
         have dis213 : ∀ q, F207 q → ¬ F149 q := fun q h1 h2 => by rcases hfr209 q h1 with h | h; exact dis188 q h h2; (have h4 := lt156 q h2; omega)
         refine GI_pick [(150, .bool true), (155, .agg (Wgt.cells ((bkS5 x level n).rc 1 0).got).toArray)] (by kernel_rfl) ?_
         refine GI_eq [(150, .bool true), (155, .agg #[nt 0, nt 0])] (by rw [s6c]; rfl) ?_
         refine GI_static [27, 28, 29, 30, 31, 32] [(150, .bool true), (155, .agg #[nt 0, nt 0]), (156, .agg #[nt 0, nt 0])] (by kernel_rfl) ?_
         refine GI_pure (some 157) ((Op.binOp BinOp.eql 54 (Operand.tmp 155) (Operand.tmp 156) 54)) (by kernel_rfl) (by kernel_rfl) (pure_eql_same (xs := [nt 0, nt 0]) (by kernel_rfl) (by kernel_rfl) (by kernel_rfl) (by kernel_rfl)) ?_
         refine GI_static [30, 31, 32] [(159, .bool true)] (by kernel_rfl) ?_
         refine GI_call0 { callee := (Callee.value (Operand.func 22)), args := #[], argTypes := #[] } 22 #[] (some 160) (by kernel_rfl) (by kernel_rfl) (by kernel_rfl) (by kernel_rfl) (by kernel_rfl) (known_spec _) ?_
         rintro _ w214 ⟨rfl, hk215⟩
         refine ⟨_, rfl, ?_⟩
         have hsz216 := Keep.size hk215
         replace hb1 := hb1.keep hk215 (fun f => f)
         replace hb3 := hb3.keep hk215 (fun f => f)
         replace hb86_91 := hb86_91.keep hk215 (fun f => f)
         replace hb161_166 := hb161_166.keep hk215 (fun f => f)
         replace hK0 := Keep.tr hK0 (Keep.ofNone hk215)
         replace ho150 := Led.keep ho150 hk215 (fun _ _ f => f)
         replace ho208 := VotT.keep ho208 hk215 (fun _ _ f => f)
         refine GI_static [] [(8, .bool true)] (by kernel_rfl) ?_
         refine GI_end ?_
         refine X_then ?_
         refine V_ret ?_
         exact X_return (.bool true) rfl ⟨rfl, hK0⟩
  ·
   refine OI_eq [(2, nt level), (3, nt n), (4, pt b1), (5, pt b3), (25, .bool true)] (by first | simp [hg12] | rfl) ?_
   refine OI_static 34 [(2, nt level), (3, nt n), (4, pt b1), (5, pt b3), (50, .bool true)] (by kernel_rfl) ?_
   refine OI_end rfl ?_
   refine X_then ?_
   refine V_true rfl ?_
   refine V_seq ?_
   refine V_region ?_
   refine OI_static 1 [(8, .bool true)] (by kernel_rfl) ?_
   refine OI_end rfl ?_
   refine X_then ?_
   refine V_ret ?_
   refine X_ret_then ?_
   exact X_return (.bool true) rfl ⟨rfl, hK0⟩
 ·
  refine OI_eq [(2, nt level), (3, nt n), (4, pt b1), (5, pt b3), (20, .bool true)] (by first | simp [hg8] | rfl) ?_
  refine OI_static 34 [(2, nt level), (3, nt n), (4, pt b1), (5, pt b3), (50, .bool true)] (by kernel_rfl) ?_
  refine OI_end rfl ?_
  refine X_then ?_
  refine V_true rfl ?_
  refine V_seq ?_
  refine V_region ?_
  refine OI_static 1 [(8, .bool true)] (by kernel_rfl) ?_
  refine OI_end rfl ?_
  refine X_then ?_
  refine V_ret ?_
  refine X_ret_then ?_
  exact X_return (.bool true) rfl ⟨rfl, hK0⟩

theorem over_VotingBack {H : Type} {enc : TypeId × Value → H} {c0 c1 : Array Value} {d0 d1 : DataW H} {p0 p1 : List MemPlace} {w : World} (h0 : DataW.Trod enc Tryz.prog w 0 (fun _ => true) true 23 (.agg c0) d0 p0) (h1 : DataW.Trod enc Tryz.prog w 0 (fun _ => true) true 23 (.agg c1) d1 p1) (level n : Int) : Calls Tryz.prog 5 #[.agg c0, .agg c1, .int .i64 level, .int .i64 n] w fun e w' => e = .returned (.bool true) ∧ Keep none_ w w' := by
  obtain ⟨x, rfl⟩ := read_vt h0
  obtain ⟨y, rfl⟩ := read_vt h1
  exact walk_VotingBack x y level n w
end Go.Al

