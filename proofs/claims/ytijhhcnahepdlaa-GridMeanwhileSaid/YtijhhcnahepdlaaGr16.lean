/-
  Walks of the laws of grid: acts, in both.
-/
import Derived.Test.YtijhhcnahepdlaaGr15
namespace Go.Al
open Go Go.RowKit Go.Proofs
/-! ### Acts, in both -/
def actC (z : Ac4) (cs : List Ci) : List Ci := if z.k = 1 then setC z.a z.b z.n cs else if z.k = 2 then delC z.a z.b cs else cs
def bldC (xs : List Ac4) : Nat → List Ci
  | 0 => []
  | i + 1 => match xs[i]? with | some z => actC z (bldC xs i) | none => bldC xs i
theorem bldC_ok (xs : List Ac4) : ∀ i, Srt (bldC xs i) ∧ (bldC xs i).length ≤ i
  | 0 => ⟨List.Pairwise.nil, Nat.le_refl _⟩
  | i + 1 => by
    obtain ⟨h, hl⟩ := bldC_ok xs i
    simp only [bldC]
    cases xs[i]? with
    | none => exact ⟨h, Nat.le_trans hl (Nat.le_succ _)⟩
    | some z =>
      show Srt (actC z (bldC xs i)) ∧ (actC z (bldC xs i)).length ≤ i + 1
      unfold actC
      split
      · exact ⟨(Srt.set h).1, by have := (Srt.set (a := z.a) (b := z.b) (v := z.n) h).2; omega⟩
      · split
        · exact ⟨(h.del _ _).1, by have := (h.del z.a z.b).2; omega⟩
        · exact ⟨h, by omega⟩
theorem bldC_step {xs : List Ac4} {i : Nat} {z : Ac4} (hz : xs[i]? = some z) : actC z (bldC xs i) = bldC xs (i + 1) := by simp only [bldC, hz]
theorem Rgd.nil {w : World} {b : Nat} (h : Blk w b [.slice none 0 0] 49) : Rgd (only b) w b [] := ⟨List.Pairwise.nil, by simp, rfl, fun q hq => by rw [show q = b from hq]; exact h.lt, none, 0, ⟨h, SlT.nil _ _ _, fun h => inA_none h⟩, fun q hq => (inA_none hq).elim⟩

set_option maxRecDepth 10000 in
theorem act_spec (F1 F2 : Nat → Prop) (g x : Nat) (cs : List Ci) (z : Ac4) (w : World) (h1 : Grd F1 w g cs) (h2 : Rgd F2 w x cs) (hdis : ∀ q, F1 q → ¬ F2 q) (hmax : cs.length < 100000) : Calls Try.prog 22 #[.pointer (some ⟨g, 0, none⟩), .pointer (some ⟨x, 0, none⟩), .agg z.cells.toArray] w fun e w' => e = .returned (.bool true) ∧ (∃ F1' F2', Grd F1' w' g (actC z cs) ∧ Rgd F2' w' x (actC z cs) ∧ (∀ q, F1' q → F1 q ∨ w.heap.size ≤ q) ∧ (∀ q, F2' q → F2 q ∨ w.heap.size ≤ q) ∧ (∀ q, F1' q → ¬ F2' q)) ∧ Keep (fun q => F1 q ∨ F2 q) w w' := by
  have ltF1 := Grd.lt h1
  have ltF2 := Rgd.lt h2
  have hglt := ltF1 _ (Grd.at_ h1)
  have hxlt := ltF2 _ (Rgd.at_ h2)
  have hrF1 : ∀ q, F1 q → F1 q ∨ w.heap.size ≤ q := fun q h => .inl h
  have hrF2 : ∀ q, F2 q → F2 q ∨ w.heap.size ≤ q := fun q h => .inl h
  have hK0 : Keep (fun q => F1 q ∨ F2 q) w w := Keep.refl _ _
  have hzhK0 := Keep.size hK0
  refine enterV Try.func22 rfl [.pointer (some ⟨g, 0, none⟩), .pointer (some ⟨x, 0, none⟩), .agg (Ac4.cells z).toArray] 72 rfl rfl rfl ?_
  refine V_pick [(0, .pointer (some ⟨g, 0, none⟩)), (1, .pointer (some ⟨x, 0, none⟩)), (2, .agg (Ac4.cells z).toArray)] rfl ?_
  refine V_seq ?_
  refine V_region ?_
  refine OI_box 42 (.tmp 2) (.agg (Ac4.cells z).toArray) (Ac4.cells z) (some 5) (by kernel_rfl) (by kernel_rfl) rfl ?_
  intro b1 w1 e1 hb1 k1 z1
  have hsz2 := Keep.size k1
  replace h1 := Grd.keep h1 k1 (fun _ _ f => f)
  replace h2 := Rgd.keep h2 k1 (fun _ _ f => f)
  replace hK0 := Keep.tr hK0 (Keep.ofNone k1); have hzhK0 := Keep.size hK0
  have hb1lt := hb1.lt
  refine OI_static 2 [(0, .pointer (some ⟨g, 0, none⟩)), (1, .pointer (some ⟨x, 0, none⟩)), (5, .pointer (some ⟨b1, 0, none⟩))] (by kernel_rfl) ?_
  refine OI_end rfl ?_
  refine X_then ?_
  refine V_seq ?_
  refine V_seq ?_
  refine V_region ?_
  refine OI_static 1 [(0, .pointer (some ⟨g, 0, none⟩)), (1, .pointer (some ⟨x, 0, none⟩)), (5, .pointer (some ⟨b1, 0, none⟩)), (11, .pointer (some ⟨b1, 0, none⟩))] (by kernel_rfl) ?_
  refine OI_cell 3 (.tmp 11) 0 (.int .i64 z.k) (some 12) (by kernel_rfl) (by kernel_rfl) hb1 (m := 1) (by kernel_rfl) rfl ?_
  refine OI_end rfl ?_
  refine X_then ?_
  refine V_block ?_
  refine V_seq ?_
  refine V_region ?_
  refine OI_static 2 [(0, .pointer (some ⟨g, 0, none⟩)), (1, .pointer (some ⟨x, 0, none⟩)), (5, .pointer (some ⟨b1, 0, none⟩)), (12, .int .i64 z.k), (13, .bool (decide (z.k = 1)))] (by kernel_rfl) ?_
  refine OI_end rfl ?_
  refine X_then ?_
  refine V_if (z.k = 1) (by kernel_rfl) (fun hc3 => ?_) (fun hc3 => ?_)
  · skip
    refine V_seq ?_
    refine V_region ?_
    refine OI_static 2 [(1, .pointer (some ⟨x, 0, none⟩)), (5, .pointer (some ⟨b1, 0, none⟩)), (15, .pointer (some ⟨g, 0, none⟩)), (16, .pointer (some ⟨b1, 1, none⟩))] (by kernel_rfl) ?_
    refine OI_cell 3 (.tmp 16) 1 (.int .i64 z.a) (some 17) (by kernel_rfl) (by kernel_rfl) hb1 (m := 1) (by kernel_rfl) rfl ?_
    refine OI_static 4 [(1, .pointer (some ⟨x, 0, none⟩)), (5, .pointer (some ⟨b1, 0, none⟩)), (15, .pointer (some ⟨g, 0, none⟩)), (17, .int .i64 z.a), (18, .pointer (some ⟨b1, 2, none⟩))] (by kernel_rfl) ?_
    refine OI_cell 3 (.tmp 18) 2 (.int .i64 z.b) (some 19) (by kernel_rfl) (by kernel_rfl) hb1 (m := 1) (by kernel_rfl) rfl ?_
    refine OI_static 6 [(1, .pointer (some ⟨x, 0, none⟩)), (5, .pointer (some ⟨b1, 0, none⟩)), (15, .pointer (some ⟨g, 0, none⟩)), (17, .int .i64 z.a), (19, .int .i64 z.b), (20, .pointer (some ⟨b1, 3, none⟩))] (by kernel_rfl) ?_
    refine OI_cell 3 (.tmp 20) 3 (.int .i64 z.n) (some 21) (by kernel_rfl) (by kernel_rfl) hb1 (m := 1) (by kernel_rfl) rfl ?_
    refine OI_call { callee := (Callee.value (Operand.func 11)), args := #[(Operand.tmp 15), (Operand.tmp 17), (Operand.tmp 19), (Operand.tmp 21)], argTypes := #[22, 3, 3, 3] } 11 #[.pointer (some ⟨g, 0, none⟩), .int .i64 z.a, .int .i64 z.b, .int .i64 z.n] (some 22) (by kernel_rfl) (by kernel_rfl) (by kernel_rfl) (set_grd F1 g cs z.a z.b z.n _ h1 hmax) ?_
    rintro _ w8 ⟨rfl, ⟨F10, ho11, hfr12⟩, hk9⟩
    refine ⟨_, rfl, ?_⟩
    have hsz13 := Keep.size hk9
    replace hb1 := hb1.keep hk9 (fun hs => by have h2 := ltF1 _ hs; omega)
    have hb1lt := hb1.lt
    replace h2 := Rgd.keep h2 hk9 (fun q hq hs => hdis q hs hq)
    replace hK0 := Keep.fresh hK0 hk9 (fun i hi hs => by rcases hrF1 i hs with h | h; exact .inl h; (exfalso; omega)); have hzhK0 := Keep.size hK0
    have lt14 := Grd.lt ho11
    have rel15 : ∀ q, F10 q → F1 q ∨ w.heap.size ≤ q := fun q hq => by rcases hfr12 q hq with h | h; exact hrF1 q h; exact .inr (by omega)
    have dis16 : ∀ q, F10 q → ¬ F2 q := fun q h1 h2 => by rcases hfr12 q h1 with h | h; exact hdis q h h2; (have h4 := ltF2 q h2; omega)
    refine OI_end rfl ?_
    refine X_then ?_
    refine V_seq ?_
    refine V_region ?_
    refine OI_static 2 [(5, .pointer (some ⟨b1, 0, none⟩)), (23, .pointer (some ⟨x, 0, none⟩)), (24, .pointer (some ⟨b1, 1, none⟩))] (by kernel_rfl) ?_
    refine OI_cell 3 (.tmp 24) 1 (.int .i64 z.a) (some 25) (by kernel_rfl) (by kernel_rfl) hb1 (m := 1) (by kernel_rfl) rfl ?_
    refine OI_static 4 [(5, .pointer (some ⟨b1, 0, none⟩)), (23, .pointer (some ⟨x, 0, none⟩)), (25, .int .i64 z.a), (26, .pointer (some ⟨b1, 2, none⟩))] (by kernel_rfl) ?_
    refine OI_cell 3 (.tmp 26) 2 (.int .i64 z.b) (some 27) (by kernel_rfl) (by kernel_rfl) hb1 (m := 1) (by kernel_rfl) rfl ?_
    refine OI_static 6 [(23, .pointer (some ⟨x, 0, none⟩)), (25, .int .i64 z.a), (27, .int .i64 z.b), (28, .pointer (some ⟨b1, 3, none⟩))] (by kernel_rfl) ?_
    refine OI_cell 3 (.tmp 28) 3 (.int .i64 z.n) (some 29) (by kernel_rfl) (by kernel_rfl) hb1 (m := 1) (by kernel_rfl) rfl ?_
    refine OI_call { callee := (Callee.value (Operand.func 37)), args := #[(Operand.tmp 23), (Operand.tmp 25), (Operand.tmp 27), (Operand.tmp 29)], argTypes := #[46, 3, 3, 3] } 37 #[.pointer (some ⟨x, 0, none⟩), .int .i64 z.a, .int .i64 z.b, .int .i64 z.n] (some 30) (by kernel_rfl) (by kernel_rfl) (by kernel_rfl) (rset_spec F2 x cs z.a z.b z.n _ h2 hmax) ?_
    rintro _ w21 ⟨rfl, ⟨F23, ho24, hfr25⟩, hk22⟩
    refine ⟨_, rfl, ?_⟩
    have hsz26 := Keep.size hk22
    replace hb1 := hb1.keep hk22 (fun hs => by have h2 := ltF2 _ hs; omega)
    have hb1lt := hb1.lt
    replace hK0 := Keep.fresh hK0 hk22 (fun i hi hs => by rcases hrF2 i hs with h | h; exact .inr h; (exfalso; omega)); have hzhK0 := Keep.size hK0
    replace ho11 := Grd.keep ho11 hk22 (fun q hq hs => (fun q h1 h2 => dis16 q h2 h1) q hs hq)
    have lt27 := Rgd.lt ho24
    have rel28 : ∀ q, F23 q → F2 q ∨ w.heap.size ≤ q := fun q hq => by rcases hfr25 q hq with h | h; exact hrF2 q h; exact .inr (by omega)
    have dis29 : ∀ q, F23 q → ¬ F10 q := fun q h1 h2 => by rcases hfr25 q h1 with h | h; exact (fun q h1 h2 => dis16 q h2 h1) q h h2; (have h4 := lt14 q h2; omega)
    refine OI_end rfl ?_
    refine X_then ?_
    refine V_seq ?_
    refine V_region ?_
    refine OI_static 1 [(6, .bool true)] (by kernel_rfl) ?_
    refine OI_end rfl ?_
    refine X_then ?_
    refine V_ret ?_
    refine X_ret_block ?_
    refine X_ret_then ?_
    have hE : actC z cs = setC z.a z.b z.n cs := by unfold actC; rw [if_pos hc3]
    rw [hE]
    exact X_return (.bool true) rfl ⟨by simp, ⟨F10, F23, ho11, ho24, rel15, rel28, (fun q h1 h2 => dis29 q h2 h1)⟩, hK0⟩
  · skip
    refine V_seq ?_
    refine V_region ?_
    refine OI_static 2 [(0, .pointer (some ⟨g, 0, none⟩)), (1, .pointer (some ⟨x, 0, none⟩)), (5, .pointer (some ⟨b1, 0, none⟩)), (31, .bool (decide (z.k = 2)))] (by kernel_rfl) ?_
    refine OI_end rfl ?_
    refine X_then ?_
    refine V_if (z.k = 2) (by kernel_rfl) (fun hc30 => ?_) (fun hc30 => ?_)
    · skip
      refine V_seq ?_
      refine V_draws (acts [5, 11]) (fun q => q ≠ b1) [[0, 1, 2, 3, 4, 5, 6, 7, 8, 9, 10, 11, 12, 13]] (by kernel_rfl) (by repeat first | exact sure_body (by rintro _ _ ⟨h, _⟩; exact ⟨_, h⟩) | refine sure_then ?_ | refine sure_block ?_ | refine sure_join ?_) (by kernel_rfl) ?_
      intro w32 hk31 he33 L hL34
      have hsz35 := Keep.size hk31
      replace hb1 := hb1.keep hk31 (fun f => f)
      have hb1lt := hb1.lt
      replace h1 := Grd.keep h1 hk31 (fun _ _ f => f)
      replace h2 := Rgd.keep h2 hk31 (fun _ _ f => f)
      replace hK0 := Keep.tr hK0 (Keep.ofNone hk31); have hzhK0 := Keep.size hK0
      have qhb1 := hb1
      have K36 : Keep (fun q => q ≠ b1) w32 w32 := Keep.refl _ _
      obtain rfl := List.mem_singleton.1 hL34
      refine GI_static [2, 3, 4, 5, 6, 7, 8, 9, 10, 11, 12, 13] [(1, .pointer (some ⟨x, 0, none⟩)), (5, .pointer (some ⟨b1, 0, none⟩)), (33, .pointer (some ⟨g, 0, none⟩)), (34, .pointer (some ⟨b1, 1, none⟩))] (by kernel_rfl) ?_
      refine GI_cell 3 (.tmp 34) 1 (.int .i64 z.a) (some 35) (by kernel_rfl) (by kernel_rfl) (by kernel_rfl) qhb1 (by show ¬ (b1 ≠ b1); omega) (m := 1) (by kernel_rfl) rfl ?_
      refine GI_static [4, 5, 6, 7, 8, 9, 10, 11, 12, 13] [(1, .pointer (some ⟨x, 0, none⟩)), (5, .pointer (some ⟨b1, 0, none⟩)), (33, .pointer (some ⟨g, 0, none⟩)), (35, .int .i64 z.a), (36, .pointer (some ⟨b1, 2, none⟩))] (by kernel_rfl) ?_
      refine GI_cell 3 (.tmp 36) 2 (.int .i64 z.b) (some 37) (by kernel_rfl) (by kernel_rfl) (by kernel_rfl) qhb1 (by show ¬ (b1 ≠ b1); omega) (m := 1) (by kernel_rfl) rfl ?_
      refine GI_call { callee := (Callee.value (Operand.func 19)), args := #[(Operand.tmp 33), (Operand.tmp 35), (Operand.tmp 37)], argTypes := #[22, 3, 3] } 19 #[.pointer (some ⟨g, 0, none⟩), .int .i64 z.a, .int .i64 z.b] (some 38) (by kernel_rfl) (by kernel_rfl) (by kernel_rfl) (by kernel_rfl) (del_grd F1 g cs z.a z.b _ h1) ?_
      rintro _ w39 ⟨rfl, ⟨F41, ho42, hfr43⟩, hk40⟩
      have K44 := Keep.fresh K36 hk40 (by intro i hi hs; have h2 := ltF1 i hs; show i ≠ b1; omega)
      refine ⟨_, rfl, K44, ?_⟩
      have hzK44 := Keep.size K44
      have hsz45 := Keep.size hk40
      replace hb1 := hb1.keep hk40 (fun hs => by have h2 := ltF1 _ hs; omega)
      have hb1lt := hb1.lt
      replace h2 := Rgd.keep h2 hk40 (fun q hq hs => hdis q hs hq)
      replace hK0 := Keep.fresh hK0 hk40 (fun i hi hs => by rcases hrF1 i hs with h | h; exact .inl h; (exfalso; omega)); have hzhK0 := Keep.size hK0
      have lt46 := Grd.lt ho42
      have rel47 : ∀ q, F41 q → F1 q ∨ w.heap.size ≤ q := fun q hq => by rcases hfr43 q hq with h | h; exact hrF1 q h; exact .inr (by omega)
      have dis48 : ∀ q, F41 q → ¬ F2 q := fun q h1 h2 => by rcases hfr43 q h1 with h | h; exact hdis q h h2; (have h4 := ltF2 q h2; omega)
      refine GI_static [8, 9, 10, 11, 12, 13] [(5, .pointer (some ⟨b1, 0, none⟩)), (38, .bool ((getC z.a z.b cs).isSome)), (39, .pointer (some ⟨x, 0, none⟩)), (40, .pointer (some ⟨b1, 1, none⟩))] (by kernel_rfl) ?_
      refine GI_cell 3 (.tmp 40) 1 (.int .i64 z.a) (some 41) (by kernel_rfl) (by kernel_rfl) (by kernel_rfl) qhb1 (by show ¬ (b1 ≠ b1); omega) (m := 1) (by kernel_rfl) rfl ?_
      refine GI_static [10, 11, 12, 13] [(38, .bool ((getC z.a z.b cs).isSome)), (39, .pointer (some ⟨x, 0, none⟩)), (41, .int .i64 z.a), (42, .pointer (some ⟨b1, 2, none⟩))] (by kernel_rfl) ?_
      refine GI_cell 3 (.tmp 42) 2 (.int .i64 z.b) (some 43) (by kernel_rfl) (by kernel_rfl) (by kernel_rfl) qhb1 (by show ¬ (b1 ≠ b1); omega) (m := 1) (by kernel_rfl) rfl ?_
      refine GI_call0 { callee := (Callee.value (Operand.func 38)), args := #[(Operand.tmp 39), (Operand.tmp 41), (Operand.tmp 43)], argTypes := #[46, 3, 3] } 38 #[.pointer (some ⟨x, 0, none⟩), .int .i64 z.a, .int .i64 z.b] (some 44) (by kernel_rfl) (by kernel_rfl) (by kernel_rfl) (by kernel_rfl) (by kernel_rfl) (rdel_spec F2 x cs z.a z.b _ h2) ?_
      rintro _ w53 ⟨rfl, ⟨F55, ho56, hfr57⟩, hk54⟩
      refine ⟨_, rfl, ?_⟩
      have hsz58 := Keep.size hk54
      replace hb1 := hb1.keep hk54 (fun hs => by have h2 := ltF2 _ hs; omega)
      have hb1lt := hb1.lt
      replace hK0 := Keep.fresh hK0 hk54 (fun i hi hs => by rcases hrF2 i hs with h | h; exact .inr h; (exfalso; omega)); have hzhK0 := Keep.size hK0
      replace ho42 := Grd.keep ho42 hk54 (fun q hq hs => (fun q h1 h2 => dis48 q h2 h1) q hs hq)
      have lt59 := Rgd.lt ho56
      have rel60 : ∀ q, F55 q → F2 q ∨ w.heap.size ≤ q := fun q hq => by rcases hfr57 q hq with h | h; exact hrF2 q h; exact .inr (by omega)
      have dis61 : ∀ q, F55 q → ¬ F41 q := fun q h1 h2 => by rcases hfr57 q h1 with h | h; exact (fun q h1 h2 => dis48 q h2 h1) q h h2; (have h4 := lt46 q h2; omega)
      refine GI_static [] [(6, .bool (((getC z.a z.b cs).isSome) == ((getC z.a z.b cs).isSome)))] (by kernel_rfl) ?_
      refine GI_end ?_
      refine X_then ?_
      refine V_ret ?_
      refine X_ret_block ?_
      refine X_ret_then ?_
      have hE : actC z cs = delC z.a z.b cs := by unfold actC; rw [if_neg hc3]; rw [if_pos hc30]
      rw [hE]
      exact X_return (.bool (((getC z.a z.b cs).isSome) == ((getC z.a z.b cs).isSome))) rfl ⟨by simp, ⟨F41, F55, ho42, ho56, rel47, rel60, (fun q h1 h2 => dis61 q h2 h1)⟩, hK0⟩
    · skip
      refine V_skip ?_
      refine X_block ?_
      refine X_then ?_
      refine V_seq ?_
      refine V_region ?_
      refine OI_static 2 [(1, .pointer (some ⟨x, 0, none⟩)), (5, .pointer (some ⟨b1, 0, none⟩)), (47, .pointer (some ⟨g, 0, none⟩)), (48, .pointer (some ⟨b1, 1, none⟩))] (by kernel_rfl) ?_
      refine OI_cell 3 (.tmp 48) 1 (.int .i64 z.a) (some 49) (by kernel_rfl) (by kernel_rfl) hb1 (m := 1) (by kernel_rfl) rfl ?_
      refine OI_static 4 [(1, .pointer (some ⟨x, 0, none⟩)), (5, .pointer (some ⟨b1, 0, none⟩)), (47, .pointer (some ⟨g, 0, none⟩)), (49, .int .i64 z.a), (50, .pointer (some ⟨b1, 2, none⟩))] (by kernel_rfl) ?_
      refine OI_cell 3 (.tmp 50) 2 (.int .i64 z.b) (some 51) (by kernel_rfl) (by kernel_rfl) hb1 (m := 1) (by kernel_rfl) rfl ?_
      refine OI_call { callee := (Callee.value (Operand.func 28)), args := #[(Operand.tmp 47), (Operand.tmp 49), (Operand.tmp 51)], argTypes := #[22, 3, 3] } 28 #[.pointer (some ⟨g, 0, none⟩), .int .i64 z.a, .int .i64 z.b] (some 52) (by kernel_rfl) (by kernel_rfl) (by kernel_rfl) (get_spec F1 g cs z.a z.b _ (Grd.gr h1)) ?_
      rintro _ w62 ⟨rfl, hk63⟩
      refine ⟨_, rfl, ?_⟩
      have hsz64 := Keep.size hk63
      replace hb1 := hb1.keep hk63 (fun f => f)
      have hb1lt := hb1.lt
      replace h1 := Grd.keep h1 hk63 (fun _ _ f => f)
      replace h2 := Rgd.keep h2 hk63 (fun _ _ f => f)
      replace hK0 := Keep.tr hK0 (Keep.ofNone hk63); have hzhK0 := Keep.size hK0
      refine OI_static 11 [(1, .pointer (some ⟨x, 0, none⟩)), (5, .pointer (some ⟨b1, 0, none⟩)), (7, .int .i64 ((getC z.a z.b cs).getD 0)), (8, .bool ((getC z.a z.b cs).isSome))] (by kernel_rfl) ?_
      refine OI_end rfl ?_
      refine X_then ?_
      refine V_seq ?_
      refine V_region ?_
      refine OI_static 2 [(5, .pointer (some ⟨b1, 0, none⟩)), (7, .int .i64 ((getC z.a z.b cs).getD 0)), (8, .bool ((getC z.a z.b cs).isSome)), (56, .pointer (some ⟨x, 0, none⟩)), (57, .pointer (some ⟨b1, 1, none⟩))] (by kernel_rfl) ?_
      refine OI_cell 3 (.tmp 57) 1 (.int .i64 z.a) (some 58) (by kernel_rfl) (by kernel_rfl) hb1 (m := 1) (by kernel_rfl) rfl ?_
      refine OI_static 4 [(7, .int .i64 ((getC z.a z.b cs).getD 0)), (8, .bool ((getC z.a z.b cs).isSome)), (56, .pointer (some ⟨x, 0, none⟩)), (58, .int .i64 z.a), (59, .pointer (some ⟨b1, 2, none⟩))] (by kernel_rfl) ?_
      refine OI_cell 3 (.tmp 59) 2 (.int .i64 z.b) (some 60) (by kernel_rfl) (by kernel_rfl) hb1 (m := 1) (by kernel_rfl) rfl ?_
      refine OI_call { callee := (Callee.value (Operand.func 39)), args := #[(Operand.tmp 56), (Operand.tmp 58), (Operand.tmp 60)], argTypes := #[46, 3, 3] } 39 #[.pointer (some ⟨x, 0, none⟩), .int .i64 z.a, .int .i64 z.b] (some 61) (by kernel_rfl) (by kernel_rfl) (by kernel_rfl) (rget_spec F2 x cs z.a z.b _ h2) ?_
      rintro _ w67 ⟨rfl, hk68⟩
      refine ⟨_, rfl, ?_⟩
      have hsz69 := Keep.size hk68
      replace hb1 := hb1.keep hk68 (fun f => f)
      have hb1lt := hb1.lt
      replace h1 := Grd.keep h1 hk68 (fun _ _ f => f)
      replace h2 := Rgd.keep h2 hk68 (fun _ _ f => f)
      replace hK0 := Keep.tr hK0 (Keep.ofNone hk68); have hzhK0 := Keep.size hK0
      refine OI_static 11 [(7, .int .i64 ((getC z.a z.b cs).getD 0)), (8, .bool ((getC z.a z.b cs).isSome)), (9, .int .i64 ((getC z.a z.b cs).getD 0)), (10, .bool ((getC z.a z.b cs).isSome))] (by kernel_rfl) ?_
      refine OI_end rfl ?_
      refine X_then ?_
      refine V_seq ?_
      refine V_region ?_
      refine OI_static 4 [(8, .bool ((getC z.a z.b cs).isSome)), (10, .bool ((getC z.a z.b cs).isSome)), (67, .bool (decide ((getC z.a z.b cs).getD 0 = (getC z.a z.b cs).getD 0)))] (by kernel_rfl) ?_
      refine OI_eq [(8, .bool ((getC z.a z.b cs).isSome)), (10, .bool ((getC z.a z.b cs).isSome)), (67, .bool true)] (by rw [decide_eq_true (rfl : (getC z.a z.b cs).getD 0 = (getC z.a z.b cs).getD 0)]) ?_
      refine OI_static 9 [(6, .bool (((getC z.a z.b cs).isSome) == ((getC z.a z.b cs).isSome)))] (by kernel_rfl) ?_
      refine OI_end rfl ?_
      refine X_then ?_
      refine V_ret ?_
      have hE : actC z cs = cs := by unfold actC; rw [if_neg hc3]; rw [if_neg hc30]
      rw [hE]
      exact X_return (.bool (((getC z.a z.b cs).isSome) == ((getC z.a z.b cs).isSome))) rfl ⟨by simp, ⟨F1, F2, h1, h2, hrF1, hrF2, hdis⟩, hK0⟩

set_option maxRecDepth 10000 in
theorem built_spec (A : Option Addr) (cap : Nat) (xs : List Ac4) (w : World) (hA0 : ArgT w 4 Ac4.cells A cap xs) (hcap : xs.length ≤ 9223372036854775807) : Calls Try.prog 25 #[.slice A xs.length cap] w fun e w' => ∃ g F1 x F2, e = .returned (.tuple #[.pointer (some ⟨g, 0, none⟩), .pointer (some ⟨x, 0, none⟩)]) ∧ Grd F1 w' g (bldC xs (min xs.length 100)) ∧ Rgd F2 w' x (bldC xs (min xs.length 100)) ∧ Keep none_ w w' ∧ (∀ q, F1 q → w.heap.size ≤ q) ∧ (∀ q, F2 q → w.heap.size ≤ q) ∧ (∀ q, F1 q → ¬ F2 q) := by
  have hA := hA0
  have hK0 : Keep none_ w w := Keep.refl _ _
  have hzhK0 := Keep.size hK0
  refine enterV Try.func25 rfl [.slice A xs.length cap] 33 rfl rfl rfl ?_
  refine V_pick [(0, .slice A xs.length cap)] rfl ?_
  refine V_seq ?_
  refine V_region ?_
  refine OI_static 2 [(0, .slice A xs.length cap)] (by kernel_rfl) ?_
  refine OI_end rfl ?_
  refine X_then ?_
  refine V_seq ?_
  refine V_region ?_
  refine OI_call { callee := (Callee.value (Operand.func 10)), args := #[], argTypes := #[] } 10 #[] (some 7) (by kernel_rfl) (by kernel_rfl) (by kernel_rfl) (new_grd _) ?_
  rintro _ w3 ⟨g5, F6, rfl, ho7, hk4, hge8⟩
  refine ⟨_, rfl, ?_⟩
  have hsz9 := Keep.size hk4
  replace hA := ArgT.keep0 hA hk4
  replace hK0 := Keep.tr hK0 (Keep.ofNone hk4); have hzhK0 := Keep.size hK0
  have own10 : ∀ q, F6 q → w.heap.size ≤ q := fun q hq => by have h1 := hge8 q hq; omega
  have lt11 := Grd.lt ho7
  have hg5lt : g5 < w3.heap.size := Grd.lt ho7 _ (Grd.at_ ho7)
  have hg5ge := hge8 _ (Grd.at_ ho7)
  refine OI_static 2 [(0, .slice A xs.length cap), (7, .pointer (some ⟨g5, 0, none⟩)), (8, .agg #[.slice none 0 0])] (by kernel_rfl) ?_
  refine OI_box 49 (.tmp 8) (.agg #[.slice none 0 0]) [.slice none 0 0] (some 9) (by kernel_rfl) (by kernel_rfl) (by kernel_rfl) ?_
  intro b12 w12 e12 hb12 k12 z12
  have hsz13 := Keep.size k12
  replace hA := ArgT.keep0 hA k12
  replace hK0 := Keep.tr hK0 (Keep.ofNone k12); have hzhK0 := Keep.size hK0
  replace ho7 := Grd.keep ho7 k12 (fun _ _ f => f)
  have hb12lt := hb12.lt
  refine OI_static 5 [(0, .slice A xs.length cap), (4, .pointer (some ⟨g5, 0, none⟩)), (5, .pointer (some ⟨b12, 0, none⟩))] (by kernel_rfl) ?_
  refine OI_end rfl ?_
  refine X_then ?_
  refine V_seq ?_
  refine V_seq ?_
  refine V_region ?_
  refine OI_static 1 [(0, .slice A xs.length cap), (4, .pointer (some ⟨g5, 0, none⟩)), (5, .pointer (some ⟨b12, 0, none⟩)), (6, .int .i64 0)] (by kernel_rfl) ?_
  refine OI_end rfl ?_
  refine X_then ?_
  refine V_block ?_
  have ho14 := Rgd.nil hb12
  have hge15 : ∀ q, only b12 q → b12 ≤ q := fun q hq => Nat.le_of_eq (show q = b12 from hq).symm
  have own16 : ∀ q, (only b12) q → b12 ≤ q := fun q hq => by have h1 := hge15 q hq; omega
  have lt17 := Rgd.lt ho14
  have dis18 : ∀ q, (only b12) q → ¬ F6 q := fun q h1 h2 => by have h3 := hge15 q h1; have h4 := lt11 q h2; omega
  have hb12lt := hb12.lt
  refine V_pick [(0, .slice A xs.length cap), (4, .pointer (some ⟨g5, 0, none⟩)), (5, .pointer (some ⟨b12, 0, none⟩)), (6, .int .i64 0)] rfl ?_
  refine V_loop (fun k wI e => ∃ i : Nat, ∃ F19 : Nat → Prop, ∃ F23 : Nat → Prop, (k + i = min xs.length 100) ∧ (i ≤ 100) ∧ (Grd F19 wI g5 (bldC xs i)) ∧ (∀ q, F19 q → w.heap.size ≤ q) ∧ (∀ q, F19 q → F6 q ∨ w12.heap.size ≤ q) ∧ (Rgd F23 wI b12 (bldC xs i)) ∧ (∀ q, F23 q → b12 ≤ q) ∧ (∀ q, F23 q → (only b12) q ∨ w12.heap.size ≤ q) ∧ (∀ q, F23 q → ¬ F19 q) ∧ Keep (fun q => F6 q ∨ (only b12) q) w12 wI ∧ e = [(0, .slice A xs.length cap), (4, .pointer (some ⟨g5, 0, none⟩)), (5, .pointer (some ⟨b12, 0, none⟩)), (6, .int .i64 ((i : Nat) : Int))]) (min xs.length 100) ⟨0, F6, (only b12), by omega, by omega, ho7, (fun q hq => by have h1 := own10 q hq; have h2 := lt11 q hq; omega), fun q h => .inl h, ho14, (fun q hq => by have h1 := own16 q hq; have h2 := lt17 q hq; omega), fun q h => .inl h, dis18, Keep.refl _ _, rfl⟩ ?_
  rintro k29 w28 _ ⟨i, F19, F23, hki, hi9, ho20, own21, rel22, ho24, own25, rel26, dis27, hk30, rfl⟩
  have hsz31 := Keep.size hk30
  replace hA := ArgT.keep hA hk30 hA0 (fun k hk hs => by rcases hs with hs | hs; (have h1 := own10 k hs; have h2 := lt11 k hs; omega); (have h1 := own16 k hs; have h2 := lt17 k hs; omega))
  replace hK0 := Keep.fresh hK0 hk30 (by intro i hi hs; rcases hs with hs | hs; (have h1 := own10 i hs; have h2 := lt11 i hs; omega); (have h1 := own16 i hs; have h2 := lt17 i hs; omega)); have hzhK0 := Keep.size hK0
  have hzhk30 := Keep.size hk30
  have lt32 := Grd.lt ho20
  have hg5lt : g5 < w28.heap.size := Grd.lt ho20 _ (Grd.at_ ho20)
  have lt33 := Rgd.lt ho24
  have hb12lt : b12 < w28.heap.size := Rgd.lt ho24 _ (Rgd.at_ ho24)
  obtain ⟨hbs, hbl⟩ := bldC_ok xs i
  refine V_seq ?_
  refine V_seq ?_
  refine V_region ?_
  refine OI_static 9 [(0, .slice A xs.length cap), (4, .pointer (some ⟨g5, 0, none⟩)), (5, .pointer (some ⟨b12, 0, none⟩)), (6, .int .i64 ((i : Nat) : Int)), (13, .int .i64 ((i : Nat) : Int)), (14, .slice A xs.length cap), (15, .int .i64 ((xs.length : Nat) : Int)), (16, .bool (decide (((i : Nat) : Int) < ((xs.length : Nat) : Int)))), (18, .bool (decide (((i : Nat) : Int) < ((xs.length : Nat) : Int))))] (by kernel_rfl) ?_
  by_cases hg34 : ((i : Nat) : Int) < ((xs.length : Nat) : Int)
  · skip
    refine OI_eq [(0, .slice A xs.length cap), (4, .pointer (some ⟨g5, 0, none⟩)), (5, .pointer (some ⟨b12, 0, none⟩)), (6, .int .i64 ((i : Nat) : Int)), (13, .int .i64 ((i : Nat) : Int)), (14, .slice A xs.length cap), (15, .int .i64 ((xs.length : Nat) : Int)), (16, .bool (decide (((i : Nat) : Int) < ((xs.length : Nat) : Int)))), (18, .bool true)] (by first | simp [hg34] | rfl) ?_
    refine OI_static 12 [(0, .slice A xs.length cap), (4, .pointer (some ⟨g5, 0, none⟩)), (5, .pointer (some ⟨b12, 0, none⟩)), (6, .int .i64 ((i : Nat) : Int)), (13, .int .i64 ((i : Nat) : Int)), (14, .slice A xs.length cap), (15, .int .i64 ((xs.length : Nat) : Int)), (16, .bool (decide (((i : Nat) : Int) < ((xs.length : Nat) : Int)))), (19, .int .i64 ((i : Nat) : Int)), (20, .bool (decide (((i : Nat) : Int) < 100))), (21, .bool (decide (((i : Nat) : Int) < 100)))] (by kernel_rfl) ?_
    refine OI_end rfl ?_
    refine X_then ?_
    refine V_if (((i : Nat) : Int) < 100) (by kernel_rfl) (fun hc35 => ?_) (fun hc35 => ?_)
    · skip
      refine V_skip ?_
      refine X_then ?_
      refine V_seq ?_
      refine V_block ?_
      refine V_region ?_
      refine OI_static 4 [(0, .slice A xs.length cap), (4, .pointer (some ⟨g5, 0, none⟩)), (5, .pointer (some ⟨b12, 0, none⟩)), (6, .int .i64 ((i : Nat) : Int)), (13, .int .i64 ((i : Nat) : Int)), (14, .slice A xs.length cap), (15, .int .i64 ((xs.length : Nat) : Int)), (16, .bool (decide (((i : Nat) : Int) < ((xs.length : Nat) : Int)))), (19, .int .i64 ((i : Nat) : Int)), (20, .bool (decide (((i : Nat) : Int) < 100))), (24, .pointer (some ⟨g5, 0, none⟩)), (25, .pointer (some ⟨b12, 0, none⟩)), (26, .slice A xs.length cap), (27, .int .i64 ((i : Nat) : Int))] (by kernel_rfl) ?_
      obtain ⟨b36, o36, L36, rfl, hat36⟩ := ArgT.open_ hA (by first | omega | (simp only [List.length_map]; omega) | (simp; done) | (simp; omega))
      have hb36lt0 := ArgT.lt hA0 (by first | omega | (simp only [List.length_map]; omega) | (simp; done) | (simp; omega))
      have hb36lt := hat36.blk.lt
      refine OI_pure (some 28) (.indexAddr 40 (.tmp 26) (.tmp 27)) (by kernel_rfl) (pure_idxN (b := b36) (o := o36) (len := xs.length) (cap := cap) (kd := .i64) (j := i) (E := 42) (sz := 4) (by_ := 32) (by kernel_rfl) (by kernel_rfl) (by kernel_rfl) (by omega)) ?_
      obtain ⟨x37, hx38⟩ : ∃ x, xs[i]? = some x := ⟨_, List.getElem?_eq_getElem (by first | omega | (simp only [List.length_map]; omega))⟩
      refine OI_aggR 42 (.tmp 28) (o36 + i * 4) (Ac4.cells x37) (some 29) (by kernel_rfl) (by kernel_rfl) hat36.blk (m := 4) (by kernel_rfl) (AtR.elem' hat36 _ _ (es_at hx38)) (AtR.len hat36 (es_at hx38)) ?_
      refine OI_call { callee := (Callee.value (Operand.func 22)), args := #[(Operand.tmp 24), (Operand.tmp 25), (Operand.tmp 29)], argTypes := #[22, 46, 42] } 22 #[.pointer (some ⟨g5, 0, none⟩), .pointer (some ⟨b12, 0, none⟩), .agg (Ac4.cells x37).toArray] (some 30) (by kernel_rfl) (by kernel_rfl) (by kernel_rfl) (act_spec F19 F23 g5 b12 (bldC xs i) x37 _ ho20 ho24 (fun q h1 h2 => dis27 q h2 h1) (by omega)) ?_
      rintro _ w39 ⟨rfl, ⟨F41, F44, ho42, ho45, hfr43, hfr46, hdis47⟩, hk40⟩
      refine ⟨_, rfl, ?_⟩
      have hsz48 := Keep.size hk40
      replace hat36 := hat36.keep hk40 (fun hs => by rcases hs with hs | hs; (have u0 := own21 _ hs; have u1 := lt32 _ hs; omega); (have u0 := own25 _ hs; have u1 := lt33 _ hs; omega))
      have hb36lt := hat36.blk.lt
      replace hK0 := Keep.fresh hK0 hk40 (by intro i hi hs; first | exact hs | (rcases hs with hs | hs; (have u0 := own21 i hs; have u1 := lt32 i hs; omega); (have u0 := own25 i hs; have u1 := lt33 i hs; omega))); have hzhK0 := Keep.size hK0
      replace hk30 := Keep.fresh hk30 hk40 (fun i hi hs => by rcases hs with hs | hs; (rcases rel22 i hs with h | h; exact .inl h; (exfalso; omega)); (rcases rel26 i hs with h | h; exact .inr h; (exfalso; omega))); have hzhk30 := Keep.size hk30
      have own50 : ∀ q, F41 q → w.heap.size ≤ q := fun q hq => by rcases hfr43 q hq with h | h; (have h1 := own21 q h; have h2 := lt32 q h; omega); omega
      have lt49 := Grd.lt ho42
      have rel51 : ∀ q, F41 q → F6 q ∨ w12.heap.size ≤ q := fun q hq => by rcases hfr43 q hq with h | h; exact rel22 q h; exact .inr (by omega)
      have own53 : ∀ q, F44 q → b12 ≤ q := fun q hq => by rcases hfr46 q hq with h | h; (have h1 := own25 q h; have h2 := lt33 q h; omega); omega
      have lt52 := Rgd.lt ho45
      have rel54 : ∀ q, F44 q → (only b12) q ∨ w12.heap.size ≤ q := fun q hq => by rcases hfr46 q hq with h | h; exact rel26 q h; exact .inr (by omega)
      refine OI_end rfl ?_
      refine X_block ?_
      refine X_then ?_
      refine V_region ?_
      have hw55 : IntKind.i64.wrap (((i : Nat) : Int) + 1) = ((i + 1 : Nat) : Int) := (wrap64_id (by omega) (by omega)).trans (by omega)
      refine OI_static 2 [(0, .slice (some ⟨b36, o36, none⟩) xs.length cap), (4, .pointer (some ⟨g5, 0, none⟩)), (5, .pointer (some ⟨b12, 0, none⟩)), (13, .int .i64 ((i : Nat) : Int)), (14, .slice (some ⟨b36, o36, none⟩) xs.length cap), (15, .int .i64 ((xs.length : Nat) : Int)), (16, .bool (decide (((i : Nat) : Int) < ((xs.length : Nat) : Int)))), (19, .int .i64 ((i : Nat) : Int)), (20, .bool (decide (((i : Nat) : Int) < 100))), (23, .int .i64 (IntKind.i64.wrap (((i : Nat) : Int) + 1)))] (by kernel_rfl) ?_
      refine OI_eq [(0, .slice (some ⟨b36, o36, none⟩) xs.length cap), (4, .pointer (some ⟨g5, 0, none⟩)), (5, .pointer (some ⟨b12, 0, none⟩)), (13, .int .i64 ((i : Nat) : Int)), (14, .slice (some ⟨b36, o36, none⟩) xs.length cap), (15, .int .i64 ((xs.length : Nat) : Int)), (16, .bool (decide (((i : Nat) : Int) < ((xs.length : Nat) : Int)))), (19, .int .i64 ((i : Nat) : Int)), (20, .bool (decide (((i : Nat) : Int) < 100))), (23, .int .i64 ((i + 1 : Nat) : Int))] (by rw [hw55]) ?_
      refine OI_static 3 [(0, .slice (some ⟨b36, o36, none⟩) xs.length cap), (4, .pointer (some ⟨g5, 0, none⟩)), (5, .pointer (some ⟨b12, 0, none⟩)), (6, .int .i64 ((i + 1 : Nat) : Int)), (13, .int .i64 ((i : Nat) : Int)), (14, .slice (some ⟨b36, o36, none⟩) xs.length cap), (15, .int .i64 ((xs.length : Nat) : Int)), (16, .bool (decide (((i : Nat) : Int) < ((xs.length : Nat) : Int)))), (19, .int .i64 ((i : Nat) : Int)), (20, .bool (decide (((i : Nat) : Int) < 100)))] (by kernel_rfl) ?_
      refine OI_end rfl ?_
      rw [bldC_step hx38] at ho42 ho45
      exact V_again (k29 - 1) (by omega) [(0, .slice (some ⟨b36, o36, none⟩) xs.length cap), (4, .pointer (some ⟨g5, 0, none⟩)), (5, .pointer (some ⟨b12, 0, none⟩)), (6, .int .i64 ((i + 1 : Nat) : Int))] rfl ⟨i + 1, F41, F44, by omega, by omega, ho42, (fun q hq => by have h1 := own50 q hq; have h2 := lt49 q hq; omega), rel51, ho45, (fun q hq => by have h1 := own53 q hq; have h2 := lt52 q hq; omega), rel54, (fun q h1 h2 => hdis47 q h2 h1), hk30, rfl⟩
    · skip
      refine V_exit ?_
      refine X_exit_then ?_
      refine X_exit_then ?_
      refine X_exit_here ?_
      refine X_then ?_
      refine V_seq ?_
      refine V_region ?_
      refine OI_static 4 [(2, .pointer (some ⟨g5, 0, none⟩)), (3, .pointer (some ⟨b12, 0, none⟩))] (by kernel_rfl) ?_
      refine OI_end rfl ?_
      refine X_then ?_
      refine V_ret ?_
      have hie : i = min xs.length 100 := by omega
      subst hie
      exact X_return _ rfl ⟨g5, F19, b12, F23, rfl, ho20, ho24, hK0, fun q hq => by have h9 := own21 q hq; omega, fun q hq => by have h9 := own25 q hq; omega, (fun q h1 h2 => dis27 q h2 h1)⟩
  · skip
    refine OI_eq [(0, .slice A xs.length cap), (4, .pointer (some ⟨g5, 0, none⟩)), (5, .pointer (some ⟨b12, 0, none⟩)), (6, .int .i64 ((i : Nat) : Int)), (13, .int .i64 ((i : Nat) : Int)), (14, .slice A xs.length cap), (15, .int .i64 ((xs.length : Nat) : Int)), (16, .bool (decide (((i : Nat) : Int) < ((xs.length : Nat) : Int)))), (18, .bool false)] (by first | simp [hg34] | rfl) ?_
    refine OI_static 12 [(0, .slice A xs.length cap), (4, .pointer (some ⟨g5, 0, none⟩)), (5, .pointer (some ⟨b12, 0, none⟩)), (6, .int .i64 ((i : Nat) : Int)), (13, .int .i64 ((i : Nat) : Int)), (14, .slice A xs.length cap), (15, .int .i64 ((xs.length : Nat) : Int)), (16, .bool (decide (((i : Nat) : Int) < ((xs.length : Nat) : Int)))), (19, undef), (20, undef), (21, .bool false)] (by kernel_rfl) ?_
    refine OI_end rfl ?_
    refine X_then ?_
    refine V_false rfl ?_
    refine V_exit ?_
    refine X_exit_then ?_
    refine X_exit_then ?_
    refine X_exit_here ?_
    refine X_then ?_
    refine V_seq ?_
    refine V_region ?_
    refine OI_static 4 [(2, .pointer (some ⟨g5, 0, none⟩)), (3, .pointer (some ⟨b12, 0, none⟩))] (by kernel_rfl) ?_
    refine OI_end rfl ?_
    refine X_then ?_
    refine V_ret ?_
    have hie : i = min xs.length 100 := by omega
    subst hie
    exact X_return _ rfl ⟨g5, F19, b12, F23, rfl, ho20, ho24, hK0, fun q hq => by have h9 := own21 q hq; omega, fun q hq => by have h9 := own25 q hq; omega, (fun q h1 h2 => dis27 q h2 h1)⟩
end Go.Al
