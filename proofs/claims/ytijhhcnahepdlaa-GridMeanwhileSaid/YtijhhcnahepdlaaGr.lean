/-
  Walks of package grid.
-/
import Derived.Test.YtijhhcnahepdlaaCmp
import Derived.Test.YtijhhcnahepdlaaIns
namespace Go.Al
open Go Go.RowKit Go.Proofs
/-- A cell of a grid of integers. -/
structure Ci where
  a : Int
  b : Int
  v : Int
def Ci.cells (c : Ci) : List Value := [.int .i64 c.a, .int .i64 c.b, .int .i64 c.v]
theorem Ci.len (c : Ci) : c.cells.length = 3 := rfl
theorem Ci.one (c : Ci) : ∀ u ∈ c.cells, u.oneCell' = true := one_all' rfl
def ordC (a b : Int) (c : Ci) : Int := orI [cmpI c.a a, cmpI c.b b]

set_option maxRecDepth 10000 in
theorem place1_spec (c : Ci) (a b : Int) (w : World) : Calls Try.prog 42 #[.agg c.cells.toArray, .agg #[.int .i64 a, .int .i64 b]] w fun e w' => e = .returned (.int .i64 (ordC a b c)) ∧ Keep none_ w w' := by
  have hK0 : Keep none_ w w := Keep.refl _ _
  have hzhK0 := Keep.size hK0
  refine enterV Try.func42 rfl [.agg (Ci.cells c).toArray, .agg #[.int .i64 a, .int .i64 b]] 19 rfl rfl rfl ?_
  refine V_pick [(0, .agg (Ci.cells c).toArray), (1, .agg #[.int .i64 a, .int .i64 b])] rfl ?_
  refine V_seq ?_
  refine V_region ?_
  refine OI_box 70 (.tmp 0) (.agg (Ci.cells c).toArray) (Ci.cells c) (some 2) (by kernel_rfl) (by kernel_rfl) rfl ?_
  intro b1 w1 e1 hb1 k1 z1
  have hsz2 := Keep.size k1
  replace hK0 := Keep.tr hK0 (Keep.ofNone k1); have hzhK0 := Keep.size hK0
  have hb1lt := hb1.lt
  refine OI_box 68 (.tmp 1) (.agg #[.int .i64 a, .int .i64 b]) [.int .i64 a, .int .i64 b] (some 3) (by kernel_rfl) (by kernel_rfl) (by kernel_rfl) ?_
  intro b3 w3 e3 hb3 k3 z3
  have hsz4 := Keep.size k3
  replace hb1 := hb1.keep k3 (fun f => f)
  have hb1lt := hb1.lt
  replace hK0 := Keep.tr hK0 (Keep.ofNone k3); have hzhK0 := Keep.size hK0
  have hb3lt := hb3.lt
  refine OI_static 3 [(2, .pointer (some ⟨b1, 0, none⟩)), (3, .pointer (some ⟨b3, 0, none⟩))] (by kernel_rfl) ?_
  refine OI_end rfl ?_
  refine X_then ?_
  refine V_seq ?_
  refine V_draws (acts [5, 11, 12, 13]) none_ [[0, 1, 2, 3, 4, 5, 6, 7, 8, 9, 10, 11, 12, 13, 14]] (by kernel_rfl) (by repeat first | exact sure_body (by rintro _ _ ⟨h, _⟩; exact ⟨_, h⟩) | refine sure_then ?_ | refine sure_block ?_ | refine sure_join ?_) (by kernel_rfl) ?_
  intro w6 hk5 he7 L hL8
  have hsz9 := Keep.size hk5
  replace hb1 := hb1.keep hk5 (fun f => f)
  have hb1lt := hb1.lt
  replace hb3 := hb3.keep hk5 (fun f => f)
  have hb3lt := hb3.lt
  replace hK0 := Keep.tr hK0 (Keep.ofNone hk5); have hzhK0 := Keep.size hK0
  have qhb1 := hb1
  have qhb3 := hb3
  have K10 : Keep none_ w6 w6 := Keep.refl _ _
  obtain rfl := List.mem_singleton.1 hL8
  refine GI_static [2, 3, 4, 5, 6, 7, 8, 9, 10, 11, 12, 13, 14] [(2, .pointer (some ⟨b1, 0, none⟩)), (3, .pointer (some ⟨b3, 0, none⟩)), (6, .pointer (some ⟨b1, 0, none⟩))] (by kernel_rfl) ?_
  refine GI_cell 3 (.tmp 6) 0 (.int .i64 c.a) (some 7) (by kernel_rfl) (by kernel_rfl) (by kernel_rfl) qhb1 (fun f => f) (m := 1) (by kernel_rfl) rfl ?_
  refine GI_static [4, 5, 6, 7, 8, 9, 10, 11, 12, 13, 14] [(2, .pointer (some ⟨b1, 0, none⟩)), (3, .pointer (some ⟨b3, 0, none⟩)), (7, .int .i64 c.a), (8, .pointer (some ⟨b3, 0, none⟩))] (by kernel_rfl) ?_
  refine GI_cell 3 (.tmp 8) 0 (.int .i64 a) (some 9) (by kernel_rfl) (by kernel_rfl) (by kernel_rfl) qhb3 (fun f => f) (m := 1) (by kernel_rfl) rfl ?_
  refine GI_call { callee := (Callee.value (Operand.func 44)), args := #[(Operand.tmp 7), (Operand.tmp 9)], argTypes := #[3, 3] } 44 #[.int .i64 c.a, .int .i64 a] (some 10) (by kernel_rfl) (by kernel_rfl) (by kernel_rfl) (by kernel_rfl) (compare_spec c.a a _) ?_
  rintro _ w6 ⟨rfl, rfl⟩
  refine ⟨_, rfl, K10, ?_⟩
  refine GI_static [8, 9, 10, 11, 12, 13, 14] [(3, .pointer (some ⟨b3, 0, none⟩)), (10, .int .i64 (cmpI c.a a)), (12, .pointer (some ⟨b1, 1, none⟩))] (by kernel_rfl) ?_
  refine GI_cell 3 (.tmp 12) 1 (.int .i64 c.b) (some 13) (by kernel_rfl) (by kernel_rfl) (by kernel_rfl) qhb1 (fun f => f) (m := 1) (by kernel_rfl) rfl ?_
  refine GI_static [10, 11, 12, 13, 14] [(10, .int .i64 (cmpI c.a a)), (13, .int .i64 c.b), (14, .pointer (some ⟨b3, 1, none⟩))] (by kernel_rfl) ?_
  refine GI_cell 3 (.tmp 14) 1 (.int .i64 b) (some 15) (by kernel_rfl) (by kernel_rfl) (by kernel_rfl) qhb3 (fun f => f) (m := 1) (by kernel_rfl) rfl ?_
  refine GI_call0 { callee := (Callee.value (Operand.func 44)), args := #[(Operand.tmp 13), (Operand.tmp 15)], argTypes := #[3, 3] } 44 #[.int .i64 c.b, .int .i64 b] (some 16) (by kernel_rfl) (by kernel_rfl) (by kernel_rfl) (by kernel_rfl) (by kernel_rfl) (compare_spec c.b b _) ?_
  rintro _ w6 ⟨rfl, rfl⟩
  refine ⟨_, rfl, ?_⟩
  refine GI_slit (E := 3) (zv := .int .i64 0) (sz := 1) (by_ := 8) 30 2 #[(0, (Operand.tmp 10)), (1, (Operand.tmp 16))] [.int .i64 (cmpI c.a a), .int .i64 (cmpI c.b b)] [.int .i64 (cmpI c.a a), .int .i64 (cmpI c.b b)] (some 17) (by kernel_rfl) (by kernel_rfl) K10 (by kernel_rfl) (by kernel_rfl) (by omega) rfl (by omega) (by intro v hv; simp only [List.mem_cons, List.not_mem_nil, or_false] at hv; rcases hv with rfl | rfl <;> rfl) (by kernel_rfl) rfl ?_
  intro b13 w13 e13 hb13 k13 z13 K14
  have hsz15 := Keep.size k13
  replace hb1 := hb1.keep k13 (fun f => f)
  have hb1lt := hb1.lt
  replace hb3 := hb3.keep k13 (fun f => f)
  have hb3lt := hb3.lt
  replace hK0 := Keep.tr hK0 (Keep.ofNone k13); have hzhK0 := Keep.size hK0
  have hb13lt := hb13.lt
  refine GI_call0 { callee := (Callee.value (Operand.func 43)), args := #[(Operand.tmp 17)], argTypes := #[30] } 43 #[.slice (some ⟨b13, 0, none⟩) 2 2] (some 18) (by kernel_rfl) (by kernel_rfl) (by kernel_rfl) (by kernel_rfl) (by kernel_rfl) (or_spec _ 2 [cmpI c.a a, cmpI c.b b] _ (slt_blk hb13 (fun _ => rfl) rfl) (by simp)) ?_
  rintro _ w13 ⟨rfl, rfl⟩
  refine ⟨_, rfl, ?_⟩
  refine GI_static [] [(4, .int .i64 (orI [cmpI c.a a, cmpI c.b b]))] (by kernel_rfl) ?_
  refine GI_end ?_
  refine X_then ?_
  refine V_ret ?_
  exact X_return (.int .i64 (orI [cmpI c.a a, cmpI c.b b])) rfl ⟨rfl, hK0⟩

theorem bsearch_spec (A : Option Addr) (cap F : Nat) (xs : List Ci) (kl : List Value) (ord : Ci → Int) (w : World) (hA : SlT w 3 Ci.cells A cap xs) (hkl : kl.length = 2) (hn : xs.length ≤ 1000000) (hb : bodied Try.prog F = true)
    (hF : ∀ x w, Calls Try.prog F #[.agg (Ci.cells x).toArray, .agg kl.toArray] w fun e w' => e = .returned (.int .i64 (ord x)) ∧ Keep none_ w w') (hm : ∀ (i j : Nat) x y, i ≤ j → xs[i]? = some x → xs[j]? = some y → ord y < 0 → ord x < 0) :
    Calls Try.prog 41 #[.slice A xs.length cap, .agg kl.toArray, .func (.func F) #[] #[]] w fun e w' => ∃ (i : Nat) (b : Bool), e = .returned (.tuple #[.int .i64 (i : Int), .bool b]) ∧ Keep none_ w w' ∧ i ≤ xs.length ∧ (∀ (j : Nat) y, j < i → xs[j]? = some y → ord y < 0) ∧ (∀ (j : Nat) y, i ≤ j → xs[j]? = some y → ¬ ord y < 0) ∧ b = (match xs[i]? with | some y => decide (ord y = 0) | none => false) := by
  have hK0 : Keep none_ w w := Keep.refl _ _
  have hzhK0 := Keep.size hK0
  refine enterV Try.func41 rfl [.slice A xs.length cap, .agg kl.toArray, .func (.func F) #[] #[]] 49 rfl rfl rfl ?_
  refine V_pick [(0, .slice A xs.length cap), (1, .agg kl.toArray), (2, .func (.func F) #[] #[])] rfl ?_
  refine V_seq ?_
  refine V_region ?_
  refine OI_box 68 (.tmp 1) (.agg kl.toArray) kl (some 4) (by kernel_rfl) (by kernel_rfl) rfl ?_
  intro b1 w1 e1 hb1 k1 z1
  have hsz2 := Keep.size k1
  replace hA := SlT.keep0 hA k1
  replace hK0 := Keep.tr hK0 (Keep.ofNone k1); have hzhK0 := Keep.size hK0
  have hb1lt := hb1.lt
  refine OI_static 3 [(0, .slice A xs.length cap), (2, .func (.func F) #[] #[]), (4, .pointer (some ⟨b1, 0, none⟩))] (by kernel_rfl) ?_
  refine OI_end rfl ?_
  refine X_then ?_
  refine V_seq ?_
  refine V_region ?_
  refine OI_static 3 [(0, .slice A xs.length cap), (2, .func (.func F) #[] #[]), (4, .pointer (some ⟨b1, 0, none⟩)), (8, .int .i64 ((xs.length : Nat) : Int))] (by kernel_rfl) ?_
  refine OI_end rfl ?_
  refine X_then ?_
  refine V_seq ?_
  refine V_region ?_
  refine OI_static 3 [(0, .slice A xs.length cap), (2, .func (.func F) #[] #[]), (4, .pointer (some ⟨b1, 0, none⟩)), (8, .int .i64 ((xs.length : Nat) : Int)), (9, .int .i64 0), (10, .int .i64 ((xs.length : Nat) : Int))] (by kernel_rfl) ?_
  refine OI_end rfl ?_
  refine X_then ?_
  refine V_seq ?_
  refine V_block ?_
  refine V_pick [(0, .slice A xs.length cap), (2, .func (.func F) #[] #[]), (4, .pointer (some ⟨b1, 0, none⟩)), (8, .int .i64 ((xs.length : Nat) : Int)), (9, .int .i64 0), (10, .int .i64 ((xs.length : Nat) : Int))] rfl ?_
  refine V_loop (fun k wI e => ∃ lo : Nat, ∃ hi : Nat, (k + lo = hi) ∧ (lo ≤ hi) ∧ (hi ≤ xs.length) ∧ (∀ (j : Nat) y, j < lo → xs[j]? = some y → ord y < 0) ∧ (∀ (j : Nat) y, hi ≤ j → xs[j]? = some y → ¬ ord y < 0) ∧ Keep none_ w1 wI ∧ e = [(0, .slice A xs.length cap), (2, .func (.func F) #[] #[]), (4, .pointer (some ⟨b1, 0, none⟩)), (8, .int .i64 ((xs.length : Nat) : Int)), (9, .int .i64 ((lo : Nat) : Int)), (10, .int .i64 ((hi : Nat) : Int))]) xs.length ⟨0, xs.length, rfl, Nat.zero_le _, Nat.le_refl _, (fun j y hj => absurd hj (Nat.not_lt_zero _)), (fun j y hj hy => absurd (List.getElem?_eq_some_iff.1 hy).1 (by omega)), Keep.refl _ _, rfl⟩ ?_
  rintro k4 w3 _ ⟨lo, hi, hk2, hlo, hhi, hbef, haft, hk5, rfl⟩
  have hsz6 := Keep.size hk5
  replace hb1 := hb1.keep hk5 (fun f => f)
  have hb1lt := hb1.lt
  replace hA := SlT.keep0 hA hk5
  replace hK0 := Keep.tr hK0 (Keep.ofNone hk5); have hzhK0 := Keep.size hK0
  have hzhk5 := Keep.size hk5
  refine V_seq ?_
  refine V_seq ?_
  refine V_region ?_
  refine OI_static 3 [(0, .slice A xs.length cap), (2, .func (.func F) #[] #[]), (4, .pointer (some ⟨b1, 0, none⟩)), (8, .int .i64 ((xs.length : Nat) : Int)), (9, .int .i64 ((lo : Nat) : Int)), (10, .int .i64 ((hi : Nat) : Int)), (17, .bool (decide (((lo : Nat) : Int) < ((hi : Nat) : Int))))] (by kernel_rfl) ?_
  refine OI_end rfl ?_
  refine X_then ?_
  refine V_if (((lo : Nat) : Int) < ((hi : Nat) : Int)) (by kernel_rfl) (fun hc7 => ?_) (fun hc7 => ?_)
  · skip
    refine V_skip ?_
    refine X_then ?_
    refine V_block ?_
    refine V_seq ?_
    refine V_region ?_
    have hw8 : IntKind.i64.wrap (((lo : Nat) : Int) + ((hi : Nat) : Int)) = ((lo + hi : Nat) : Int) := (wrap64_id (by omega) (by omega)).trans (by omega)
    refine OI_static 3 [(0, .slice A xs.length cap), (2, .func (.func F) #[] #[]), (4, .pointer (some ⟨b1, 0, none⟩)), (8, .int .i64 ((xs.length : Nat) : Int)), (9, .int .i64 ((lo : Nat) : Int)), (10, .int .i64 ((hi : Nat) : Int)), (20, .int .i64 (IntKind.i64.wrap (((lo : Nat) : Int) + ((hi : Nat) : Int))))] (by kernel_rfl) ?_
    refine OI_eq [(0, .slice A xs.length cap), (2, .func (.func F) #[] #[]), (4, .pointer (some ⟨b1, 0, none⟩)), (8, .int .i64 ((xs.length : Nat) : Int)), (9, .int .i64 ((lo : Nat) : Int)), (10, .int .i64 ((hi : Nat) : Int)), (20, .int .i64 ((lo + hi : Nat) : Int))] (by rw [hw8]) ?_
    have hw9 : IntKind.u64.wrap ((lo + hi : Nat) : Int) = ((lo + hi : Nat) : Int) := wrap_u64 (by omega)
    refine OI_static 4 [(0, .slice A xs.length cap), (2, .func (.func F) #[] #[]), (4, .pointer (some ⟨b1, 0, none⟩)), (8, .int .i64 ((xs.length : Nat) : Int)), (9, .int .i64 ((lo : Nat) : Int)), (10, .int .i64 ((hi : Nat) : Int)), (21, .int .u64 (IntKind.u64.wrap ((lo + hi : Nat) : Int)))] (by kernel_rfl) ?_
    refine OI_eq [(0, .slice A xs.length cap), (2, .func (.func F) #[] #[]), (4, .pointer (some ⟨b1, 0, none⟩)), (8, .int .i64 ((xs.length : Nat) : Int)), (9, .int .i64 ((lo : Nat) : Int)), (10, .int .i64 ((hi : Nat) : Int)), (21, .int .u64 ((lo + hi : Nat) : Int))] (by rw [hw9]) ?_
    have hw10 : Int.fdiv ((lo + hi : Nat) : Int) (2 ^ 1) = (((lo + hi) / 2 : Nat) : Int) := shr1 _
    refine OI_static 5 [(0, .slice A xs.length cap), (2, .func (.func F) #[] #[]), (4, .pointer (some ⟨b1, 0, none⟩)), (8, .int .i64 ((xs.length : Nat) : Int)), (9, .int .i64 ((lo : Nat) : Int)), (10, .int .i64 ((hi : Nat) : Int)), (22, .int .u64 (Int.fdiv ((lo + hi : Nat) : Int) (2 ^ 1)))] (by kernel_rfl) ?_
    refine OI_eq [(0, .slice A xs.length cap), (2, .func (.func F) #[] #[]), (4, .pointer (some ⟨b1, 0, none⟩)), (8, .int .i64 ((xs.length : Nat) : Int)), (9, .int .i64 ((lo : Nat) : Int)), (10, .int .i64 ((hi : Nat) : Int)), (22, .int .u64 (((lo + hi) / 2 : Nat) : Int))] (by rw [hw10]) ?_
    have hw11 : IntKind.i64.wrap (((lo + hi) / 2 : Nat) : Int) = (((lo + hi) / 2 : Nat) : Int) := wrap64_id (by omega) (by omega)
    refine OI_static 6 [(0, .slice A xs.length cap), (2, .func (.func F) #[] #[]), (4, .pointer (some ⟨b1, 0, none⟩)), (8, .int .i64 ((xs.length : Nat) : Int)), (9, .int .i64 ((lo : Nat) : Int)), (10, .int .i64 ((hi : Nat) : Int)), (23, .int .i64 (IntKind.i64.wrap (((lo + hi) / 2 : Nat) : Int)))] (by kernel_rfl) ?_
    refine OI_eq [(0, .slice A xs.length cap), (2, .func (.func F) #[] #[]), (4, .pointer (some ⟨b1, 0, none⟩)), (8, .int .i64 ((xs.length : Nat) : Int)), (9, .int .i64 ((lo : Nat) : Int)), (10, .int .i64 ((hi : Nat) : Int)), (23, .int .i64 (((lo + hi) / 2 : Nat) : Int))] (by rw [hw11]) ?_
    refine OI_static 7 [(0, .slice A xs.length cap), (2, .func (.func F) #[] #[]), (4, .pointer (some ⟨b1, 0, none⟩)), (8, .int .i64 ((xs.length : Nat) : Int)), (9, .int .i64 ((lo : Nat) : Int)), (10, .int .i64 ((hi : Nat) : Int)), (11, .int .i64 (((lo + hi) / 2 : Nat) : Int))] (by kernel_rfl) ?_
    refine OI_end rfl ?_
    refine X_then ?_
    refine V_seq ?_
    refine V_draws (acts [6]) none_ [[0, 1, 2, 3, 4, 5, 6, 7]] (by kernel_rfl) (by repeat first | exact sure_body (by rintro _ _ ⟨_, _, h, _⟩; exact ⟨_, h⟩) | refine sure_then ?_ | refine sure_block ?_ | refine sure_join ?_) (by kernel_rfl) ?_
    intro w13 hk12 he14 L hL15
    have hsz16 := Keep.size hk12
    replace hb1 := hb1.keep hk12 (fun f => f)
    have hb1lt := hb1.lt
    replace hA := SlT.keep0 hA hk12
    replace hK0 := Keep.tr hK0 (Keep.ofNone hk12); have hzhK0 := Keep.size hK0
    replace hk5 := Keep.tr hk5 (Keep.ofNone hk12); have hzhk5 := Keep.size hk5
    have qhb1 := hb1
    have K17 : Keep none_ w13 w13 := Keep.refl _ _
    obtain rfl := List.mem_singleton.1 hL15
    refine GI_static [3, 4, 5, 6, 7] [(0, .slice A xs.length cap), (2, .func (.func F) #[] #[]), (4, .pointer (some ⟨b1, 0, none⟩)), (8, .int .i64 ((xs.length : Nat) : Int)), (9, .int .i64 ((lo : Nat) : Int)), (10, .int .i64 ((hi : Nat) : Int)), (11, .int .i64 (((lo + hi) / 2 : Nat) : Int)), (24, .func (.func F) #[] #[]), (25, .slice A xs.length cap), (26, .int .i64 (((lo + hi) / 2 : Nat) : Int))] (by kernel_rfl) ?_
    obtain ⟨b18, o18, L18, T18, rfl, hat18⟩ := SlT.open_ hA (by first | omega | (simp only [List.length_map]; omega) | (simp; done) | (simp; omega))
    have hb18lt := hat18.blk.lt
    refine GI_pure (some 27) (.indexAddr 64 (.tmp 25) (.tmp 26)) (by kernel_rfl) (by kernel_rfl) (pure_idxN (b := b18) (o := o18) (len := xs.length) (cap := cap) (kd := .i64) (j := (lo + hi) / 2) (E := 70) (sz := 3) (by_ := 24) (by kernel_rfl) (by kernel_rfl) (by kernel_rfl) (by omega)) ?_
    obtain ⟨x19, hx20⟩ : ∃ x, xs[(lo + hi) / 2]? = some x := ⟨_, List.getElem?_eq_getElem (by first | omega | (simp only [List.length_map]; omega))⟩
    refine GI_agg 70 (.tmp 27) (o18 + ((lo + hi) / 2) * 3) (Ci.cells x19) (some 28) (by kernel_rfl) (by kernel_rfl) (by kernel_rfl) hat18.blk (fun f => f) (m := 3) (by kernel_rfl) (At.elem' hat18 (es_at hx20)) (At.len hat18 (es_at hx20)) ?_
    refine GI_agg 68 (.tmp 4) 0 kl (some 29) (by kernel_rfl) (by kernel_rfl) (by kernel_rfl) qhb1 (fun f => f) (m := 2) (by kernel_rfl) (take_all hkl) hkl ?_
    refine GI_call0 { callee := (Callee.value (Operand.tmp 24)), args := #[(Operand.tmp 28), (Operand.tmp 29)], argTypes := #[70, 68] } F #[.agg (Ci.cells x19).toArray, .agg kl.toArray] (some 30) (by kernel_rfl) (by kernel_rfl) (by kernel_rfl) (by kernel_rfl) hb (hF x19 _) ?_
    rintro _ w21 ⟨rfl, hk22⟩
    refine ⟨_, rfl, ?_⟩
    have hsz23 := Keep.size hk22
    replace hb1 := hb1.keep hk22 (fun f => f)
    have hb1lt := hb1.lt
    replace hat18 := hat18.keep hk22 (fun f => f)
    have hb18lt := hat18.blk.lt
    replace hK0 := Keep.tr hK0 (Keep.ofNone hk22); have hzhK0 := Keep.size hK0
    replace hk5 := Keep.tr hk5 (Keep.ofNone hk22); have hzhk5 := Keep.size hk5
    refine GI_static [] [(0, .slice (some ⟨b18, o18, none⟩) xs.length cap), (2, .func (.func F) #[] #[]), (4, .pointer (some ⟨b1, 0, none⟩)), (8, .int .i64 ((xs.length : Nat) : Int)), (9, .int .i64 ((lo : Nat) : Int)), (10, .int .i64 ((hi : Nat) : Int)), (11, .int .i64 (((lo + hi) / 2 : Nat) : Int)), (31, .bool (decide (ord x19 < 0)))] (by kernel_rfl) ?_
    refine GI_end ?_
    refine X_then ?_
    refine V_if (ord x19 < 0) (by kernel_rfl) (fun hc24 => ?_) (fun hc24 => ?_)
    · skip
      refine V_region ?_
      have hw25 : IntKind.i64.wrap ((((lo + hi) / 2 : Nat) : Int) + 1) = (((lo + hi) / 2 + 1 : Nat) : Int) := (wrap64_id (by omega) (by omega)).trans (by omega)
      refine OI_static 2 [(0, .slice (some ⟨b18, o18, none⟩) xs.length cap), (2, .func (.func F) #[] #[]), (4, .pointer (some ⟨b1, 0, none⟩)), (8, .int .i64 ((xs.length : Nat) : Int)), (10, .int .i64 ((hi : Nat) : Int)), (33, .int .i64 (IntKind.i64.wrap ((((lo + hi) / 2 : Nat) : Int) + 1)))] (by kernel_rfl) ?_
      refine OI_eq [(0, .slice (some ⟨b18, o18, none⟩) xs.length cap), (2, .func (.func F) #[] #[]), (4, .pointer (some ⟨b1, 0, none⟩)), (8, .int .i64 ((xs.length : Nat) : Int)), (10, .int .i64 ((hi : Nat) : Int)), (33, .int .i64 (((lo + hi) / 2 + 1 : Nat) : Int))] (by rw [hw25]) ?_
      refine OI_static 3 [(0, .slice (some ⟨b18, o18, none⟩) xs.length cap), (2, .func (.func F) #[] #[]), (4, .pointer (some ⟨b1, 0, none⟩)), (8, .int .i64 ((xs.length : Nat) : Int)), (9, .int .i64 (((lo + hi) / 2 + 1 : Nat) : Int)), (10, .int .i64 ((hi : Nat) : Int))] (by kernel_rfl) ?_
      refine OI_end rfl ?_
      refine X_block ?_
      exact V_again (hi - ((lo + hi) / 2 + 1)) (by omega) [(0, .slice (some ⟨b18, o18, none⟩) xs.length cap), (2, .func (.func F) #[] #[]), (4, .pointer (some ⟨b1, 0, none⟩)), (8, .int .i64 ((xs.length : Nat) : Int)), (9, .int .i64 (((lo + hi) / 2 + 1 : Nat) : Int)), (10, .int .i64 ((hi : Nat) : Int))] rfl ⟨(lo + hi) / 2 + 1, hi, by omega, by omega, by omega, fun j y hj hy => hm j ((lo + hi) / 2) y x19 (by omega) hy hx20 hc24, haft, hk5, rfl⟩
    · skip
      refine V_region ?_
      refine OI_static 2 [(0, .slice (some ⟨b18, o18, none⟩) xs.length cap), (2, .func (.func F) #[] #[]), (4, .pointer (some ⟨b1, 0, none⟩)), (8, .int .i64 ((xs.length : Nat) : Int)), (9, .int .i64 ((lo : Nat) : Int)), (10, .int .i64 (((lo + hi) / 2 : Nat) : Int))] (by kernel_rfl) ?_
      refine OI_end rfl ?_
      refine X_block ?_
      exact V_again ((lo + hi) / 2 - lo) (by omega) [(0, .slice (some ⟨b18, o18, none⟩) xs.length cap), (2, .func (.func F) #[] #[]), (4, .pointer (some ⟨b1, 0, none⟩)), (8, .int .i64 ((xs.length : Nat) : Int)), (9, .int .i64 ((lo : Nat) : Int)), (10, .int .i64 (((lo + hi) / 2 : Nat) : Int))] rfl ⟨lo, (lo + hi) / 2, by omega, by omega, by omega, hbef, fun j y hj hy hlt => hc24 (hm ((lo + hi) / 2) j x19 y (by omega) hx20 hy hlt), hk5, rfl⟩
  · skip
    refine V_exit ?_
    refine X_exit_then ?_
    refine X_exit_then ?_
    refine X_exit_here ?_
    refine X_then ?_
    refine V_seq ?_
    refine V_draws (acts [11]) none_ [[1, 2, 3, 4, 5, 6, 7, 8, 9, 10, 11, 0, 12, 13, 14, 15]] (by kernel_rfl) (by repeat first | exact sure_body (by rintro _ _ ⟨_, _, h, _⟩; exact ⟨_, h⟩) | refine sure_then ?_ | refine sure_block ?_ | refine sure_join ?_) (by kernel_rfl) ?_
    intro w27 hk26 he28 L hL29
    have hsz30 := Keep.size hk26
    replace hb1 := hb1.keep hk26 (fun f => f)
    have hb1lt := hb1.lt
    replace hA := SlT.keep0 hA hk26
    replace hK0 := Keep.tr hK0 (Keep.ofNone hk26); have hzhK0 := Keep.size hK0
    have qhb1 := hb1
    have K31 : Keep none_ w27 w27 := Keep.refl _ _
    obtain rfl := List.mem_singleton.1 hL29
    refine GI_static [5, 6, 7, 8, 9, 10, 11, 0, 12, 13, 14, 15] [(0, .slice A xs.length cap), (2, .func (.func F) #[] #[]), (4, .pointer (some ⟨b1, 0, none⟩)), (9, .int .i64 ((lo : Nat) : Int)), (39, .bool (decide (((lo : Nat) : Int) < ((xs.length : Nat) : Int))))] (by kernel_rfl) ?_
    by_cases hg32 : ((lo : Nat) : Int) < ((xs.length : Nat) : Int)
    · skip
      refine GI_eq [(0, .slice A xs.length cap), (2, .func (.func F) #[] #[]), (4, .pointer (some ⟨b1, 0, none⟩)), (9, .int .i64 ((lo : Nat) : Int)), (39, .bool true)] (by first | simp [hg32] | rfl) ?_
      refine GI_static [8, 9, 10, 11, 0, 12, 13, 14, 15] [(4, .pointer (some ⟨b1, 0, none⟩)), (9, .int .i64 ((lo : Nat) : Int)), (39, .bool true), (40, .func (.func F) #[] #[]), (41, .slice A xs.length cap), (42, .int .i64 ((lo : Nat) : Int))] (by kernel_rfl) ?_
      obtain ⟨b33, o33, L33, T33, rfl, hat33⟩ := SlT.open_ hA (by first | omega | (simp only [List.length_map]; omega) | (simp; done) | (simp; omega))
      have hb33lt := hat33.blk.lt
      refine GI_pure (some 43) (.indexAddr 64 (.tmp 41) (.tmp 42)) (by kernel_rfl) (by kernel_rfl) (pure_idxN (b := b33) (o := o33) (len := xs.length) (cap := cap) (kd := .i64) (j := lo) (E := 70) (sz := 3) (by_ := 24) (by kernel_rfl) (by kernel_rfl) (by kernel_rfl) (by omega)) ?_
      obtain ⟨x34, hx35⟩ : ∃ x, xs[lo]? = some x := ⟨_, List.getElem?_eq_getElem (by first | omega | (simp only [List.length_map]; omega))⟩
      refine GI_agg 70 (.tmp 43) (o33 + lo * 3) (Ci.cells x34) (some 44) (by kernel_rfl) (by kernel_rfl) (by kernel_rfl) hat33.blk (fun f => f) (m := 3) (by kernel_rfl) (At.elem' hat33 (es_at hx35)) (At.len hat33 (es_at hx35)) ?_
      refine GI_agg 68 (.tmp 4) 0 kl (some 45) (by kernel_rfl) (by kernel_rfl) (by kernel_rfl) qhb1 (fun f => f) (m := 2) (by kernel_rfl) (take_all hkl) hkl ?_
      refine GI_call0 { callee := (Callee.value (Operand.tmp 40)), args := #[(Operand.tmp 44), (Operand.tmp 45)], argTypes := #[70, 68] } F #[.agg (Ci.cells x34).toArray, .agg kl.toArray] (some 46) (by kernel_rfl) (by kernel_rfl) (by kernel_rfl) (by kernel_rfl) hb (hF x34 _) ?_
      rintro _ w36 ⟨rfl, hk37⟩
      refine ⟨_, rfl, ?_⟩
      have hsz38 := Keep.size hk37
      replace hb1 := hb1.keep hk37 (fun f => f)
      have hb1lt := hb1.lt
      replace hat33 := hat33.keep hk37 (fun f => f)
      have hb33lt := hat33.blk.lt
      replace hK0 := Keep.tr hK0 (Keep.ofNone hk37); have hzhK0 := Keep.size hK0
      refine GI_static [] [(6, .int .i64 ((lo : Nat) : Int)), (7, .bool (decide (ord x34 = 0)))] (by kernel_rfl) ?_
      refine GI_end ?_
      refine X_then ?_
      refine V_ret ?_
      have hlh : lo = hi := by omega
      subst hlh
      exact X_return (.tuple #[.int .i64 ((lo : Nat) : Int), .bool (decide (ord x34 = 0))]) rfl ⟨lo, _, rfl, hK0, by omega, hbef, haft, (by rw [hx35])⟩
    · skip
      refine GI_eq [(0, .slice A xs.length cap), (2, .func (.func F) #[] #[]), (4, .pointer (some ⟨b1, 0, none⟩)), (9, .int .i64 ((lo : Nat) : Int)), (39, .bool false)] (by first | simp [hg32] | rfl) ?_
      refine GI_static [] [(6, .int .i64 ((lo : Nat) : Int)), (7, .bool false)] (by kernel_rfl) ?_
      refine GI_end ?_
      refine X_then ?_
      refine V_ret ?_
      have hlh : lo = hi := by omega
      subst hlh
      exact X_return (.tuple #[.int .i64 ((lo : Nat) : Int), .bool false]) rfl ⟨lo, _, rfl, hK0, by omega, hbef, haft, (by rw [List.getElem?_eq_none (by omega)])⟩
end Go.Al
