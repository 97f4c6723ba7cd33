/-
  Walks of the document's grid.
-/
import Derived.Test.YtijhhcnahepdlaaGr12
namespace Go.Al
open Go Go.RowKit Go.Proofs
/-! ### The document's grid -/
structure RgAt (w : World) (g : Nat) (A : Option Addr) (cap : Nat) (cs : List Ci) : Prop where
  blk : Blk w g [.slice A cs.length cap] 49
  sl : SlT w 3 Ci.cells A cap cs
  off : ¬ inA A g
/-- The grid at g holds the cells cs, in order; its array lies in a block of D. -/
def Rg (D : Nat → Prop) (w : World) (g : Nat) (cs : List Ci) : Prop := Srt cs ∧ cs.length ≤ 100000 ∧ ∃ A cap, RgAt w g A cap cs ∧ ∀ k, inA A k → D k
theorem RgAt.quiet {N g cap : Nat} {A : Option Addr} {cs : List Ci} {W W' : World} (h : RgAt W g A cap cs) (k : Keep (lb N W) W W') : RgAt W' g A cap cs := ⟨h.blk.quiet k, h.sl.quiet k, h.off⟩
theorem RgAt.keep0 {g cap : Nat} {A : Option Addr} {cs : List Ci} {W W' : World} (h : RgAt W g A cap cs) (k : Keep none_ W W') : RgAt W' g A cap cs := ⟨h.blk.keep k (fun f => f), h.sl.keep0 k, h.off⟩
/-- The grid at g holds cs; all of its blocks lie in F. -/
def Rgd (F : Nat → Prop) (w : World) (g : Nat) (cs : List Ci) : Prop := Srt cs ∧ cs.length ≤ 100000 ∧ F g ∧ (∀ q, F q → q < w.heap.size) ∧ ∃ A cap, RgAt w g A cap cs ∧ ∀ q, inA A q → F q
theorem Rgd.lt {F : Nat → Prop} {w : World} {g : Nat} {cs : List Ci} (h : Rgd F w g cs) : ∀ q, F q → q < w.heap.size := h.2.2.2.1
theorem Rgd.at_ {F : Nat → Prop} {w : World} {g : Nat} {cs : List Ci} (h : Rgd F w g cs) : F g := h.2.2.1
theorem Rgd.len {F : Nat → Prop} {w : World} {g : Nat} {cs : List Ci} (h : Rgd F w g cs) : cs.length ≤ 100000 := h.2.1
theorem Rgd.keep {S F : Nat → Prop} {w w' : World} {g : Nat} {cs : List Ci} (h : Rgd F w g cs) (k : Keep S w w') (hS : ∀ q, F q → ¬ S q) : Rgd F w' g cs := by
  obtain ⟨h1, h2, h3, h4, A, cap, h5, h6⟩ := h
  exact ⟨h1, h2, h3, fun q hq => Nat.lt_of_lt_of_le (h4 q hq) k.size, A, cap, ⟨h5.blk.keep k (hS _ h3), h5.sl.keep k (fun q hq => hS q (h6 q hq)), h5.off⟩, h6⟩
theorem Rgd.quiet {N : Nat} {F : Nat → Prop} {w w' : World} {g : Nat} {cs : List Ci} (h : Rgd F w g cs) (k : Keep (lb N w) w w') : Rgd F w' g cs := by
  obtain ⟨h1, h2, h3, h4, A, cap, h5, h6⟩ := h
  exact ⟨h1, h2, h3, fun q hq => Nat.lt_of_lt_of_le (h4 q hq) k.size, A, cap, h5.quiet k, h6⟩
theorem Rgd.mono {F F' : Nat → Prop} {w : World} {g : Nat} {cs : List Ci} (h : Rgd F w g cs) (hF : ∀ q, F q → F' q) (hlt : ∀ q, F' q → q < w.heap.size) : Rgd F' w g cs := by
  obtain ⟨h1, h2, h3, h4, A, cap, h5, h6⟩ := h
  exact ⟨h1, h2, hF _ h3, hlt, A, cap, h5, fun q hq => hF q (h6 q hq)⟩
theorem Rgd.of {D F : Nat → Prop} {w : World} {g : Nat} {cs : List Ci} (h : Rg D w g cs) (hg : F g) (hD : ∀ q, q < w.heap.size → D q → F q) (hlt : ∀ q, F q → q < w.heap.size) : Rgd F w g cs := by
  obtain ⟨h1, h2, A, cap, h5, h6⟩ := h
  exact ⟨h1, h2, hg, hlt, A, cap, h5, fun q hq => hD q (h5.sl.lt q hq) (h6 q hq)⟩
theorem Rgd.gr {F : Nat → Prop} {w : World} {g : Nat} {cs : List Ci} (h : Rgd F w g cs) : Rg F w g cs := by
  obtain ⟨h1, h2, h3, h4, A, cap, h5, h6⟩ := h
  exact ⟨h1, h2, A, cap, h5, h6⟩


set_option maxRecDepth 10000 in
theorem rplace_spec (g cap : Nat) (A : Option Addr) (cs : List Ci) (a b : Int) (w : World) (h : RgAt w g A cap cs) (hs : Srt cs) (hlen : cs.length ≤ 100000) : Calls Try.prog 52 #[.pointer (some ⟨g, 0, none⟩), .int .i64 a, .int .i64 b] w fun e w' => ∃ (i : Nat) (ok : Bool), e = .returned (.tuple #[.int .i64 (i : Int), .bool ok]) ∧ Keep none_ w w' ∧ i ≤ cs.length ∧ (∀ (j : Nat) y, j < i → cs[j]? = some y → ordC a b y < 0) ∧ (∀ (j : Nat) y, i ≤ j → cs[j]? = some y → ¬ ordC a b y < 0) ∧ ok = (match cs[i]? with | some y => decide (ordC a b y = 0) | none => false) := by
  have hgA := h.off
  have hg := h.blk
  have hA := h.sl
  have hglt := hg.lt
  have hltA := SlT.lt hA
  have hAg : ∀ q, inA A q → q ≠ g := fun q hq he => hgA (he ▸ hq)
  have hK0 : Keep none_ w w := Keep.refl _ _
  have hzhK0 := Keep.size hK0
  refine enterV Try.func52 rfl [.pointer (some ⟨g, 0, none⟩), .int .i64 a, .int .i64 b] 86 rfl rfl rfl ?_
  refine V_pick [(0, .pointer (some ⟨g, 0, none⟩)), (1, .int .i64 a), (2, .int .i64 b)] rfl ?_
  refine V_seq ?_
  refine V_region ?_
  refine OI_static 2 [(0, .pointer (some ⟨g, 0, none⟩)), (1, .int .i64 a), (2, .int .i64 b)] (by kernel_rfl) ?_
  refine OI_end rfl ?_
  refine X_then ?_
  refine V_seq ?_
  refine V_region ?_
  refine OI_static 1 [(0, .pointer (some ⟨g, 0, none⟩)), (1, .int .i64 a), (2, .int .i64 b), (8, .int .i64 0)] (by kernel_rfl) ?_
  refine OI_end rfl ?_
  refine X_then ?_
  refine V_seq ?_
  refine V_block ?_
  refine V_pick [(0, .pointer (some ⟨g, 0, none⟩)), (1, .int .i64 a), (2, .int .i64 b), (8, .int .i64 0)] rfl ?_
  refine V_loop (fun k wI e => ∃ i : Nat, (k + i = cs.length) ∧ (∀ (j : Nat) y, j < i → cs[j]? = some y → ordC a b y < 0) ∧ Keep none_ w wI ∧ e = [(0, .pointer (some ⟨g, 0, none⟩)), (1, .int .i64 a), (2, .int .i64 b), (8, .int .i64 ((i : Nat) : Int))]) cs.length ⟨0, by omega, fun j y hj => absurd hj (Nat.not_lt_zero _), Keep.refl _ _, rfl⟩ ?_
  rintro k2 w1 _ ⟨i, hki, hbef, hk3, rfl⟩
  have hsz4 := Keep.size hk3
  replace hg := hg.keep hk3 (fun f => f)
  have hglt := hg.lt
  replace hA := SlT.keep0 hA hk3
  replace hK0 := Keep.tr hK0 (Keep.ofNone hk3); have hzhK0 := Keep.size hK0
  have hzhk3 := Keep.size hk3
  refine V_seq ?_
  refine V_seq ?_
  refine V_region ?_
  refine OI_static 4 [(0, .pointer (some ⟨g, 0, none⟩)), (1, .int .i64 a), (2, .int .i64 b), (8, .int .i64 ((i : Nat) : Int)), (9, .int .i64 ((i : Nat) : Int)), (12, .pointer (some ⟨g, 0, none⟩))] (by kernel_rfl) ?_
  refine OI_cell 47 (.tmp 12) 0 (.slice A cs.length cap) (some 13) (by kernel_rfl) (by kernel_rfl) hg (m := 1) (by kernel_rfl) rfl ?_
  refine OI_static 8 [(0, .pointer (some ⟨g, 0, none⟩)), (1, .int .i64 a), (2, .int .i64 b), (8, .int .i64 ((i : Nat) : Int)), (16, .bool (decide (((i : Nat) : Int) < ((cs.length : Nat) : Int))))] (by kernel_rfl) ?_
  by_cases hg5 : ((i : Nat) : Int) < ((cs.length : Nat) : Int)
  · skip
    refine OI_eq [(0, .pointer (some ⟨g, 0, none⟩)), (1, .int .i64 a), (2, .int .i64 b), (8, .int .i64 ((i : Nat) : Int)), (16, .bool true)] (by first | simp [hg5] | rfl) ?_
    refine OI_static 11 [(0, .pointer (some ⟨g, 0, none⟩)), (1, .int .i64 a), (2, .int .i64 b), (8, .int .i64 ((i : Nat) : Int)), (16, .bool true), (17, .pointer (some ⟨g, 0, none⟩)), (18, .pointer (some ⟨g, 0, none⟩)), (19, .pointer (some ⟨g, 0, none⟩))] (by kernel_rfl) ?_
    refine OI_cell 47 (.tmp 19) 0 (.slice A cs.length cap) (some 20) (by kernel_rfl) (by kernel_rfl) hg (m := 1) (by kernel_rfl) rfl ?_
    refine OI_static 13 [(0, .pointer (some ⟨g, 0, none⟩)), (1, .int .i64 a), (2, .int .i64 b), (8, .int .i64 ((i : Nat) : Int)), (16, .bool true), (17, .pointer (some ⟨g, 0, none⟩)), (18, .pointer (some ⟨g, 0, none⟩)), (19, .pointer (some ⟨g, 0, none⟩)), (20, .slice A cs.length cap), (21, .int .i64 ((i : Nat) : Int))] (by kernel_rfl) ?_
    obtain ⟨b6, o6, L6, T6, rfl, hat6⟩ := SlT.open_ hA (by first | omega | (simp only [List.length_map]; omega) | (simp; done) | (simp; omega))
    have hb6lt := hat6.blk.lt
    have hob7 := hAg b6 ⟨_, rfl, rfl⟩
    have hob8 := hltA b6 ⟨_, rfl, rfl⟩
    refine OI_pure (some 22) (.indexAddr 47 (.tmp 20) (.tmp 21)) (by kernel_rfl) (pure_idxN (b := b6) (o := o6) (len := cs.length) (cap := cap) (kd := .i64) (j := i) (E := 59) (sz := 3) (by_ := 24) (by kernel_rfl) (by kernel_rfl) (by kernel_rfl) (by omega)) ?_
    refine OI_static 15 [(0, .pointer (some ⟨g, 0, none⟩)), (1, .int .i64 a), (2, .int .i64 b), (8, .int .i64 ((i : Nat) : Int)), (16, .bool true), (17, .pointer (some ⟨g, 0, none⟩)), (18, .pointer (some ⟨g, 0, none⟩)), (19, .pointer (some ⟨g, 0, none⟩)), (20, .slice (some ⟨b6, o6, none⟩) cs.length cap), (21, .int .i64 ((i : Nat) : Int)), (22, .pointer (some ⟨b6, o6 + i * 3, none⟩)), (23, .pointer (some ⟨b6, o6 + i * 3, none⟩))] (by kernel_rfl) ?_
    obtain ⟨x9, hx10⟩ : ∃ x, cs[i]? = some x := ⟨_, List.getElem?_eq_getElem (by first | omega | (simp only [List.length_map]; omega))⟩
    refine OI_cell 3 (.tmp 23) (o6 + i * 3) (.int .i64 x9.a) (some 24) (by kernel_rfl) (by kernel_rfl) hat6.blk (m := 1) (by kernel_rfl) (At.cell0 hat6 (es_at hx10) rfl) ?_
    refine OI_static 19 [(0, .pointer (some ⟨g, 0, none⟩)), (1, .int .i64 a), (2, .int .i64 b), (8, .int .i64 ((i : Nat) : Int)), (16, .bool true), (17, .pointer (some ⟨g, 0, none⟩)), (18, .pointer (some ⟨g, 0, none⟩)), (19, .pointer (some ⟨g, 0, none⟩)), (20, .slice (some ⟨b6, o6, none⟩) cs.length cap), (21, .int .i64 ((i : Nat) : Int)), (22, .pointer (some ⟨b6, o6 + i * 3, none⟩)), (23, .pointer (some ⟨b6, o6 + i * 3, none⟩)), (24, .int .i64 x9.a), (25, .int .i64 a), (26, .bool (decide (x9.a < a))), (27, .bool (decide (x9.a < a)))] (by kernel_rfl) ?_
    by_cases hg11 : x9.a < a
    · skip
      refine OI_eq [(0, .pointer (some ⟨g, 0, none⟩)), (1, .int .i64 a), (2, .int .i64 b), (8, .int .i64 ((i : Nat) : Int)), (16, .bool true), (17, .pointer (some ⟨g, 0, none⟩)), (18, .pointer (some ⟨g, 0, none⟩)), (19, .pointer (some ⟨g, 0, none⟩)), (20, .slice (some ⟨b6, o6, none⟩) cs.length cap), (21, .int .i64 ((i : Nat) : Int)), (22, .pointer (some ⟨b6, o6 + i * 3, none⟩)), (23, .pointer (some ⟨b6, o6 + i * 3, none⟩)), (24, .int .i64 x9.a), (25, .int .i64 a), (26, .bool (decide (x9.a < a))), (27, .bool true)] (by first | simp [hg11] | rfl) ?_
      refine OI_static 43 [(0, .pointer (some ⟨g, 0, none⟩)), (1, .int .i64 a), (2, .int .i64 b), (8, .int .i64 ((i : Nat) : Int)), (17, .pointer (some ⟨g, 0, none⟩)), (18, .pointer (some ⟨g, 0, none⟩)), (19, .pointer (some ⟨g, 0, none⟩)), (20, .slice (some ⟨b6, o6, none⟩) cs.length cap), (21, .int .i64 ((i : Nat) : Int)), (22, .pointer (some ⟨b6, o6 + i * 3, none⟩)), (23, .pointer (some ⟨b6, o6 + i * 3, none⟩)), (24, .int .i64 x9.a), (25, .int .i64 a), (26, .bool (decide (x9.a < a))), (27, .bool true), (28, undef), (29, undef), (30, undef), (31, undef), (32, undef), (33, undef), (34, undef), (35, undef), (36, undef), (37, undef), (38, undef), (39, undef), (40, undef), (41, undef), (42, undef), (43, undef), (44, undef), (45, undef), (46, undef), (47, undef), (48, undef), (49, undef), (50, .bool true), (51, .bool true)] (by kernel_rfl) ?_
      refine OI_end rfl ?_
      refine X_then ?_
      refine V_true rfl ?_
      refine V_skip ?_
      refine X_then ?_
      refine V_block ?_
      refine V_region ?_
      have hw12 : IntKind.i64.wrap (((i : Nat) : Int) + 1) = ((i + 1 : Nat) : Int) := (wrap64_id (by omega) (by omega)).trans (by omega)
      refine OI_static 2 [(0, .pointer (some ⟨g, 0, none⟩)), (1, .int .i64 a), (2, .int .i64 b), (17, .pointer (some ⟨g, 0, none⟩)), (18, .pointer (some ⟨g, 0, none⟩)), (19, .pointer (some ⟨g, 0, none⟩)), (20, .slice (some ⟨b6, o6, none⟩) cs.length cap), (21, .int .i64 ((i : Nat) : Int)), (22, .pointer (some ⟨b6, o6 + i * 3, none⟩)), (23, .pointer (some ⟨b6, o6 + i * 3, none⟩)), (24, .int .i64 x9.a), (25, .int .i64 a), (26, .bool (decide (x9.a < a))), (27, .bool true), (28, undef), (29, undef), (30, undef), (31, undef), (32, undef), (33, undef), (34, undef), (35, undef), (36, undef), (37, undef), (38, undef), (39, undef), (40, undef), (41, undef), (42, undef), (43, undef), (44, undef), (45, undef), (46, undef), (47, undef), (48, undef), (49, undef), (50, .bool true), (53, .int .i64 (IntKind.i64.wrap (((i : Nat) : Int) + 1)))] (by kernel_rfl) ?_
      refine OI_eq [(0, .pointer (some ⟨g, 0, none⟩)), (1, .int .i64 a), (2, .int .i64 b), (17, .pointer (some ⟨g, 0, none⟩)), (18, .pointer (some ⟨g, 0, none⟩)), (19, .pointer (some ⟨g, 0, none⟩)), (20, .slice (some ⟨b6, o6, none⟩) cs.length cap), (21, .int .i64 ((i : Nat) : Int)), (22, .pointer (some ⟨b6, o6 + i * 3, none⟩)), (23, .pointer (some ⟨b6, o6 + i * 3, none⟩)), (24, .int .i64 x9.a), (25, .int .i64 a), (26, .bool (decide (x9.a < a))), (27, .bool true), (28, undef), (29, undef), (30, undef), (31, undef), (32, undef), (33, undef), (34, undef), (35, undef), (36, undef), (37, undef), (38, undef), (39, undef), (40, undef), (41, undef), (42, undef), (43, undef), (44, undef), (45, undef), (46, undef), (47, undef), (48, undef), (49, undef), (50, .bool true), (53, .int .i64 ((i + 1 : Nat) : Int))] (by rw [hw12]) ?_
      refine OI_static 3 [(0, .pointer (some ⟨g, 0, none⟩)), (1, .int .i64 a), (2, .int .i64 b), (8, .int .i64 ((i + 1 : Nat) : Int)), (17, .pointer (some ⟨g, 0, none⟩)), (18, .pointer (some ⟨g, 0, none⟩)), (19, .pointer (some ⟨g, 0, none⟩)), (20, .slice (some ⟨b6, o6, none⟩) cs.length cap), (21, .int .i64 ((i : Nat) : Int)), (22, .pointer (some ⟨b6, o6 + i * 3, none⟩)), (23, .pointer (some ⟨b6, o6 + i * 3, none⟩)), (24, .int .i64 x9.a), (25, .int .i64 a), (26, .bool (decide (x9.a < a))), (27, .bool true), (28, undef), (29, undef), (30, undef), (31, undef), (32, undef), (33, undef), (34, undef), (35, undef), (36, undef), (37, undef), (38, undef), (39, undef), (40, undef), (41, undef), (42, undef), (43, undef), (44, undef), (45, undef), (46, undef), (47, undef), (48, undef), (49, undef), (50, .bool true)] (by kernel_rfl) ?_
      refine OI_end rfl ?_
      refine X_block ?_
      exact V_again (k2 - 1) (by omega) [(0, .pointer (some ⟨g, 0, none⟩)), (1, .int .i64 a), (2, .int .i64 b), (8, .int .i64 ((i + 1 : Nat) : Int))] rfl ⟨i + 1, by omega, fun j y hj hy => by rcases Nat.lt_or_ge j i with h9 | h9; exact hbef j y h9 hy; (obtain rfl : j = i := by omega); rw [hx10] at hy; cases hy; rw [ordC_neg]; unfold ltC; omega, hk3, rfl⟩
    · skip
      refine OI_eq [(0, .pointer (some ⟨g, 0, none⟩)), (1, .int .i64 a), (2, .int .i64 b), (8, .int .i64 ((i : Nat) : Int)), (16, .bool true), (17, .pointer (some ⟨g, 0, none⟩)), (18, .pointer (some ⟨g, 0, none⟩)), (19, .pointer (some ⟨g, 0, none⟩)), (20, .slice (some ⟨b6, o6, none⟩) cs.length cap), (21, .int .i64 ((i : Nat) : Int)), (22, .pointer (some ⟨b6, o6 + i * 3, none⟩)), (23, .pointer (some ⟨b6, o6 + i * 3, none⟩)), (24, .int .i64 x9.a), (25, .int .i64 a), (26, .bool (decide (x9.a < a))), (27, .bool false)] (by first | simp [hg11] | rfl) ?_
      refine OI_static 22 [(0, .pointer (some ⟨g, 0, none⟩)), (1, .int .i64 a), (2, .int .i64 b), (8, .int .i64 ((i : Nat) : Int)), (16, .bool true), (17, .pointer (some ⟨g, 0, none⟩)), (18, .pointer (some ⟨g, 0, none⟩)), (19, .pointer (some ⟨g, 0, none⟩)), (20, .slice (some ⟨b6, o6, none⟩) cs.length cap), (21, .int .i64 ((i : Nat) : Int)), (22, .pointer (some ⟨b6, o6 + i * 3, none⟩)), (23, .pointer (some ⟨b6, o6 + i * 3, none⟩)), (24, .int .i64 x9.a), (25, .int .i64 a), (26, .bool (decide (x9.a < a))), (27, .bool false), (28, .pointer (some ⟨g, 0, none⟩)), (29, .pointer (some ⟨g, 0, none⟩)), (30, .pointer (some ⟨g, 0, none⟩))] (by kernel_rfl) ?_
      refine OI_cell 47 (.tmp 30) 0 (.slice (some ⟨b6, o6, none⟩) cs.length cap) (some 31) (by kernel_rfl) (by kernel_rfl) hg (m := 1) (by kernel_rfl) rfl ?_
      refine OI_static 24 [(0, .pointer (some ⟨g, 0, none⟩)), (1, .int .i64 a), (2, .int .i64 b), (8, .int .i64 ((i : Nat) : Int)), (16, .bool true), (17, .pointer (some ⟨g, 0, none⟩)), (18, .pointer (some ⟨g, 0, none⟩)), (19, .pointer (some ⟨g, 0, none⟩)), (20, .slice (some ⟨b6, o6, none⟩) cs.length cap), (21, .int .i64 ((i : Nat) : Int)), (22, .pointer (some ⟨b6, o6 + i * 3, none⟩)), (23, .pointer (some ⟨b6, o6 + i * 3, none⟩)), (24, .int .i64 x9.a), (25, .int .i64 a), (26, .bool (decide (x9.a < a))), (27, .bool false), (28, .pointer (some ⟨g, 0, none⟩)), (29, .pointer (some ⟨g, 0, none⟩)), (30, .pointer (some ⟨g, 0, none⟩)), (31, .slice (some ⟨b6, o6, none⟩) cs.length cap), (32, .int .i64 ((i : Nat) : Int))] (by kernel_rfl) ?_
      refine OI_pure (some 33) (.indexAddr 47 (.tmp 31) (.tmp 32)) (by kernel_rfl) (pure_idxN (b := b6) (o := o6) (len := cs.length) (cap := cap) (kd := .i64) (j := i) (E := 59) (sz := 3) (by_ := 24) (by kernel_rfl) (by kernel_rfl) (by kernel_rfl) (by omega)) ?_
      refine OI_static 26 [(0, .pointer (some ⟨g, 0, none⟩)), (1, .int .i64 a), (2, .int .i64 b), (8, .int .i64 ((i : Nat) : Int)), (16, .bool true), (17, .pointer (some ⟨g, 0, none⟩)), (18, .pointer (some ⟨g, 0, none⟩)), (19, .pointer (some ⟨g, 0, none⟩)), (20, .slice (some ⟨b6, o6, none⟩) cs.length cap), (21, .int .i64 ((i : Nat) : Int)), (22, .pointer (some ⟨b6, o6 + i * 3, none⟩)), (23, .pointer (some ⟨b6, o6 + i * 3, none⟩)), (24, .int .i64 x9.a), (25, .int .i64 a), (26, .bool (decide (x9.a < a))), (27, .bool false), (28, .pointer (some ⟨g, 0, none⟩)), (29, .pointer (some ⟨g, 0, none⟩)), (30, .pointer (some ⟨g, 0, none⟩)), (31, .slice (some ⟨b6, o6, none⟩) cs.length cap), (32, .int .i64 ((i : Nat) : Int)), (33, .pointer (some ⟨b6, o6 + i * 3, none⟩)), (34, .pointer (some ⟨b6, o6 + i * 3, none⟩))] (by kernel_rfl) ?_
      refine OI_cell 3 (.tmp 34) (o6 + i * 3) (.int .i64 x9.a) (some 35) (by kernel_rfl) (by kernel_rfl) hat6.blk (m := 1) (by kernel_rfl) (At.cell0 hat6 (es_at hx10) rfl) ?_
      refine OI_static 30 [(0, .pointer (some ⟨g, 0, none⟩)), (1, .int .i64 a), (2, .int .i64 b), (8, .int .i64 ((i : Nat) : Int)), (16, .bool true), (17, .pointer (some ⟨g, 0, none⟩)), (18, .pointer (some ⟨g, 0, none⟩)), (19, .pointer (some ⟨g, 0, none⟩)), (20, .slice (some ⟨b6, o6, none⟩) cs.length cap), (21, .int .i64 ((i : Nat) : Int)), (22, .pointer (some ⟨b6, o6 + i * 3, none⟩)), (23, .pointer (some ⟨b6, o6 + i * 3, none⟩)), (24, .int .i64 x9.a), (25, .int .i64 a), (26, .bool (decide (x9.a < a))), (27, .bool false), (28, .pointer (some ⟨g, 0, none⟩)), (29, .pointer (some ⟨g, 0, none⟩)), (30, .pointer (some ⟨g, 0, none⟩)), (31, .slice (some ⟨b6, o6, none⟩) cs.length cap), (32, .int .i64 ((i : Nat) : Int)), (33, .pointer (some ⟨b6, o6 + i * 3, none⟩)), (34, .pointer (some ⟨b6, o6 + i * 3, none⟩)), (35, .int .i64 x9.a), (36, .int .i64 a), (37, .bool (decide (x9.a = a))), (38, .bool (decide (x9.a = a)))] (by kernel_rfl) ?_
      by_cases hg13 : x9.a = a
      · skip
        refine OI_eq [(0, .pointer (some ⟨g, 0, none⟩)), (1, .int .i64 a), (2, .int .i64 b), (8, .int .i64 ((i : Nat) : Int)), (16, .bool true), (17, .pointer (some ⟨g, 0, none⟩)), (18, .pointer (some ⟨g, 0, none⟩)), (19, .pointer (some ⟨g, 0, none⟩)), (20, .slice (some ⟨b6, o6, none⟩) cs.length cap), (21, .int .i64 ((i : Nat) : Int)), (22, .pointer (some ⟨b6, o6 + i * 3, none⟩)), (23, .pointer (some ⟨b6, o6 + i * 3, none⟩)), (24, .int .i64 x9.a), (25, .int .i64 a), (26, .bool (decide (x9.a < a))), (27, .bool false), (28, .pointer (some ⟨g, 0, none⟩)), (29, .pointer (some ⟨g, 0, none⟩)), (30, .pointer (some ⟨g, 0, none⟩)), (31, .slice (some ⟨b6, o6, none⟩) cs.length cap), (32, .int .i64 ((i : Nat) : Int)), (33, .pointer (some ⟨b6, o6 + i * 3, none⟩)), (34, .pointer (some ⟨b6, o6 + i * 3, none⟩)), (35, .int .i64 x9.a), (36, .int .i64 a), (37, .bool (decide (x9.a = a))), (38, .bool true)] (by first | simp [hg13] | rfl) ?_
        refine OI_static 33 [(0, .pointer (some ⟨g, 0, none⟩)), (1, .int .i64 a), (2, .int .i64 b), (8, .int .i64 ((i : Nat) : Int)), (16, .bool true), (17, .pointer (some ⟨g, 0, none⟩)), (18, .pointer (some ⟨g, 0, none⟩)), (19, .pointer (some ⟨g, 0, none⟩)), (20, .slice (some ⟨b6, o6, none⟩) cs.length cap), (21, .int .i64 ((i : Nat) : Int)), (22, .pointer (some ⟨b6, o6 + i * 3, none⟩)), (23, .pointer (some ⟨b6, o6 + i * 3, none⟩)), (24, .int .i64 x9.a), (25, .int .i64 a), (26, .bool (decide (x9.a < a))), (27, .bool false), (28, .pointer (some ⟨g, 0, none⟩)), (29, .pointer (some ⟨g, 0, none⟩)), (30, .pointer (some ⟨g, 0, none⟩)), (31, .slice (some ⟨b6, o6, none⟩) cs.length cap), (32, .int .i64 ((i : Nat) : Int)), (33, .pointer (some ⟨b6, o6 + i * 3, none⟩)), (34, .pointer (some ⟨b6, o6 + i * 3, none⟩)), (35, .int .i64 x9.a), (36, .int .i64 a), (37, .bool (decide (x9.a = a))), (38, .bool true), (39, .pointer (some ⟨g, 0, none⟩)), (40, .pointer (some ⟨g, 0, none⟩)), (41, .pointer (some ⟨g, 0, none⟩))] (by kernel_rfl) ?_
        refine OI_cell 47 (.tmp 41) 0 (.slice (some ⟨b6, o6, none⟩) cs.length cap) (some 42) (by kernel_rfl) (by kernel_rfl) hg (m := 1) (by kernel_rfl) rfl ?_
        refine OI_static 35 [(0, .pointer (some ⟨g, 0, none⟩)), (1, .int .i64 a), (2, .int .i64 b), (8, .int .i64 ((i : Nat) : Int)), (16, .bool true), (17, .pointer (some ⟨g, 0, none⟩)), (18, .pointer (some ⟨g, 0, none⟩)), (19, .pointer (some ⟨g, 0, none⟩)), (20, .slice (some ⟨b6, o6, none⟩) cs.length cap), (21, .int .i64 ((i : Nat) : Int)), (22, .pointer (some ⟨b6, o6 + i * 3, none⟩)), (23, .pointer (some ⟨b6, o6 + i * 3, none⟩)), (24, .int .i64 x9.a), (25, .int .i64 a), (26, .bool (decide (x9.a < a))), (27, .bool false), (28, .pointer (some ⟨g, 0, none⟩)), (29, .pointer (some ⟨g, 0, none⟩)), (30, .pointer (some ⟨g, 0, none⟩)), (31, .slice (some ⟨b6, o6, none⟩) cs.length cap), (32, .int .i64 ((i : Nat) : Int)), (33, .pointer (some ⟨b6, o6 + i * 3, none⟩)), (34, .pointer (some ⟨b6, o6 + i * 3, none⟩)), (35, .int .i64 x9.a), (36, .int .i64 a), (37, .bool (decide (x9.a = a))), (38, .bool true), (39, .pointer (some ⟨g, 0, none⟩)), (40, .pointer (some ⟨g, 0, none⟩)), (41, .pointer (some ⟨g, 0, none⟩)), (42, .slice (some ⟨b6, o6, none⟩) cs.length cap), (43, .int .i64 ((i : Nat) : Int))] (by kernel_rfl) ?_
        refine OI_pure (some 44) (.indexAddr 47 (.tmp 42) (.tmp 43)) (by kernel_rfl) (pure_idxN (b := b6) (o := o6) (len := cs.length) (cap := cap) (kd := .i64) (j := i) (E := 59) (sz := 3) (by_ := 24) (by kernel_rfl) (by kernel_rfl) (by kernel_rfl) (by omega)) ?_
        refine OI_static 37 [(0, .pointer (some ⟨g, 0, none⟩)), (1, .int .i64 a), (2, .int .i64 b), (8, .int .i64 ((i : Nat) : Int)), (16, .bool true), (17, .pointer (some ⟨g, 0, none⟩)), (18, .pointer (some ⟨g, 0, none⟩)), (19, .pointer (some ⟨g, 0, none⟩)), (20, .slice (some ⟨b6, o6, none⟩) cs.length cap), (21, .int .i64 ((i : Nat) : Int)), (22, .pointer (some ⟨b6, o6 + i * 3, none⟩)), (23, .pointer (some ⟨b6, o6 + i * 3, none⟩)), (24, .int .i64 x9.a), (25, .int .i64 a), (26, .bool (decide (x9.a < a))), (27, .bool false), (28, .pointer (some ⟨g, 0, none⟩)), (29, .pointer (some ⟨g, 0, none⟩)), (30, .pointer (some ⟨g, 0, none⟩)), (31, .slice (some ⟨b6, o6, none⟩) cs.length cap), (32, .int .i64 ((i : Nat) : Int)), (33, .pointer (some ⟨b6, o6 + i * 3, none⟩)), (34, .pointer (some ⟨b6, o6 + i * 3, none⟩)), (35, .int .i64 x9.a), (36, .int .i64 a), (37, .bool (decide (x9.a = a))), (38, .bool true), (39, .pointer (some ⟨g, 0, none⟩)), (40, .pointer (some ⟨g, 0, none⟩)), (41, .pointer (some ⟨g, 0, none⟩)), (42, .slice (some ⟨b6, o6, none⟩) cs.length cap), (43, .int .i64 ((i : Nat) : Int)), (44, .pointer (some ⟨b6, o6 + i * 3, none⟩)), (45, .pointer (some ⟨b6, o6 + i * 3 + 1, none⟩))] (by kernel_rfl) ?_
        refine OI_cell 3 (.tmp 45) (o6 + i * 3 + 1) (.int .i64 x9.b) (some 46) (by kernel_rfl) (by kernel_rfl) hat6.blk (m := 1) (by kernel_rfl) (At.cell hat6 (es_at hx10) rfl) ?_
        refine OI_static 43 [(0, .pointer (some ⟨g, 0, none⟩)), (1, .int .i64 a), (2, .int .i64 b), (8, .int .i64 ((i : Nat) : Int)), (17, .pointer (some ⟨g, 0, none⟩)), (18, .pointer (some ⟨g, 0, none⟩)), (19, .pointer (some ⟨g, 0, none⟩)), (20, .slice (some ⟨b6, o6, none⟩) cs.length cap), (21, .int .i64 ((i : Nat) : Int)), (22, .pointer (some ⟨b6, o6 + i * 3, none⟩)), (23, .pointer (some ⟨b6, o6 + i * 3, none⟩)), (24, .int .i64 x9.a), (25, .int .i64 a), (26, .bool (decide (x9.a < a))), (27, .bool false), (28, .pointer (some ⟨g, 0, none⟩)), (29, .pointer (some ⟨g, 0, none⟩)), (30, .pointer (some ⟨g, 0, none⟩)), (31, .slice (some ⟨b6, o6, none⟩) cs.length cap), (32, .int .i64 ((i : Nat) : Int)), (33, .pointer (some ⟨b6, o6 + i * 3, none⟩)), (34, .pointer (some ⟨b6, o6 + i * 3, none⟩)), (35, .int .i64 x9.a), (36, .int .i64 a), (37, .bool (decide (x9.a = a))), (38, .bool true), (39, .pointer (some ⟨g, 0, none⟩)), (40, .pointer (some ⟨g, 0, none⟩)), (41, .pointer (some ⟨g, 0, none⟩)), (42, .slice (some ⟨b6, o6, none⟩) cs.length cap), (43, .int .i64 ((i : Nat) : Int)), (44, .pointer (some ⟨b6, o6 + i * 3, none⟩)), (45, .pointer (some ⟨b6, o6 + i * 3 + 1, none⟩)), (46, .int .i64 x9.b), (47, .int .i64 b), (48, .bool (decide (x9.b < b))), (49, .bool (decide (x9.b < b))), (50, .bool (decide (x9.b < b))), (51, .bool (decide (x9.b < b)))] (by kernel_rfl) ?_
        refine OI_end rfl ?_
        refine X_then ?_
        refine V_if (x9.b < b) (by kernel_rfl) (fun hc14 => ?_) (fun hc14 => ?_)
        · skip
          refine V_skip ?_
          refine X_then ?_
          refine V_block ?_
          refine V_region ?_
          have hw15 : IntKind.i64.wrap (((i : Nat) : Int) + 1) = ((i + 1 : Nat) : Int) := (wrap64_id (by omega) (by omega)).trans (by omega)
          refine OI_static 2 [(0, .pointer (some ⟨g, 0, none⟩)), (1, .int .i64 a), (2, .int .i64 b), (17, .pointer (some ⟨g, 0, none⟩)), (18, .pointer (some ⟨g, 0, none⟩)), (19, .pointer (some ⟨g, 0, none⟩)), (20, .slice (some ⟨b6, o6, none⟩) cs.length cap), (21, .int .i64 ((i : Nat) : Int)), (22, .pointer (some ⟨b6, o6 + i * 3, none⟩)), (23, .pointer (some ⟨b6, o6 + i * 3, none⟩)), (24, .int .i64 x9.a), (25, .int .i64 a), (26, .bool (decide (x9.a < a))), (27, .bool false), (28, .pointer (some ⟨g, 0, none⟩)), (29, .pointer (some ⟨g, 0, none⟩)), (30, .pointer (some ⟨g, 0, none⟩)), (31, .slice (some ⟨b6, o6, none⟩) cs.length cap), (32, .int .i64 ((i : Nat) : Int)), (33, .pointer (some ⟨b6, o6 + i * 3, none⟩)), (34, .pointer (some ⟨b6, o6 + i * 3, none⟩)), (35, .int .i64 x9.a), (36, .int .i64 a), (37, .bool (decide (x9.a = a))), (38, .bool true), (39, .pointer (some ⟨g, 0, none⟩)), (40, .pointer (some ⟨g, 0, none⟩)), (41, .pointer (some ⟨g, 0, none⟩)), (42, .slice (some ⟨b6, o6, none⟩) cs.length cap), (43, .int .i64 ((i : Nat) : Int)), (44, .pointer (some ⟨b6, o6 + i * 3, none⟩)), (45, .pointer (some ⟨b6, o6 + i * 3 + 1, none⟩)), (46, .int .i64 x9.b), (47, .int .i64 b), (48, .bool (decide (x9.b < b))), (49, .bool (decide (x9.b < b))), (50, .bool (decide (x9.b < b))), (53, .int .i64 (IntKind.i64.wrap (((i : Nat) : Int) + 1)))] (by kernel_rfl) ?_
          refine OI_eq [(0, .pointer (some ⟨g, 0, none⟩)), (1, .int .i64 a), (2, .int .i64 b), (17, .pointer (some ⟨g, 0, none⟩)), (18, .pointer (some ⟨g, 0, none⟩)), (19, .pointer (some ⟨g, 0, none⟩)), (20, .slice (some ⟨b6, o6, none⟩) cs.length cap), (21, .int .i64 ((i : Nat) : Int)), (22, .pointer (some ⟨b6, o6 + i * 3, none⟩)), (23, .pointer (some ⟨b6, o6 + i * 3, none⟩)), (24, .int .i64 x9.a), (25, .int .i64 a), (26, .bool (decide (x9.a < a))), (27, .bool false), (28, .pointer (some ⟨g, 0, none⟩)), (29, .pointer (some ⟨g, 0, none⟩)), (30, .pointer (some ⟨g, 0, none⟩)), (31, .slice (some ⟨b6, o6, none⟩) cs.length cap), (32, .int .i64 ((i : Nat) : Int)), (33, .pointer (some ⟨b6, o6 + i * 3, none⟩)), (34, .pointer (some ⟨b6, o6 + i * 3, none⟩)), (35, .int .i64 x9.a), (36, .int .i64 a), (37, .bool (decide (x9.a = a))), (38, .bool true), (39, .pointer (some ⟨g, 0, none⟩)), (40, .pointer (some ⟨g, 0, none⟩)), (41, .pointer (some ⟨g, 0, none⟩)), (42, .slice (some ⟨b6, o6, none⟩) cs.length cap), (43, .int .i64 ((i : Nat) : Int)), (44, .pointer (some ⟨b6, o6 + i * 3, none⟩)), (45, .pointer (some ⟨b6, o6 + i * 3 + 1, none⟩)), (46, .int .i64 x9.b), (47, .int .i64 b), (48, .bool (decide (x9.b < b))), (49, .bool (decide (x9.b < b))), (50, .bool (decide (x9.b < b))), (53, .int .i64 ((i + 1 : Nat) : Int))] (by rw [hw15]) ?_
          refine OI_static 3 [(0, .pointer (some ⟨g, 0, none⟩)), (1, .int .i64 a), (2, .int .i64 b), (8, .int .i64 ((i + 1 : Nat) : Int)), (17, .pointer (some ⟨g, 0, none⟩)), (18, .pointer (some ⟨g, 0, none⟩)), (19, .pointer (some ⟨g, 0, none⟩)), (20, .slice (some ⟨b6, o6, none⟩) cs.length cap), (21, .int .i64 ((i : Nat) : Int)), (22, .pointer (some ⟨b6, o6 + i * 3, none⟩)), (23, .pointer (some ⟨b6, o6 + i * 3, none⟩)), (24, .int .i64 x9.a), (25, .int .i64 a), (26, .bool (decide (x9.a < a))), (27, .bool false), (28, .pointer (some ⟨g, 0, none⟩)), (29, .pointer (some ⟨g, 0, none⟩)), (30, .pointer (some ⟨g, 0, none⟩)), (31, .slice (some ⟨b6, o6, none⟩) cs.length cap), (32, .int .i64 ((i : Nat) : Int)), (33, .pointer (some ⟨b6, o6 + i * 3, none⟩)), (34, .pointer (some ⟨b6, o6 + i * 3, none⟩)), (35, .int .i64 x9.a), (36, .int .i64 a), (37, .bool (decide (x9.a = a))), (38, .bool true), (39, .pointer (some ⟨g, 0, none⟩)), (40, .pointer (some ⟨g, 0, none⟩)), (41, .pointer (some ⟨g, 0, none⟩)), (42, .slice (some ⟨b6, o6, none⟩) cs.length cap), (43, .int .i64 ((i : Nat) : Int)), (44, .pointer (some ⟨b6, o6 + i * 3, none⟩)), (45, .pointer (some ⟨b6, o6 + i * 3 + 1, none⟩)), (46, .int .i64 x9.b), (47, .int .i64 b), (48, .bool (decide (x9.b < b))), (49, .bool (decide (x9.b < b))), (50, .bool (decide (x9.b < b)))] (by kernel_rfl) ?_
          refine OI_end rfl ?_
          refine X_block ?_
          exact V_again (k2 - 1) (by omega) [(0, .pointer (some ⟨g, 0, none⟩)), (1, .int .i64 a), (2, .int .i64 b), (8, .int .i64 ((i + 1 : Nat) : Int))] rfl ⟨i + 1, by omega, fun j y hj hy => by rcases Nat.lt_or_ge j i with h9 | h9; exact hbef j y h9 hy; (obtain rfl : j = i := by omega); rw [hx10] at hy; cases hy; rw [ordC_neg]; unfold ltC; omega, hk3, rfl⟩
        · skip
          refine V_exit ?_
          refine X_exit_then ?_
          refine X_exit_then ?_
          refine X_exit_here ?_
          refine X_then ?_
          refine V_seq ?_
          refine V_draws (acts []) none_ [[0, 1, 2, 3, 4, 5, 6, 7, 8, 9, 10, 11, 12, 13, 14, 15, 16, 17, 18, 19, 20, 21, 22, 23, 24, 25, 26, 27, 28, 29, 30, 31, 32, 33]] (by kernel_rfl) (by repeat first | exact sure_body (by rintro _ _ ⟨_, _, h, _⟩; exact ⟨_, h⟩) | refine sure_then ?_ | refine sure_block ?_ | refine sure_join ?_) (by kernel_rfl) ?_
          intro w17 hk16 he18 L hL19
          have hsz20 := Keep.size hk16
          replace hg := hg.keep hk16 (fun f => f)
          have hglt := hg.lt
          replace hat6 := hat6.keep hk16 (fun f => f)
          have hb6lt := hat6.blk.lt
          replace hK0 := Keep.tr hK0 (Keep.ofNone hk16); have hzhK0 := Keep.size hK0
          have qhg := hg
          have qhat6 := hat6
          have K21 : Keep none_ w17 w17 := Keep.refl _ _
          obtain rfl := List.mem_singleton.1 hL19
          refine GI_static [5, 6, 7, 8, 9, 10, 11, 12, 13, 14, 15, 16, 17, 18, 19, 20, 21, 22, 23, 24, 25, 26, 27, 28, 29, 30, 31, 32, 33] [(0, .pointer (some ⟨g, 0, none⟩)), (1, .int .i64 a), (2, .int .i64 b), (8, .int .i64 ((i : Nat) : Int)), (54, .int .i64 ((i : Nat) : Int)), (55, .int .i64 ((i : Nat) : Int)), (58, .pointer (some ⟨g, 0, none⟩))] (by kernel_rfl) ?_
          refine GI_cell 47 (.tmp 58) 0 (.slice (some ⟨b6, o6, none⟩) cs.length cap) (some 59) (by kernel_rfl) (by kernel_rfl) (by kernel_rfl) qhg (fun f => f) (m := 1) (by kernel_rfl) rfl ?_
          refine GI_static [9, 10, 11, 12, 13, 14, 15, 16, 17, 18, 19, 20, 21, 22, 23, 24, 25, 26, 27, 28, 29, 30, 31, 32, 33] [(0, .pointer (some ⟨g, 0, none⟩)), (1, .int .i64 a), (2, .int .i64 b), (8, .int .i64 ((i : Nat) : Int)), (54, .int .i64 ((i : Nat) : Int)), (62, .bool (decide (((i : Nat) : Int) < ((cs.length : Nat) : Int))))] (by kernel_rfl) ?_
          by_cases hg22 : ((i : Nat) : Int) < ((cs.length : Nat) : Int)
          · skip
            refine GI_eq [(0, .pointer (some ⟨g, 0, none⟩)), (1, .int .i64 a), (2, .int .i64 b), (8, .int .i64 ((i : Nat) : Int)), (54, .int .i64 ((i : Nat) : Int)), (62, .bool true)] (by first | simp [hg22] | rfl) ?_
            refine GI_static [12, 13, 14, 15, 16, 17, 18, 19, 20, 21, 22, 23, 24, 25, 26, 27, 28, 29, 30, 31, 32, 33] [(0, .pointer (some ⟨g, 0, none⟩)), (1, .int .i64 a), (2, .int .i64 b), (8, .int .i64 ((i : Nat) : Int)), (54, .int .i64 ((i : Nat) : Int)), (62, .bool true), (65, .pointer (some ⟨g, 0, none⟩))] (by kernel_rfl) ?_
            refine GI_cell 47 (.tmp 65) 0 (.slice (some ⟨b6, o6, none⟩) cs.length cap) (some 66) (by kernel_rfl) (by kernel_rfl) (by kernel_rfl) qhg (fun f => f) (m := 1) (by kernel_rfl) rfl ?_
            refine GI_static [14, 15, 16, 17, 18, 19, 20, 21, 22, 23, 24, 25, 26, 27, 28, 29, 30, 31, 32, 33] [(0, .pointer (some ⟨g, 0, none⟩)), (1, .int .i64 a), (2, .int .i64 b), (8, .int .i64 ((i : Nat) : Int)), (54, .int .i64 ((i : Nat) : Int)), (62, .bool true), (66, .slice (some ⟨b6, o6, none⟩) cs.length cap), (67, .int .i64 ((i : Nat) : Int))] (by kernel_rfl) ?_
            refine GI_pure (some 68) (.indexAddr 47 (.tmp 66) (.tmp 67)) (by kernel_rfl) (by kernel_rfl) (pure_idxN (b := b6) (o := o6) (len := cs.length) (cap := cap) (kd := .i64) (j := i) (E := 59) (sz := 3) (by_ := 24) (by kernel_rfl) (by kernel_rfl) (by kernel_rfl) (by omega)) ?_
            refine GI_static [16, 17, 18, 19, 20, 21, 22, 23, 24, 25, 26, 27, 28, 29, 30, 31, 32, 33] [(0, .pointer (some ⟨g, 0, none⟩)), (1, .int .i64 a), (2, .int .i64 b), (8, .int .i64 ((i : Nat) : Int)), (54, .int .i64 ((i : Nat) : Int)), (62, .bool true), (69, .pointer (some ⟨b6, o6 + i * 3, none⟩))] (by kernel_rfl) ?_
            refine GI_cell 3 (.tmp 69) (o6 + i * 3) (.int .i64 x9.a) (some 70) (by kernel_rfl) (by kernel_rfl) (by kernel_rfl) qhat6.blk (fun f => f) (m := 1) (by kernel_rfl) (At.cell0 qhat6 (es_at hx10) rfl) ?_
            refine GI_static [21, 22, 23, 24, 25, 26, 27, 28, 29, 30, 31, 32, 33] [(0, .pointer (some ⟨g, 0, none⟩)), (2, .int .i64 b), (8, .int .i64 ((i : Nat) : Int)), (54, .int .i64 ((i : Nat) : Int)), (74, .bool (decide (x9.a = a)))] (by kernel_rfl) ?_
            by_cases hg23 : x9.a = a
            · skip
              refine GI_eq [(0, .pointer (some ⟨g, 0, none⟩)), (2, .int .i64 b), (8, .int .i64 ((i : Nat) : Int)), (54, .int .i64 ((i : Nat) : Int)), (74, .bool true)] (by first | simp [hg23] | rfl) ?_
              refine GI_static [24, 25, 26, 27, 28, 29, 30, 31, 32, 33] [(2, .int .i64 b), (8, .int .i64 ((i : Nat) : Int)), (54, .int .i64 ((i : Nat) : Int)), (74, .bool true), (77, .pointer (some ⟨g, 0, none⟩))] (by kernel_rfl) ?_
              refine GI_cell 47 (.tmp 77) 0 (.slice (some ⟨b6, o6, none⟩) cs.length cap) (some 78) (by kernel_rfl) (by kernel_rfl) (by kernel_rfl) qhg (fun f => f) (m := 1) (by kernel_rfl) rfl ?_
              refine GI_static [26, 27, 28, 29, 30, 31, 32, 33] [(2, .int .i64 b), (54, .int .i64 ((i : Nat) : Int)), (74, .bool true), (78, .slice (some ⟨b6, o6, none⟩) cs.length cap), (79, .int .i64 ((i : Nat) : Int))] (by kernel_rfl) ?_
              refine GI_pure (some 80) (.indexAddr 47 (.tmp 78) (.tmp 79)) (by kernel_rfl) (by kernel_rfl) (pure_idxN (b := b6) (o := o6) (len := cs.length) (cap := cap) (kd := .i64) (j := i) (E := 59) (sz := 3) (by_ := 24) (by kernel_rfl) (by kernel_rfl) (by kernel_rfl) (by omega)) ?_
              refine GI_static [28, 29, 30, 31, 32, 33] [(2, .int .i64 b), (54, .int .i64 ((i : Nat) : Int)), (74, .bool true), (81, .pointer (some ⟨b6, o6 + i * 3 + 1, none⟩))] (by kernel_rfl) ?_
              refine GI_cell 3 (.tmp 81) (o6 + i * 3 + 1) (.int .i64 x9.b) (some 82) (by kernel_rfl) (by kernel_rfl) (by kernel_rfl) qhat6.blk (fun f => f) (m := 1) (by kernel_rfl) (At.cell qhat6 (es_at hx10) rfl) ?_
              refine GI_static [] [(6, .int .i64 ((i : Nat) : Int)), (7, .bool (decide (x9.b = b)))] (by kernel_rfl) ?_
              refine GI_end ?_
              refine X_then ?_
              refine V_ret ?_
              have haft : ∀ (j : Nat) y, i ≤ j → cs[j]? = some y → ¬ ordC a b y < 0 := fun j y hj hy hlt => by have h9 := Srt.mono hs a b i j x9 y hj hx10 hy hlt; rw [ordC_neg] at h9; unfold ltC at h9; omega
              exact X_return (.tuple #[.int .i64 ((i : Nat) : Int), .bool (decide (x9.b = b))]) rfl ⟨i, _, rfl, hK0, by omega, hbef, haft, by rw [hx10]; first | exact (decide_eq_false (by rw [ordC_zero]; omega)).symm | exact decide_eq_decide.2 (by rw [ordC_zero]; omega)⟩
            · skip
              exact absurd hg13 hg23
          · skip
            exact absurd hg5 hg22
      · skip
        refine OI_eq [(0, .pointer (some ⟨g, 0, none⟩)), (1, .int .i64 a), (2, .int .i64 b), (8, .int .i64 ((i : Nat) : Int)), (16, .bool true), (17, .pointer (some ⟨g, 0, none⟩)), (18, .pointer (some ⟨g, 0, none⟩)), (19, .pointer (some ⟨g, 0, none⟩)), (20, .slice (some ⟨b6, o6, none⟩) cs.length cap), (21, .int .i64 ((i : Nat) : Int)), (22, .pointer (some ⟨b6, o6 + i * 3, none⟩)), (23, .pointer (some ⟨b6, o6 + i * 3, none⟩)), (24, .int .i64 x9.a), (25, .int .i64 a), (26, .bool (decide (x9.a < a))), (27, .bool false), (28, .pointer (some ⟨g, 0, none⟩)), (29, .pointer (some ⟨g, 0, none⟩)), (30, .pointer (some ⟨g, 0, none⟩)), (31, .slice (some ⟨b6, o6, none⟩) cs.length cap), (32, .int .i64 ((i : Nat) : Int)), (33, .pointer (some ⟨b6, o6 + i * 3, none⟩)), (34, .pointer (some ⟨b6, o6 + i * 3, none⟩)), (35, .int .i64 x9.a), (36, .int .i64 a), (37, .bool (decide (x9.a = a))), (38, .bool false)] (by first | simp [hg13] | rfl) ?_
        refine OI_static 43 [(0, .pointer (some ⟨g, 0, none⟩)), (1, .int .i64 a), (2, .int .i64 b), (8, .int .i64 ((i : Nat) : Int)), (17, .pointer (some ⟨g, 0, none⟩)), (18, .pointer (some ⟨g, 0, none⟩)), (19, .pointer (some ⟨g, 0, none⟩)), (20, .slice (some ⟨b6, o6, none⟩) cs.length cap), (21, .int .i64 ((i : Nat) : Int)), (22, .pointer (some ⟨b6, o6 + i * 3, none⟩)), (23, .pointer (some ⟨b6, o6 + i * 3, none⟩)), (24, .int .i64 x9.a), (25, .int .i64 a), (26, .bool (decide (x9.a < a))), (27, .bool false), (28, .pointer (some ⟨g, 0, none⟩)), (29, .pointer (some ⟨g, 0, none⟩)), (30, .pointer (some ⟨g, 0, none⟩)), (31, .slice (some ⟨b6, o6, none⟩) cs.length cap), (32, .int .i64 ((i : Nat) : Int)), (33, .pointer (some ⟨b6, o6 + i * 3, none⟩)), (34, .pointer (some ⟨b6, o6 + i * 3, none⟩)), (35, .int .i64 x9.a), (36, .int .i64 a), (37, .bool (decide (x9.a = a))), (38, .bool false), (39, undef), (40, undef), (41, undef), (42, undef), (43, undef), (44, undef), (45, undef), (46, undef), (47, undef), (48, undef), (49, .bool false), (50, .bool false), (51, .bool false)] (by kernel_rfl) ?_
        refine OI_end rfl ?_
        refine X_then ?_
        refine V_false rfl ?_
        refine V_exit ?_
        refine X_exit_then ?_
        refine X_exit_then ?_
        refine X_exit_here ?_
        refine X_then ?_
        refine V_seq ?_
        refine V_draws (acts []) none_ [[0, 1, 2, 3, 4, 5, 6, 7, 8, 9, 10, 11, 12, 13, 14, 15, 16, 17, 18, 19, 20, 21, 22, 23, 24, 25, 26, 27, 28, 29, 30, 31, 32, 33]] (by kernel_rfl) (by repeat first | exact sure_body (by rintro _ _ ⟨_, _, h, _⟩; exact ⟨_, h⟩) | refine sure_then ?_ | refine sure_block ?_ | refine sure_join ?_) (by kernel_rfl) ?_
        intro w25 hk24 he26 L hL27
        have hsz28 := Keep.size hk24
        replace hg := hg.keep hk24 (fun f => f)
        have hglt := hg.lt
        replace hat6 := hat6.keep hk24 (fun f => f)
        have hb6lt := hat6.blk.lt
        replace hK0 := Keep.tr hK0 (Keep.ofNone hk24); have hzhK0 := Keep.size hK0
        have qhg := hg
        have qhat6 := hat6
        have K29 : Keep none_ w25 w25 := Keep.refl _ _
        obtain rfl := List.mem_singleton.1 hL27
        refine GI_static [5, 6, 7, 8, 9, 10, 11, 12, 13, 14, 15, 16, 17, 18, 19, 20, 21, 22, 23, 24, 25, 26, 27, 28, 29, 30, 31, 32, 33] [(0, .pointer (some ⟨g, 0, none⟩)), (1, .int .i64 a), (2, .int .i64 b), (8, .int .i64 ((i : Nat) : Int)), (54, .int .i64 ((i : Nat) : Int)), (55, .int .i64 ((i : Nat) : Int)), (58, .pointer (some ⟨g, 0, none⟩))] (by kernel_rfl) ?_
        refine GI_cell 47 (.tmp 58) 0 (.slice (some ⟨b6, o6, none⟩) cs.length cap) (some 59) (by kernel_rfl) (by kernel_rfl) (by kernel_rfl) qhg (fun f => f) (m := 1) (by kernel_rfl) rfl ?_
        refine GI_static [9, 10, 11, 12, 13, 14, 15, 16, 17, 18, 19, 20, 21, 22, 23, 24, 25, 26, 27, 28, 29, 30, 31, 32, 33] [(0, .pointer (some ⟨g, 0, none⟩)), (1, .int .i64 a), (2, .int .i64 b), (8, .int .i64 ((i : Nat) : Int)), (54, .int .i64 ((i : Nat) : Int)), (62, .bool (decide (((i : Nat) : Int) < ((cs.length : Nat) : Int))))] (by kernel_rfl) ?_
        by_cases hg30 : ((i : Nat) : Int) < ((cs.length : Nat) : Int)
        · skip
          refine GI_eq [(0, .pointer (some ⟨g, 0, none⟩)), (1, .int .i64 a), (2, .int .i64 b), (8, .int .i64 ((i : Nat) : Int)), (54, .int .i64 ((i : Nat) : Int)), (62, .bool true)] (by first | simp [hg30] | rfl) ?_
          refine GI_static [12, 13, 14, 15, 16, 17, 18, 19, 20, 21, 22, 23, 24, 25, 26, 27, 28, 29, 30, 31, 32, 33] [(0, .pointer (some ⟨g, 0, none⟩)), (1, .int .i64 a), (2, .int .i64 b), (8, .int .i64 ((i : Nat) : Int)), (54, .int .i64 ((i : Nat) : Int)), (62, .bool true), (65, .pointer (some ⟨g, 0, none⟩))] (by kernel_rfl) ?_
          refine GI_cell 47 (.tmp 65) 0 (.slice (some ⟨b6, o6, none⟩) cs.length cap) (some 66) (by kernel_rfl) (by kernel_rfl) (by kernel_rfl) qhg (fun f => f) (m := 1) (by kernel_rfl) rfl ?_
          refine GI_static [14, 15, 16, 17, 18, 19, 20, 21, 22, 23, 24, 25, 26, 27, 28, 29, 30, 31, 32, 33] [(0, .pointer (some ⟨g, 0, none⟩)), (1, .int .i64 a), (2, .int .i64 b), (8, .int .i64 ((i : Nat) : Int)), (54, .int .i64 ((i : Nat) : Int)), (62, .bool true), (66, .slice (some ⟨b6, o6, none⟩) cs.length cap), (67, .int .i64 ((i : Nat) : Int))] (by kernel_rfl) ?_
          refine GI_pure (some 68) (.indexAddr 47 (.tmp 66) (.tmp 67)) (by kernel_rfl) (by kernel_rfl) (pure_idxN (b := b6) (o := o6) (len := cs.length) (cap := cap) (kd := .i64) (j := i) (E := 59) (sz := 3) (by_ := 24) (by kernel_rfl) (by kernel_rfl) (by kernel_rfl) (by omega)) ?_
          refine GI_static [16, 17, 18, 19, 20, 21, 22, 23, 24, 25, 26, 27, 28, 29, 30, 31, 32, 33] [(0, .pointer (some ⟨g, 0, none⟩)), (1, .int .i64 a), (2, .int .i64 b), (8, .int .i64 ((i : Nat) : Int)), (54, .int .i64 ((i : Nat) : Int)), (62, .bool true), (69, .pointer (some ⟨b6, o6 + i * 3, none⟩))] (by kernel_rfl) ?_
          refine GI_cell 3 (.tmp 69) (o6 + i * 3) (.int .i64 x9.a) (some 70) (by kernel_rfl) (by kernel_rfl) (by kernel_rfl) qhat6.blk (fun f => f) (m := 1) (by kernel_rfl) (At.cell0 qhat6 (es_at hx10) rfl) ?_
          refine GI_static [21, 22, 23, 24, 25, 26, 27, 28, 29, 30, 31, 32, 33] [(0, .pointer (some ⟨g, 0, none⟩)), (2, .int .i64 b), (8, .int .i64 ((i : Nat) : Int)), (54, .int .i64 ((i : Nat) : Int)), (74, .bool (decide (x9.a = a)))] (by kernel_rfl) ?_
          by_cases hg31 : x9.a = a
          · skip
            exact absurd hg31 hg13
          · skip
            refine GI_eq [(0, .pointer (some ⟨g, 0, none⟩)), (2, .int .i64 b), (8, .int .i64 ((i : Nat) : Int)), (54, .int .i64 ((i : Nat) : Int)), (74, .bool false)] (by first | simp [hg31] | rfl) ?_
            refine GI_static [] [(6, .int .i64 ((i : Nat) : Int)), (7, .bool false)] (by kernel_rfl) ?_
            refine GI_end ?_
            refine X_then ?_
            refine V_ret ?_
            have haft : ∀ (j : Nat) y, i ≤ j → cs[j]? = some y → ¬ ordC a b y < 0 := fun j y hj hy hlt => by have h9 := Srt.mono hs a b i j x9 y hj hx10 hy hlt; rw [ordC_neg] at h9; unfold ltC at h9; omega
            exact X_return (.tuple #[.int .i64 ((i : Nat) : Int), .bool false]) rfl ⟨i, _, rfl, hK0, by omega, hbef, haft, by rw [hx10]; first | exact (decide_eq_false (by rw [ordC_zero]; omega)).symm | exact decide_eq_decide.2 (by rw [ordC_zero]; omega)⟩
        · skip
          exact absurd hg5 hg30
  · skip
    refine OI_eq [(0, .pointer (some ⟨g, 0, none⟩)), (1, .int .i64 a), (2, .int .i64 b), (8, .int .i64 ((i : Nat) : Int)), (16, .bool false)] (by first | simp [hg5] | rfl) ?_
    refine OI_static 43 [(0, .pointer (some ⟨g, 0, none⟩)), (1, .int .i64 a), (2, .int .i64 b), (8, .int .i64 ((i : Nat) : Int)), (17, undef), (18, undef), (19, undef), (20, undef), (21, undef), (22, undef), (23, undef), (24, undef), (25, undef), (26, undef), (27, undef), (28, undef), (29, undef), (30, undef), (31, undef), (32, undef), (33, undef), (34, undef), (35, undef), (36, undef), (37, undef), (38, undef), (39, undef), (40, undef), (41, undef), (42, undef), (43, undef), (44, undef), (45, undef), (46, undef), (47, undef), (48, undef), (49, undef), (50, undef), (51, .bool false)] (by kernel_rfl) ?_
    refine OI_end rfl ?_
    refine X_then ?_
    refine V_false rfl ?_
    refine V_exit ?_
    refine X_exit_then ?_
    refine X_exit_then ?_
    refine X_exit_here ?_
    refine X_then ?_
    refine V_seq ?_
    refine V_draws (acts []) none_ [[0, 1, 2, 3, 4, 5, 6, 7, 8, 9, 10, 11, 12, 13, 14, 15, 16, 17, 18, 19, 20, 21, 22, 23, 24, 25, 26, 27, 28, 29, 30, 31, 32, 33]] (by kernel_rfl) (by repeat first | exact sure_body (by rintro _ _ ⟨_, _, h, _⟩; exact ⟨_, h⟩) | refine sure_then ?_ | refine sure_block ?_ | refine sure_join ?_) (by kernel_rfl) ?_
    intro w33 hk32 he34 L hL35
    have hsz36 := Keep.size hk32
    replace hg := hg.keep hk32 (fun f => f)
    have hglt := hg.lt
    replace hA := SlT.keep0 hA hk32
    replace hK0 := Keep.tr hK0 (Keep.ofNone hk32); have hzhK0 := Keep.size hK0
    have qhg := hg
    have K37 : Keep none_ w33 w33 := Keep.refl _ _
    obtain rfl := List.mem_singleton.1 hL35
    refine GI_static [5, 6, 7, 8, 9, 10, 11, 12, 13, 14, 15, 16, 17, 18, 19, 20, 21, 22, 23, 24, 25, 26, 27, 28, 29, 30, 31, 32, 33] [(0, .pointer (some ⟨g, 0, none⟩)), (1, .int .i64 a), (2, .int .i64 b), (8, .int .i64 ((i : Nat) : Int)), (54, .int .i64 ((i : Nat) : Int)), (55, .int .i64 ((i : Nat) : Int)), (58, .pointer (some ⟨g, 0, none⟩))] (by kernel_rfl) ?_
    refine GI_cell 47 (.tmp 58) 0 (.slice A cs.length cap) (some 59) (by kernel_rfl) (by kernel_rfl) (by kernel_rfl) qhg (fun f => f) (m := 1) (by kernel_rfl) rfl ?_
    refine GI_static [9, 10, 11, 12, 13, 14, 15, 16, 17, 18, 19, 20, 21, 22, 23, 24, 25, 26, 27, 28, 29, 30, 31, 32, 33] [(0, .pointer (some ⟨g, 0, none⟩)), (1, .int .i64 a), (2, .int .i64 b), (8, .int .i64 ((i : Nat) : Int)), (54, .int .i64 ((i : Nat) : Int)), (62, .bool (decide (((i : Nat) : Int) < ((cs.length : Nat) : Int))))] (by kernel_rfl) ?_
    by_cases hg38 : ((i : Nat) : Int) < ((cs.length : Nat) : Int)
    · skip
      exact absurd hg38 hg5
    · skip
      refine GI_eq [(0, .pointer (some ⟨g, 0, none⟩)), (1, .int .i64 a), (2, .int .i64 b), (8, .int .i64 ((i : Nat) : Int)), (54, .int .i64 ((i : Nat) : Int)), (62, .bool false)] (by first | simp [hg38] | rfl) ?_
      refine GI_static [] [(6, .int .i64 ((i : Nat) : Int)), (7, .bool false)] (by kernel_rfl) ?_
      refine GI_end ?_
      refine X_then ?_
      refine V_ret ?_
      have haft : ∀ (j : Nat) y, i ≤ j → cs[j]? = some y → ¬ ordC a b y < 0 := fun j y hj hy => absurd (List.getElem?_eq_some_iff.1 hy).1 (by omega)
      exact X_return (.tuple #[.int .i64 ((i : Nat) : Int), .bool false]) rfl ⟨i, _, rfl, hK0, by omega, hbef, haft, by rw [List.getElem?_eq_none (by omega)]⟩
end Go.Al
