/-
  Walks of package grid: the grid.
-/
import Derived.Test.YtijhhcnahepdlaaGr2
namespace Go.Al
open Go Go.RowKit Go.Proofs
/-! ### The grid of integers -/
def ltC (a b a' b' : Int) : Prop := a < a' ∨ (a = a' ∧ b < b')
instance (a b a' b' : Int) : Decidable (ltC a b a' b') := by unfold ltC; infer_instance
theorem ordC_neg (a b : Int) (c : Ci) : ordC a b c < 0 ↔ ltC c.a c.b a b := by
  unfold ordC ltC
  simp only [orI, cmpI]
  rcases Int.lt_trichotomy c.a a with h1 | h1 | h1 <;> rcases Int.lt_trichotomy c.b b with h2 | h2 | h2 <;> simp_all <;> (repeat' split) <;> omega
theorem ordC_zero (a b : Int) (c : Ci) : ordC a b c = 0 ↔ c.a = a ∧ c.b = b := by
  unfold ordC
  simp only [orI, cmpI]
  rcases Int.lt_trichotomy c.a a with h1 | h1 | h1 <;> rcases Int.lt_trichotomy c.b b with h2 | h2 | h2 <;> simp_all <;> (repeat' split) <;> omega
theorem ltC_trans {a b c d e f : Int} (h : ltC a b c d) (k : ltC c d e f) : ltC a b e f := by unfold ltC at *; omega
def Srt (cs : List Ci) : Prop := cs.Pairwise fun x y => ltC x.a x.b y.a y.b
theorem Srt.mono {cs : List Ci} (h : Srt cs) (a b : Int) (i j : Nat) (x y : Ci) (hij : i ≤ j) (hx : cs[i]? = some x) (hy : cs[j]? = some y) (hlt : ordC a b y < 0) : ordC a b x < 0 := by
  rw [ordC_neg] at *
  rcases Nat.lt_or_eq_of_le hij with hij | rfl
  · obtain ⟨h1, rfl⟩ := List.getElem?_eq_some_iff.1 hx
    obtain ⟨h2, rfl⟩ := List.getElem?_eq_some_iff.1 hy
    exact ltC_trans (List.pairwise_iff_getElem.1 h i j h1 h2 hij) hlt
  · rw [hx] at hy; cases hy; exact hlt
structure GrAt (w : World) (g : Nat) (A : Option Addr) (cap : Nat) (cs : List Ci) : Prop where
  blk : Blk w g [.slice A cs.length cap] 66
  sl : SlT w 3 Ci.cells A cap cs
  off : ¬ inA A g
/-- The grid at g holds the cells cs, in order; its array lies in a block of D. -/
def Gr (D : Nat → Prop) (w : World) (g : Nat) (cs : List Ci) : Prop := Srt cs ∧ cs.length ≤ 100000 ∧ ∃ A cap, GrAt w g A cap cs ∧ ∀ k, inA A k → D k

theorem place_spec (g cap : Nat) (A : Option Addr) (cs : List Ci) (a b : Int) (w : World) (h : GrAt w g A cap cs) (hs : Srt cs) (hn : cs.length ≤ 100000) : Calls Try.prog 29 #[.pointer (some ⟨g, 0, none⟩), .int .i64 a, .int .i64 b] w fun e w' => ∃ (i : Nat) (ok : Bool), e = .returned (.tuple #[.int .i64 (i : Int), .bool ok]) ∧ Keep none_ w w' ∧ i ≤ cs.length ∧ (∀ (j : Nat) y, j < i → cs[j]? = some y → ordC a b y < 0) ∧ (∀ (j : Nat) y, i ≤ j → cs[j]? = some y → ¬ ordC a b y < 0) ∧ ok = (match cs[i]? with | some y => decide (ordC a b y = 0) | none => false) := by
  have hg := h.blk
  have hA := h.sl
  have hglt := hg.lt
  have hK0 : Keep none_ w w := Keep.refl _ _
  have hzhK0 := Keep.size hK0
  refine enterV Try.func29 rfl [.pointer (some ⟨g, 0, none⟩), .int .i64 a, .int .i64 b] 18 rfl rfl rfl ?_
  refine V_pick [(0, .pointer (some ⟨g, 0, none⟩)), (1, .int .i64 a), (2, .int .i64 b)] rfl ?_
  refine V_seq ?_
  refine V_region ?_
  refine OI_static 2 [(0, .pointer (some ⟨g, 0, none⟩)), (1, .int .i64 a), (2, .int .i64 b)] (by kernel_rfl) ?_
  refine OI_end rfl ?_
  refine X_then ?_
  refine V_seq ?_
  refine V_region ?_
  refine OI_static 3 [(1, .int .i64 a), (2, .int .i64 b), (10, .pointer (some ⟨g, 0, none⟩))] (by kernel_rfl) ?_
  refine OI_cell 64 (.tmp 10) 0 (.slice A cs.length cap) (some 11) (by kernel_rfl) (by kernel_rfl) hg (m := 1) (by kernel_rfl) rfl ?_
  refine OI_static 7 [(11, .slice A cs.length cap), (14, .agg #[.int .i64 a, .int .i64 b])] (by kernel_rfl) ?_
  refine OI_call { callee := (Callee.value (Operand.func 41)), args := #[(Operand.tmp 11), (Operand.tmp 14), (Operand.func 42)], argTypes := #[64, 68, 87] } 41 #[.slice A cs.length cap, .agg #[.int .i64 a, .int .i64 b], .func (.func 42) #[] #[]] (some 15) (by kernel_rfl) (by kernel_rfl) (by kernel_rfl) (bsearch_spec A cap 42 cs [.int .i64 a, .int .i64 b] (ordC a b) _ hA rfl (by omega) (by kernel_rfl) (fun c w => place1_spec c a b w) (Srt.mono hs a b)) ?_
  rintro _ w1 ⟨i, bb, rfl, hk2, hi, hbef, haft, hbb⟩
  refine ⟨_, rfl, ?_⟩
  have hsz3 := Keep.size hk2
  replace hg := hg.keep hk2 (fun f => f)
  have hglt := hg.lt
  replace hA := SlT.keep0 hA hk2
  replace hK0 := Keep.tr hK0 (Keep.ofNone hk2); have hzhK0 := Keep.size hK0
  refine OI_static 12 [(6, .int .i64 ((i : Nat) : Int)), (7, .bool bb)] (by kernel_rfl) ?_
  refine OI_end rfl ?_
  refine X_then ?_
  refine V_ret ?_
  exact X_return _ rfl ⟨i, bb, rfl, hK0, hi, hbef, haft, hbb⟩

theorem new_spec (D : Nat → Prop) (w : World) : Calls Try.prog 10 #[] w fun e w' => ∃ g, e = .returned (.pointer (some ⟨g, 0, none⟩)) ∧ Gr D w' g [] ∧ Keep none_ w w' ∧ w.heap.size ≤ g := by
  have hK0 : Keep none_ w w := Keep.refl _ _
  have hzhK0 := Keep.size hK0
  refine enterV Try.func10 rfl [] 3 rfl rfl rfl ?_
  refine V_pick [] rfl ?_
  refine V_seq ?_
  refine V_region ?_
  refine OI_static 1 [] (by kernel_rfl) ?_
  refine OI_end rfl ?_
  refine X_then ?_
  refine V_seq ?_
  refine V_region ?_
  refine OI_static 1 [(1, .agg #[.slice none 0 0])] (by kernel_rfl) ?_
  refine OI_box 66 (.tmp 1) (.agg #[.slice none 0 0]) [.slice none 0 0] (some 2) (by kernel_rfl) (by kernel_rfl) (by kernel_rfl) ?_
  intro b1 w1 e1 hb1 k1 z1
  have hsz2 := Keep.size k1
  replace hK0 := Keep.tr hK0 (Keep.ofNone k1); have hzhK0 := Keep.size hK0
  have hb1lt := hb1.lt
  refine OI_static 3 [(0, .pointer (some ⟨b1, 0, none⟩))] (by kernel_rfl) ?_
  refine OI_end rfl ?_
  refine X_then ?_
  refine V_ret ?_
  exact X_return _ rfl ⟨_, rfl, ⟨List.Pairwise.nil, by simp, none, 0, ⟨hb1, SlT.nil _ _ _, fun h => inA_none h⟩, fun k hk => (inA_none hk).elim⟩, hK0, by omega⟩

theorem len_spec (D : Nat → Prop) (g : Nat) (cs : List Ci) (w : World) (h : Gr D w g cs) : Calls Try.prog 21 #[.pointer (some ⟨g, 0, none⟩)] w fun e w' => e = .returned (.int .i64 (cs.length : Int)) ∧ w' = w := by
  obtain ⟨_, _, A, cap, h, _⟩ := h
  have hg := h.blk
  have hA := h.sl
  have hglt := hg.lt
  refine enterV Try.func21 rfl [.pointer (some ⟨g, 0, none⟩)] 10 rfl rfl rfl ?_
  refine V_pick [(0, .pointer (some ⟨g, 0, none⟩))] rfl ?_
  refine V_seq ?_
  refine V_region ?_
  refine OI_static 1 [(0, .pointer (some ⟨g, 0, none⟩))] (by kernel_rfl) ?_
  refine OI_end rfl ?_
  refine X_then ?_
  refine V_seq ?_
  refine V_seq ?_
  refine V_region ?_
  refine OI_static 2 [(0, .pointer (some ⟨g, 0, none⟩)), (4, .bool false)] (by kernel_rfl) ?_
  refine OI_end rfl ?_
  refine X_then ?_
  refine V_false rfl ?_
  refine V_skip ?_
  refine X_then ?_
  refine V_seq ?_
  refine V_region ?_
  refine OI_static 3 [(7, .pointer (some ⟨g, 0, none⟩))] (by kernel_rfl) ?_
  refine OI_cell 64 (.tmp 7) 0 (.slice A cs.length cap) (some 8) (by kernel_rfl) (by kernel_rfl) hg (m := 1) (by kernel_rfl) rfl ?_
  refine OI_static 6 [(2, .int .i64 ((cs.length : Nat) : Int))] (by kernel_rfl) ?_
  refine OI_end rfl ?_
  refine X_then ?_
  refine V_ret ?_
  exact X_return _ rfl ⟨rfl, rfl⟩

theorem len_nil (w : World) : Calls Try.prog 21 #[.pointer none] w fun e w' => e = .returned (.int .i64 0) ∧ w' = w := by
  refine enterV Try.func21 rfl [.pointer none] 10 rfl rfl rfl ?_
  refine V_pick [(0, .pointer none)] rfl ?_
  refine V_seq ?_
  refine V_region ?_
  refine OI_static 1 [(0, .pointer none)] (by kernel_rfl) ?_
  refine OI_end rfl ?_
  refine X_then ?_
  refine V_seq ?_
  refine V_seq ?_
  refine V_region ?_
  refine OI_static 2 [(0, .pointer none), (4, .bool true)] (by kernel_rfl) ?_
  refine OI_end rfl ?_
  refine X_then ?_
  refine V_true rfl ?_
  refine V_seq ?_
  refine V_region ?_
  refine OI_static 1 [(2, .int .i64 0)] (by kernel_rfl) ?_
  refine OI_end rfl ?_
  refine X_then ?_
  refine V_ret ?_
  refine X_ret_then ?_
  exact X_return _ rfl ⟨rfl, rfl⟩

def getC (a b : Int) : List Ci → Option Int
  | [] => none
  | x :: l => if x.a = a ∧ x.b = b then some x.v else getC a b l
def setC (a b v : Int) : List Ci → List Ci
  | [] => [⟨a, b, v⟩]
  | x :: l => if x.a = a ∧ x.b = b then ⟨a, b, v⟩ :: l else if ltC x.a x.b a b then x :: setC a b v l else ⟨a, b, v⟩ :: x :: l
def delC (a b : Int) : List Ci → List Ci
  | [] => []
  | x :: l => if x.a = a ∧ x.b = b then l else x :: delC a b l
theorem none_later {a b : Int} : ∀ {l : List Ci}, (∀ y ∈ l, ltC a b y.a y.b) → getC a b l = none ∧ delC a b l = l
  | [], _ => ⟨rfl, rfl⟩
  | y :: l, h => by
    have hy := h y (List.mem_cons_self ..)
    have hne : ¬ (y.a = a ∧ y.b = b) := by unfold ltC at hy; omega
    obtain ⟨h1, h2⟩ := none_later (fun z hz => h z (List.mem_cons_of_mem _ hz))
    exact ⟨by simp only [getC, if_neg hne, h1], by simp only [delC, if_neg hne, h2]⟩
theorem place_at {a b : Int} : ∀ (cs : List Ci) (i : Nat), Srt cs → i ≤ cs.length → (∀ (j : Nat) y, j < i → cs[j]? = some y → ordC a b y < 0) → (∀ (j : Nat) y, i ≤ j → cs[j]? = some y → ¬ ordC a b y < 0) →
    (∃ y, cs[i]? = some y ∧ ordC a b y = 0 ∧ y.a = a ∧ y.b = b ∧ getC a b cs = some y.v ∧ (∀ v, cs.set i ⟨a, b, v⟩ = setC a b v cs) ∧ cs.take i ++ cs.drop (i + 1) = delC a b cs) ∨
    ((∀ y, cs[i]? = some y → ordC a b y ≠ 0) ∧ getC a b cs = none ∧ (∀ v, cs.take i ++ ⟨a, b, v⟩ :: cs.drop i = setC a b v cs) ∧ delC a b cs = cs)
  | [], i, _, hi, _, _ => by
    obtain rfl : i = 0 := by simpa using hi
    right; exact ⟨fun y hy => by simp at hy, rfl, fun v => rfl, rfl⟩
  | x :: l, 0, hs, _, _, h2 => by
    have hx := h2 0 x (Nat.le_refl _) rfl
    have hs := List.pairwise_cons.1 hs
    by_cases h0 : ordC a b x = 0
    · left
      have he := (ordC_zero a b x).1 h0
      exact ⟨x, rfl, h0, he.1, he.2, by simp only [getC, if_pos he], fun v => by simp only [List.set_cons_zero, setC, if_pos he], by simp only [delC, if_pos he]; simp⟩
    · right
      have hne : ¬ (x.a = a ∧ x.b = b) := fun h => h0 ((ordC_zero a b x).2 h)
      have hnl : ¬ ltC x.a x.b a b := fun h => hx ((ordC_neg a b x).2 h)
      have hgt : ltC a b x.a x.b := by unfold ltC at *; omega
      obtain ⟨h3, h4⟩ := none_later (a := a) (b := b) (l := l) (fun y hy => ltC_trans hgt (hs.1 y hy))
      refine ⟨fun y hy => by simp at hy; subst hy; exact h0, by simp only [getC, if_neg hne, h3], fun v => by simp only [setC, if_neg hne, if_neg hnl]; simp, by simp only [delC, if_neg hne, h4]⟩
  | x :: l, i + 1, hs, hi, h1, h2 => by
    have hx := h1 0 x (Nat.succ_pos _) rfl
    have hlt := (ordC_neg a b x).1 hx
    have hne : ¬ (x.a = a ∧ x.b = b) := by unfold ltC at hlt; omega
    have hs := List.pairwise_cons.1 hs
    rcases place_at l i hs.2 (by simpa using hi) (fun j y hj hy => h1 (j + 1) y (by omega) (by simpa using hy)) (fun j y hj hy => h2 (j + 1) y (by omega) (by simpa using hy)) with ⟨y, g1, g2, g3, g4, g5, g6, g7⟩ | ⟨g1, g2, g3, g4⟩
    · left; exact ⟨y, by simpa using g1, g2, g3, g4, by simp only [getC, if_neg hne, g5], fun v => by simp only [List.set_cons_succ, setC, if_neg hne, if_pos hlt, g6], by simp only [delC, if_neg hne, ← g7]; simp⟩
    · right; exact ⟨fun y hy => g1 y (by simpa using hy), by simp only [getC, if_neg hne, g2], fun v => by simp only [setC, if_neg hne, if_pos hlt, ← g3 v]; simp, by simp only [delC, if_neg hne, g4]⟩

theorem get_spec (D : Nat → Prop) (g : Nat) (cs : List Ci) (a b : Int) (w : World) (h : Gr D w g cs) : Calls Try.prog 28 #[.pointer (some ⟨g, 0, none⟩), .int .i64 a, .int .i64 b] w fun e w' => e = .returned (.tuple #[.int .i64 ((getC a b cs).getD 0), .bool (getC a b cs).isSome]) ∧ Keep none_ w w' := by
  obtain ⟨hs, hlen, A, cap, h, _⟩ := h
  have hgA := h.off
  have hg := h.blk
  have hA := h.sl
  have hglt := hg.lt
  have hK0 : Keep none_ w w := Keep.refl _ _
  have hzhK0 := Keep.size hK0
  refine enterV Try.func28 rfl [.pointer (some ⟨g, 0, none⟩), .int .i64 a, .int .i64 b] 30 rfl rfl rfl ?_
  refine V_pick [(0, .pointer (some ⟨g, 0, none⟩)), (1, .int .i64 a), (2, .int .i64 b)] rfl ?_
  refine V_seq ?_
  refine V_region ?_
  refine OI_static 2 [(0, .pointer (some ⟨g, 0, none⟩)), (1, .int .i64 a), (2, .int .i64 b), (6, .int .i64 0)] (by kernel_rfl) ?_
  refine OI_end rfl ?_
  refine X_then ?_
  refine V_seq ?_
  refine V_seq ?_
  refine V_region ?_
  refine OI_static 2 [(0, .pointer (some ⟨g, 0, none⟩)), (1, .int .i64 a), (2, .int .i64 b), (6, .int .i64 0), (10, .bool false)] (by kernel_rfl) ?_
  refine OI_end rfl ?_
  refine X_then ?_
  refine V_false rfl ?_
  refine V_skip ?_
  refine X_then ?_
  refine V_seq ?_
  refine V_region ?_
  refine OI_static 3 [(0, .pointer (some ⟨g, 0, none⟩)), (6, .int .i64 0), (13, .pointer (some ⟨g, 0, none⟩)), (14, .int .i64 a), (15, .int .i64 b)] (by kernel_rfl) ?_
  refine OI_call { callee := (Callee.value (Operand.func 29)), args := #[(Operand.tmp 13), (Operand.tmp 14), (Operand.tmp 15)], argTypes := #[22, 3, 3] } 29 #[.pointer (some ⟨g, 0, none⟩), .int .i64 a, .int .i64 b] (some 16) (by kernel_rfl) (by kernel_rfl) (by kernel_rfl) (place_spec g cap A cs a b _ ⟨hg, hA, hgA⟩ hs hlen) ?_
  rintro _ w1 ⟨i, bb, rfl, hk2, hi, hbef, haft, hbb⟩
  refine ⟨_, rfl, ?_⟩
  have hsz3 := Keep.size hk2
  replace hg := hg.keep hk2 (fun f => f)
  have hglt := hg.lt
  replace hA := SlT.keep0 hA hk2
  replace hK0 := Keep.tr hK0 (Keep.ofNone hk2); have hzhK0 := Keep.size hK0
  refine OI_static 9 [(0, .pointer (some ⟨g, 0, none⟩)), (6, .int .i64 0), (7, .bool bb), (8, .int .i64 ((i : Nat) : Int))] (by kernel_rfl) ?_
  refine OI_end rfl ?_
  refine X_then ?_
  refine V_seq ?_
  refine V_seq ?_
  refine V_region ?_
  refine OI_static 1 [(0, .pointer (some ⟨g, 0, none⟩)), (6, .int .i64 0), (7, .bool bb), (8, .int .i64 ((i : Nat) : Int)), (19, .bool bb)] (by kernel_rfl) ?_
  refine OI_end rfl ?_
  refine X_then ?_
  refine V_ifb (bb) (by kernel_rfl) (fun hc4 => ?_) (fun hc4 => ?_)
  · skip
    rcases place_at cs i hs hi hbef haft with ⟨y, g1, g2, g3, g4, g5, g6, g7⟩ | ⟨g1, _⟩
    rotate_left
    · exact absurd hc4 (by rw [hbb]; split <;> simp_all)
    have hilt := (List.getElem?_eq_some_iff.1 g1).1
    refine V_region ?_
    refine OI_static 3 [(7, .bool bb), (8, .int .i64 ((i : Nat) : Int)), (22, .pointer (some ⟨g, 0, none⟩))] (by kernel_rfl) ?_
    refine OI_cell 64 (.tmp 22) 0 (.slice A cs.length cap) (some 23) (by kernel_rfl) (by kernel_rfl) hg (m := 1) (by kernel_rfl) rfl ?_
    refine OI_static 5 [(7, .bool bb), (23, .slice A cs.length cap), (24, .int .i64 ((i : Nat) : Int))] (by kernel_rfl) ?_
    obtain ⟨b5, o5, L5, T5, rfl, hat5⟩ := SlT.open_ hA (by first | omega | (simp only [List.length_map]; omega) | (simp; done) | (simp; omega))
    have hb5lt := hat5.blk.lt
    refine OI_pure (some 25) (.indexAddr 64 (.tmp 23) (.tmp 24)) (by kernel_rfl) (pure_idxN (b := b5) (o := o5) (len := cs.length) (cap := cap) (kd := .i64) (j := i) (E := 70) (sz := 3) (by_ := 24) (by kernel_rfl) (by kernel_rfl) (by kernel_rfl) (by omega)) ?_
    refine OI_static 7 [(7, .bool bb), (26, .pointer (some ⟨b5, o5 + i * 3 + 2, none⟩))] (by kernel_rfl) ?_
    refine OI_cell 3 (.tmp 26) (o5 + i * 3 + 2) (.int .i64 y.v) (some 27) (by kernel_rfl) (by kernel_rfl) hat5.blk (m := 1) (by kernel_rfl) (At.cell hat5 (es_at g1) rfl) ?_
    refine OI_static 9 [(6, .int .i64 y.v), (7, .bool bb)] (by kernel_rfl) ?_
    refine OI_end rfl ?_
    refine X_then ?_
    refine V_seq ?_
    refine V_region ?_
    refine OI_static 4 [(6, .int .i64 y.v), (7, .bool bb)] (by kernel_rfl) ?_
    refine OI_end rfl ?_
    refine X_then ?_
    refine V_ret ?_
    exact X_return (.tuple #[.int .i64 y.v, .bool bb]) rfl ⟨by rw [g5, hc4]; rfl, hK0⟩
  · skip
    rcases place_at cs i hs hi hbef haft with ⟨y, g1, g2, _⟩ | ⟨g1, g2, g3, g4⟩
    · exact absurd hc4 (by rw [hbb, g1]; simp [g2])
    refine V_skip ?_
    refine X_then ?_
    refine V_seq ?_
    refine V_region ?_
    refine OI_static 4 [(6, .int .i64 0), (7, .bool bb)] (by kernel_rfl) ?_
    refine OI_end rfl ?_
    refine X_then ?_
    refine V_ret ?_
    exact X_return (.tuple #[.int .i64 0, .bool bb]) rfl ⟨by rw [g2, hc4]; rfl, hK0⟩

theorem get_nil (a b : Int) (w : World) : Calls Try.prog 28 #[.pointer none, .int .i64 a, .int .i64 b] w fun e w' => e = .returned (.tuple #[.int .i64 0, .bool false]) ∧ Keep none_ w w' := by
  have hK0 : Keep none_ w w := Keep.refl _ _
  have hzhK0 := Keep.size hK0
  refine enterV Try.func28 rfl [.pointer none, .int .i64 a, .int .i64 b] 30 rfl rfl rfl ?_
  refine V_pick [(0, .pointer none), (1, .int .i64 a), (2, .int .i64 b)] rfl ?_
  refine V_seq ?_
  refine V_region ?_
  refine OI_static 2 [(0, .pointer none), (1, .int .i64 a), (2, .int .i64 b), (6, .int .i64 0)] (by kernel_rfl) ?_
  refine OI_end rfl ?_
  refine X_then ?_
  refine V_seq ?_
  refine V_seq ?_
  refine V_region ?_
  refine OI_static 2 [(0, .pointer none), (1, .int .i64 a), (2, .int .i64 b), (6, .int .i64 0), (10, .bool true)] (by kernel_rfl) ?_
  refine OI_end rfl ?_
  refine X_then ?_
  refine V_true rfl ?_
  refine V_seq ?_
  refine V_region ?_
  refine OI_static 3 [(6, .int .i64 0), (7, .bool false)] (by kernel_rfl) ?_
  refine OI_end rfl ?_
  refine X_then ?_
  refine V_ret ?_
  refine X_ret_then ?_
  exact X_return (.tuple #[.int .i64 0, .bool false]) rfl ⟨rfl, hK0⟩

theorem Srt.del {cs : List Ci} (h : Srt cs) (a b : Int) : Srt (delC a b cs) ∧ (delC a b cs).length ≤ cs.length := by
  induction cs with
  | nil => exact ⟨List.Pairwise.nil, Nat.le_refl _⟩
  | cons x l ih =>
    have h := List.pairwise_cons.1 h
    simp only [delC]
    split
    · exact ⟨h.2, by simp⟩
    · obtain ⟨h1, h2⟩ := ih h.2
      refine ⟨List.pairwise_cons.2 ⟨fun y hy => h.1 y ?_, h1⟩, by simpa using h2⟩
      have hsub : ∀ l : List Ci, ∀ y ∈ delC a b l, y ∈ l := by
        intro l
        induction l with
        | nil => intro y hy; exact hy
        | cons z l ih =>
          intro y hy
          simp only [delC] at hy
          split at hy
          · exact List.mem_cons_of_mem _ hy
          · rcases List.mem_cons.1 hy with rfl | hy
            · exact List.mem_cons_self ..
            · exact List.mem_cons_of_mem _ (ih y hy)
      exact hsub l y hy

theorem del_spec (D : Nat → Prop) (g : Nat) (cs : List Ci) (a b : Int) (w : World) (h : Gr D w g cs) (hD : ∀ k, w.heap.size ≤ k → D k) : Calls Try.prog 19 #[.pointer (some ⟨g, 0, none⟩), .int .i64 a, .int .i64 b] w fun e w' => e = .returned (.bool (getC a b cs).isSome) ∧ Gr D w' g (delC a b cs) ∧ Keep (only g) w w' := by
  obtain ⟨hs, hlen, A, cap, h, hDA⟩ := h
  have hgA := h.off
  have hg := h.blk
  have hA := h.sl
  have hglt := hg.lt
  have hltA := SlT.lt hA
  have hK0 : Keep (only g) w w := Keep.refl _ _
  have hzhK0 := Keep.size hK0
  refine enterV Try.func19 rfl [.pointer (some ⟨g, 0, none⟩), .int .i64 a, .int .i64 b] 32 rfl rfl rfl ?_
  refine V_pick [(0, .pointer (some ⟨g, 0, none⟩)), (1, .int .i64 a), (2, .int .i64 b)] rfl ?_
  refine V_seq ?_
  refine V_region ?_
  refine OI_static 1 [(0, .pointer (some ⟨g, 0, none⟩)), (1, .int .i64 a), (2, .int .i64 b)] (by kernel_rfl) ?_
  refine OI_end rfl ?_
  refine X_then ?_
  refine V_seq ?_
  refine V_seq ?_
  refine V_region ?_
  refine OI_static 2 [(0, .pointer (some ⟨g, 0, none⟩)), (1, .int .i64 a), (2, .int .i64 b), (10, .bool false)] (by kernel_rfl) ?_
  refine OI_end rfl ?_
  refine X_then ?_
  refine V_false rfl ?_
  refine V_skip ?_
  refine X_then ?_
  refine V_seq ?_
  refine V_region ?_
  refine OI_static 3 [(0, .pointer (some ⟨g, 0, none⟩)), (12, .pointer (some ⟨g, 0, none⟩)), (13, .int .i64 a), (14, .int .i64 b)] (by kernel_rfl) ?_
  refine OI_call { callee := (Callee.value (Operand.func 29)), args := #[(Operand.tmp 12), (Operand.tmp 13), (Operand.tmp 14)], argTypes := #[22, 3, 3] } 29 #[.pointer (some ⟨g, 0, none⟩), .int .i64 a, .int .i64 b] (some 15) (by kernel_rfl) (by kernel_rfl) (by kernel_rfl) (place_spec g cap A cs a b _ ⟨hg, hA, hgA⟩ hs hlen) ?_
  rintro _ w3 ⟨i, bb, rfl, hk4, hi, hbef, haft, hbb⟩
  refine ⟨_, rfl, ?_⟩
  have hsz5 := Keep.size hk4
  replace hg := hg.keep hk4 (fun f => f)
  have hglt := hg.lt
  replace hA := SlT.keep0 hA hk4
  replace hK0 := Keep.tr hK0 (Keep.ofNone hk4); have hzhK0 := Keep.size hK0
  refine OI_static 9 [(0, .pointer (some ⟨g, 0, none⟩)), (7, .int .i64 ((i : Nat) : Int)), (8, .bool bb)] (by kernel_rfl) ?_
  refine OI_end rfl ?_
  refine X_then ?_
  refine V_seq ?_
  refine V_seq ?_
  refine V_region ?_
  refine OI_static 1 [(0, .pointer (some ⟨g, 0, none⟩)), (7, .int .i64 ((i : Nat) : Int)), (8, .bool bb), (18, .bool bb)] (by kernel_rfl) ?_
  refine OI_end rfl ?_
  refine X_then ?_
  refine V_ifb (bb) (by kernel_rfl) (fun hc6 => ?_) (fun hc6 => ?_)
  · skip
    rcases place_at cs i hs hi hbef haft with ⟨y, g1, g2, g3, g4, g5, g6, g7⟩ | ⟨g1, _⟩
    rotate_left
    · exact absurd hc6 (by rw [hbb]; split <;> simp_all)
    have hilt := (List.getElem?_eq_some_iff.1 g1).1
    refine V_region ?_
    refine OI_static 4 [(7, .int .i64 ((i : Nat) : Int)), (8, .bool bb), (19, .pointer (some ⟨g, 0, none⟩)), (22, .pointer (some ⟨g, 0, none⟩))] (by kernel_rfl) ?_
    refine OI_cell 64 (.tmp 22) 0 (.slice A cs.length cap) (some 23) (by kernel_rfl) (by kernel_rfl) hg (m := 1) (by kernel_rfl) rfl ?_
    refine OI_call { callee := (Callee.value (Operand.func 30)), args := #[(Operand.tmp 23)], argTypes := #[64] } 30 #[.slice A cs.length cap] (some 24) (by kernel_rfl) (by kernel_rfl) (by kernel_rfl) (clone_spec A cap cs _ hA (by omega)) ?_
    rintro _ w7 ⟨A9, cap9, rfl, h9, hk8, hown9⟩
    refine ⟨_, rfl, ?_⟩
    have hsz9 := Keep.size hk8
    replace hg := hg.keep hk8 (fun f => f)
    have hglt := hg.lt
    replace hA := SlT.keep0 hA hk8
    replace hK0 := Keep.tr hK0 (Keep.ofNone hk8); have hzhK0 := Keep.size hK0
    have hlt9 := SlT.lt h9
    have hw10 : IntKind.i64.wrap (((i : Nat) : Int) + 1) = ((i + 1 : Nat) : Int) := (wrap64_id (by omega) (by omega)).trans (by omega)
    refine OI_static 9 [(8, .bool bb), (19, .pointer (some ⟨g, 0, none⟩)), (24, .slice A9 cs.length cap9), (25, .int .i64 ((i : Nat) : Int)), (27, .int .i64 (IntKind.i64.wrap (((i : Nat) : Int) + 1)))] (by kernel_rfl) ?_
    refine OI_eq [(8, .bool bb), (19, .pointer (some ⟨g, 0, none⟩)), (24, .slice A9 cs.length cap9), (25, .int .i64 ((i : Nat) : Int)), (27, .int .i64 ((i + 1 : Nat) : Int))] (by rw [hw10]) ?_
    obtain ⟨b13, o13, L13, T13, rfl, hat13⟩ := SlT.open_ h9 (by first | omega | (simp only [List.length_map]; omega) | (simp; done) | (simp; omega))
    have hb13lt := hat13.blk.lt
    have hbge := hown9 b13 ⟨_, rfl, rfl⟩
    refine OI_call { callee := (Callee.value (Operand.func 36)), args := #[(Operand.tmp 24), (Operand.tmp 25), (Operand.tmp 27)], argTypes := #[64, 3, 3] } 36 #[.slice (some ⟨b13, o13, none⟩) cs.length cap9, .int .i64 ((i : Nat) : Int), .int .i64 ((i + 1 : Nat) : Int)] (some 28) (by kernel_rfl) (by kernel_rfl) (by kernel_rfl) (delete_spec b13 o13 cap9 i _ _ cs _ hat13 hilt (by omega)) ?_
    rintro _ w11 ⟨rfl, h12, hk12⟩
    refine ⟨_, rfl, ?_⟩
    have hsz14 := Keep.size hk12
    replace hg := hg.keep hk12 (by show ¬ (_ = _); omega)
    have hglt := hg.lt
    replace hA := SlT.keep hA hk12 (fun k hk hs => by have hs : k = b13 := hs; have h2 := hltA _ hk; omega)
    replace hK0 := Keep.fresh hK0 hk12 (by intro i hi hs; first | exact hs | exact Or.inl hs | exact Or.inr hs | (exfalso; have hs2 : i = b13 := hs; omega)); have hzhK0 := Keep.size hK0
    refine OI_static 12 [(8, .bool bb), (28, .slice (some ⟨b13, o13, none⟩) (cs.length - 1) cap9), (30, .pointer (some ⟨g, 0, none⟩))] (by kernel_rfl) ?_
    refine OI_set (m := 1) (kd := false) 64 (.tmp 30) (.tmp 28) 0 (.slice (some ⟨b13, o13, none⟩) (cs.length - 1) cap9) [.slice (some ⟨b13, o13, none⟩) (cs.length - 1) cap9] none (by kernel_rfl) (by kernel_rfl) (by kernel_rfl) hg (by kernel_rfl) (by kernel_rfl) (by kernel_rfl) (Nat.le_of_ble_eq_true (by kernel_rfl)) (by simp [Value.oneCell']) ?_
    intro w15 hg_18 hk16 hz17
    replace hg_18 : Blk w15 g [.slice (some ⟨b13, o13, none⟩) (cs.length - 1) cap9] 66 := hg_18
    have hsz19 := Keep.size hk16
    replace hA := SlT.keep hA hk16 (fun k hk hs => by have hs : k = g := hs; subst hs; exact hgA hk)
    replace h12 := SlT.keep h12 hk16 (fun k hk hs => by have hs : k = g := hs; have h2 := inA_some hk; omega)
    replace hK0 := Keep.fresh hK0 hk16 (by intro i hi hs; first | exact hs | exact Or.inl hs | exact Or.inr hs | (exfalso; have hs2 : i = g := hs; omega)); have hzhK0 := Keep.size hK0
    refine OI_end rfl ?_
    refine X_then ?_
    refine V_seq ?_
    refine V_region ?_
    refine OI_static 2 [(6, .bool bb)] (by kernel_rfl) ?_
    refine OI_end rfl ?_
    refine X_then ?_
    refine V_ret ?_
    have hl12 : (delC a b cs).length = cs.length - 1 := by rw [← g7]; simp; omega
    rw [g5]
    exact X_return (.bool bb) rfl ⟨by rw [hc6]; rfl, ⟨(hs.del a b).1, by rw [hl12]; omega, _, cap9, ⟨by rw [hl12]; exact hg_18, by rw [← g7]; exact h12, fun h => by have := inA_some h; omega⟩, fun k hk => hD k (by have := inA_some hk; omega)⟩, hK0⟩
  · skip
    rcases place_at cs i hs hi hbef haft with ⟨y, g1, g2, _⟩ | ⟨g1, g2, g3, g4⟩
    · exact absurd hc6 (by rw [hbb, g1]; simp [g2])
    refine V_skip ?_
    refine X_then ?_
    refine V_seq ?_
    refine V_region ?_
    refine OI_static 2 [(6, .bool bb)] (by kernel_rfl) ?_
    refine OI_end rfl ?_
    refine X_then ?_
    refine V_ret ?_
    rw [g4, g2]
    exact X_return (.bool bb) rfl ⟨by rw [hc6]; rfl, ⟨hs, hlen, A, cap, ⟨hg, hA, hgA⟩, hDA⟩, hK0⟩

theorem del_nil (a b : Int) (w : World) : Calls Try.prog 19 #[.pointer none, .int .i64 a, .int .i64 b] w fun e w' => e = .returned (.bool false) ∧ Keep none_ w w' := by
  have hK0 : Keep none_ w w := Keep.refl _ _
  have hzhK0 := Keep.size hK0
  refine enterV Try.func19 rfl [.pointer none, .int .i64 a, .int .i64 b] 32 rfl rfl rfl ?_
  refine V_pick [(0, .pointer none), (1, .int .i64 a), (2, .int .i64 b)] rfl ?_
  refine V_seq ?_
  refine V_region ?_
  refine OI_static 1 [(0, .pointer none), (1, .int .i64 a), (2, .int .i64 b)] (by kernel_rfl) ?_
  refine OI_end rfl ?_
  refine X_then ?_
  refine V_seq ?_
  refine V_seq ?_
  refine V_region ?_
  refine OI_static 2 [(0, .pointer none), (1, .int .i64 a), (2, .int .i64 b), (10, .bool true)] (by kernel_rfl) ?_
  refine OI_end rfl ?_
  refine X_then ?_
  refine V_true rfl ?_
  refine V_seq ?_
  refine V_region ?_
  refine OI_static 1 [(6, .bool false)] (by kernel_rfl) ?_
  refine OI_end rfl ?_
  refine X_then ?_
  refine V_ret ?_
  refine X_ret_then ?_
  exact X_return (.bool false) rfl ⟨rfl, hK0⟩
end Go.Al
