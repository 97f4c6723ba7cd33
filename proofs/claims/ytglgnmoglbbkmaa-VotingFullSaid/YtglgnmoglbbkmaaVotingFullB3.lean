/-
  Put together out of 16 texts: Walks of package grid: the grid. Walks of package grid: Set. Walks of package grid: all cells. Walks of package grid: a row, a column. Walks of package grid: a grid with its footprint. Walks of package ledger: accounts. Walks of package ledger: what is told of accounts. Walks of package ledger: locks. Walks of package ledger: what changes it. Walks of package ledger: what changes it: Mint, takes. Walks of package ledger: what changes it: Release, Slash. Walks of package ledger: what changes it: Lock; a nil ledger. Walks of package ledger: a new one. Walks of package conv. What a voting holds, and where. Walks of package voting: a poll, a record.
-/
import Derived.Test.YtglgnmoglbbkmaaVotingFullB2
namespace Go.Al
open Go Go.RowKit Go.Proofs
/-! ### The grid of integers -/
def ltC (a b a' b' : Int) : Prop := a < a' ∨ (a = a' ∧ b < b')
instance (a b a' b' : Int) : Decidable (ltC a b a' b') := by unfold ltC; infer_instance
theorem ordC_neg (a b : Int) (c : Ci) : ordC a b c < 0 ↔ ltC c.a c.b a b := by
  unfold ordC ltC
  simp only [orI, cmpI]
  rcases Int.lt_trichotomy c.a a with h1 | h1 | h1 <;> rcases Int.lt_trichotomy c.b b with h2 | h2 | h2 <;> simp_all <;> (repeat' split) <;> omega
theorem ordC_zero (a b : Int) (c : Ci) : ordC a b c = 0 ↔ c.a = a ∧ c.b = b := by
  unfold ordC
  simp only [orI, cmpI]
  rcases Int.lt_trichotomy c.a a with h1 | h1 | h1 <;> rcases Int.lt_trichotomy c.b b with h2 | h2 | h2 <;> simp_all <;> (repeat' split) <;> omega
theorem ltC_trans {a b c d e f : Int} (h : ltC a b c d) (k : ltC c d e f) : ltC a b e f := by unfold ltC at *; omega
def Srt (cs : List Ci) : Prop := cs.Pairwise fun x y => ltC x.a x.b y.a y.b
theorem Srt.mono {cs : List Ci} (h : Srt cs) (a b : Int) (i j : Nat) (x y : Ci) (hij : i ≤ j) (hx : cs[i]? = some x) (hy : cs[j]? = some y) (hlt : ordC a b y < 0) : ordC a b x < 0 := by
  rw [ordC_neg] at *
  rcases Nat.lt_or_eq_of_le hij with hij | rfl
  · obtain ⟨h1, rfl⟩ := List.getElem?_eq_some_iff.1 hx
    obtain ⟨h2, rfl⟩ := List.getElem?_eq_some_iff.1 hy
    exact ltC_trans (List.pairwise_iff_getElem.1 h i j h1 h2 hij) hlt
  · rw [hx] at hy; cases hy; exact hlt
structure GrAt (w : World) (g : Nat) (A : Option Addr) (cap : Nat) (cs : List Ci) : Prop where
  blk : Blk w g [.slice A cs.length cap] 136
  sl : SlT w 3 Ci.cells A cap cs
  off : ¬ inA A g
/-- The grid at g holds the cells cs, in order; its array lies in a block of D. -/
def Gr (D : Nat → Prop) (w : World) (g : Nat) (cs : List Ci) : Prop := Srt cs ∧ cs.length ≤ 100000 ∧ ∃ A cap, GrAt w g A cap cs ∧ ∀ k, inA A k → D k

set_option maxRecDepth 10000 in
theorem place_spec (g cap : Nat) (A : Option Addr) (cs : List Ci) (a b : Int) (w : World) (h : GrAt w g A cap cs) (hs : Srt cs) (hn : cs.length ≤ 100000) : Calls Try.prog 78 #[.pointer (some ⟨g, 0, none⟩), .int .i64 a, .int .i64 b] w fun e w' => ∃ (i : Nat) (ok : Bool), e = .returned (.tuple #[.int .i64 (i : Int), .bool ok]) ∧ Keep none_ w w' ∧ i ≤ cs.length ∧ (∀ (j : Nat) y, j < i → cs[j]? = some y → ordC a b y < 0) ∧ (∀ (j : Nat) y, i ≤ j → cs[j]? = some y → ¬ ordC a b y < 0) ∧ ok = (match cs[i]? with | some y => decide (ordC a b y = 0) | none => false) := by
 have hg := h.blk
 have hA := h.sl
 have hglt := hg.lt
 have hK0 : Keep none_ w w := Keep.refl _ _
 have hzhK0 := Keep.size hK0
 refine enterV Try.func78 rfl [pt g, nt a, nt b] 18 rfl rfl rfl ?_
 refine V_pick [(0, pt g), (1, nt a), (2, nt b)] rfl ?_
 refine V_seq ?_
 refine V_region ?_
 refine OI_static 2 [(0, pt g), (1, nt a), (2, nt b)] (by kernel_rfl) ?_
 refine OI_end rfl ?_
 refine X_then ?_
 refine V_seq ?_
 refine V_region ?_
 refine OI_static 3 [(1, nt a), (2, nt b), (10, pt g)] (by kernel_rfl) ?_
 refine OI_cell 134 (.tmp 10) 0 (.slice A cs.length cap) (some 11) (by kernel_rfl) (by kernel_rfl) hg (m := 1) (by kernel_rfl) rfl ?_
 refine OI_static 7 [(11, .slice A cs.length cap), (14, .agg #[nt a, nt b])] (by kernel_rfl) ?_
 refine OI_call { callee := (Callee.value (Operand.func 88)), args := #[(Operand.tmp 11), (Operand.tmp 14), (Operand.func 89)], argTypes := #[134, 121, 168] } 88 #[.slice A cs.length cap, .agg #[nt a, nt b], .func (.func 89) #[] #[]] (some 15) (by kernel_rfl) (by kernel_rfl) (by kernel_rfl) (bsearch_spec A cap 89 cs [.int .i64 a, .int .i64 b] (ordC a b) _ hA rfl (by omega) (by kernel_rfl) (fun c w => place1_spec c a b w) (Srt.mono hs a b)) ?_
 rintro _ w1 ⟨i, bb, rfl, hk2, hi, hbef, haft, hbb⟩
 refine ⟨_, rfl, ?_⟩
 have hsz3 := Keep.size hk2
 replace hg := hg.keep hk2 (fun f => f)
 replace hA := SlT.keep0 hA hk2
 replace hK0 := Keep.tr hK0 (Keep.ofNone hk2)
 refine OI_static 12 [(6, nt ((i : Nat) : Int)), (7, .bool bb)] (by kernel_rfl) ?_
 refine OI_end rfl ?_
 refine X_then ?_
 refine V_ret ?_
 exact X_return _ rfl ⟨i, bb, rfl, hK0, hi, hbef, haft, hbb⟩

set_option maxRecDepth 10000 in
theorem new_spec (D : Nat → Prop) (w : World) : Calls Try.prog 42 #[] w fun e w' => ∃ g, e = .returned (.pointer (some ⟨g, 0, none⟩)) ∧ Gr D w' g [] ∧ Keep none_ w w' ∧ w.heap.size ≤ g := by
 have hK0 : Keep none_ w w := Keep.refl _ _
 have hzhK0 := Keep.size hK0
 refine enterV Try.func42 rfl [] 3 rfl rfl rfl ?_
 refine V_pick [] rfl ?_
 refine V_seq ?_
 refine V_region ?_
 refine OI_static 1 [] (by kernel_rfl) ?_
 refine OI_end rfl ?_
 refine X_then ?_
 refine V_seq ?_
 refine V_region ?_
 refine OI_static 1 [(1, .agg #[.slice none 0 0])] (by kernel_rfl) ?_
 refine OI_box 136 (.tmp 1) (.agg #[.slice none 0 0]) [.slice none 0 0] (some 2) (by kernel_rfl) (by kernel_rfl) (by kernel_rfl) ?_
 intro b1 w1 e1 hb1 k1 z1
 have hsz2 := Keep.size k1
 replace hK0 := Keep.tr hK0 (Keep.ofNone k1)
 have hb1lt := hb1.lt
 refine OI_static 3 [(0, pt b1)] (by kernel_rfl) ?_
 refine OI_end rfl ?_
 refine X_then ?_
 refine V_ret ?_
 exact X_return _ rfl ⟨_, rfl, ⟨List.Pairwise.nil, by simp, none, 0, ⟨hb1, SlT.nil _ _ _, fun h => inA_none h⟩, fun k hk => (inA_none hk).elim⟩, hK0, by omega⟩

def getC (a b : Int) : List Ci → Option Int
  | [] => none
  | x :: l => if x.a = a ∧ x.b = b then some x.v else getC a b l
def setC (a b v : Int) : List Ci → List Ci
  | [] => [⟨a, b, v⟩]
  | x :: l => if x.a = a ∧ x.b = b then ⟨a, b, v⟩ :: l else if ltC x.a x.b a b then x :: setC a b v l else ⟨a, b, v⟩ :: x :: l
def delC (a b : Int) : List Ci → List Ci
  | [] => []
  | x :: l => if x.a = a ∧ x.b = b then l else x :: delC a b l
theorem none_later {a b : Int} : ∀ {l : List Ci}, (∀ y ∈ l, ltC a b y.a y.b) → getC a b l = none ∧ delC a b l = l
  | [], _ => ⟨rfl, rfl⟩
  | y :: l, h => by
    have hy := h y (List.mem_cons_self ..)
    have hne : ¬ (y.a = a ∧ y.b = b) := by unfold ltC at hy; omega
    obtain ⟨h1, h2⟩ := none_later (fun z hz => h z (List.mem_cons_of_mem _ hz))
    exact ⟨by simp only [getC, if_neg hne, h1], by simp only [delC, if_neg hne, h2]⟩
theorem place_at {a b : Int} : ∀ (cs : List Ci) (i : Nat), Srt cs → i ≤ cs.length → (∀ (j : Nat) y, j < i → cs[j]? = some y → ordC a b y < 0) → (∀ (j : Nat) y, i ≤ j → cs[j]? = some y → ¬ ordC a b y < 0) →
    (∃ y, cs[i]? = some y ∧ ordC a b y = 0 ∧ y.a = a ∧ y.b = b ∧ getC a b cs = some y.v ∧ (∀ v, cs.set i ⟨a, b, v⟩ = setC a b v cs) ∧ cs.take i ++ cs.drop (i + 1) = delC a b cs) ∨
    ((∀ y, cs[i]? = some y → ordC a b y ≠ 0) ∧ getC a b cs = none ∧ (∀ v, cs.take i ++ ⟨a, b, v⟩ :: cs.drop i = setC a b v cs) ∧ delC a b cs = cs)
  | [], i, _, hi, _, _ => by
    obtain rfl : i = 0 := by simpa using hi
    right; exact ⟨fun y hy => by simp at hy, rfl, fun v => rfl, rfl⟩
  | x :: l, 0, hs, _, _, h2 => by
    have hx := h2 0 x (Nat.le_refl _) rfl
    have hs := List.pairwise_cons.1 hs
    by_cases h0 : ordC a b x = 0
    · left
      have he := (ordC_zero a b x).1 h0
      exact ⟨x, rfl, h0, he.1, he.2, by simp only [getC, if_pos he], fun v => by simp only [List.set_cons_zero, setC, if_pos he], by simp only [delC, if_pos he]; simp⟩
    · right
      have hne : ¬ (x.a = a ∧ x.b = b) := fun h => h0 ((ordC_zero a b x).2 h)
      have hnl : ¬ ltC x.a x.b a b := fun h => hx ((ordC_neg a b x).2 h)
      have hgt : ltC a b x.a x.b := by unfold ltC at *; omega
      obtain ⟨h3, h4⟩ := none_later (a := a) (b := b) (l := l) (fun y hy => ltC_trans hgt (hs.1 y hy))
      refine ⟨fun y hy => by simp at hy; subst hy; exact h0, by simp only [getC, if_neg hne, h3], fun v => by simp only [setC, if_neg hne, if_neg hnl]; simp, by simp only [delC, if_neg hne, h4]⟩
  | x :: l, i + 1, hs, hi, h1, h2 => by
    have hx := h1 0 x (Nat.succ_pos _) rfl
    have hlt := (ordC_neg a b x).1 hx
    have hne : ¬ (x.a = a ∧ x.b = b) := by unfold ltC at hlt; omega
    have hs := List.pairwise_cons.1 hs
    rcases place_at l i hs.2 (by simpa using hi) (fun j y hj hy => h1 (j + 1) y (by omega) (by simpa using hy)) (fun j y hj hy => h2 (j + 1) y (by omega) (by simpa using hy)) with ⟨y, g1, g2, g3, g4, g5, g6, g7⟩ | ⟨g1, g2, g3, g4⟩
    · left; exact ⟨y, by simpa using g1, g2, g3, g4, by simp only [getC, if_neg hne, g5], fun v => by simp only [List.set_cons_succ, setC, if_neg hne, if_pos hlt, g6], by simp only [delC, if_neg hne, ← g7]; simp⟩
    · right; exact ⟨fun y hy => g1 y (by simpa using hy), by simp only [getC, if_neg hne, g2], fun v => by simp only [setC, if_neg hne, if_pos hlt, ← g3 v]; simp, by simp only [delC, if_neg hne, g4]⟩

theorem Srt.del {cs : List Ci} (h : Srt cs) (a b : Int) : Srt (delC a b cs) ∧ (delC a b cs).length ≤ cs.length := by
  induction cs with
  | nil => exact ⟨List.Pairwise.nil, Nat.le_refl _⟩
  | cons x l ih =>
    have h := List.pairwise_cons.1 h
    simp only [delC]
    split
    · exact ⟨h.2, by simp⟩
    · obtain ⟨h1, h2⟩ := ih h.2
      refine ⟨List.pairwise_cons.2 ⟨fun y hy => h.1 y ?_, h1⟩, by simpa using h2⟩
      have hsub : ∀ l : List Ci, ∀ y ∈ delC a b l, y ∈ l := by
        intro l
        induction l with
        | nil => intro y hy; exact hy
        | cons z l ih =>
          intro y hy
          simp only [delC] at hy
          split at hy
          · exact List.mem_cons_of_mem _ hy
          · rcases List.mem_cons.1 hy with rfl | hy
            · exact List.mem_cons_self ..
            · exact List.mem_cons_of_mem _ (ih y hy)
      exact hsub l y hy

set_option maxRecDepth 10000 in
theorem del_spec (D : Nat → Prop) (g : Nat) (cs : List Ci) (a b : Int) (w : World) (h : Gr D w g cs) (hD : ∀ k, w.heap.size ≤ k → D k) : Calls Try.prog 68 #[.pointer (some ⟨g, 0, none⟩), .int .i64 a, .int .i64 b] w fun e w' => e = .returned (.bool (getC a b cs).isSome) ∧ Gr D w' g (delC a b cs) ∧ Keep (only g) w w' := by
 obtain ⟨hs, hlen, A, cap, h, hDA⟩ := h
 have hgA := h.off
 have hg := h.blk
 have hA := h.sl
 have hglt := hg.lt
 have hltA := SlT.lt hA
 have hK0 : Keep (only g) w w := Keep.refl _ _
 have hzhK0 := Keep.size hK0
 refine enterV Try.func68 rfl [pt g, nt a, nt b] 32 rfl rfl rfl ?_
 refine V_pick [(0, pt g), (1, nt a), (2, nt b)] rfl ?_
 refine V_seq ?_
 refine V_region ?_
 refine OI_static 1 [(0, pt g), (1, nt a), (2, nt b)] (by kernel_rfl) ?_
 refine OI_end rfl ?_
 refine X_then ?_
 refine V_seq ?_
 refine V_seq ?_
 refine V_region ?_
 refine OI_static 2 [(0, pt g), (1, nt a), (2, nt b), (10, .bool false)] (by kernel_rfl) ?_
 refine OI_end rfl ?_
 refine X_then ?_
 refine V_false rfl ?_
 refine V_skip ?_
 refine X_then ?_
 refine V_seq ?_
 refine V_region ?_
 refine OI_static 3 [(0, pt g), (12, pt g), (13, nt a), (14, nt b)] (by kernel_rfl) ?_
 refine OI_call { callee := (Callee.value (Operand.func 78)), args := #[(Operand.tmp 12), (Operand.tmp 13), (Operand.tmp 14)], argTypes := #[95, 3, 3] } 78 #[pt g, nt a, nt b] (some 15) (by kernel_rfl) (by kernel_rfl) (by kernel_rfl) (place_spec g cap A cs a b _ ⟨hg, hA, hgA⟩ hs hlen) ?_
 rintro _ w3 ⟨i, bb, rfl, hk4, hi, hbef, haft, hbb⟩
 refine ⟨_, rfl, ?_⟩
 have hsz5 := Keep.size hk4
 replace hg := hg.keep hk4 (fun f => f)
 replace hA := SlT.keep0 hA hk4
 replace hK0 := Keep.tr hK0 (Keep.ofNone hk4)
 refine OI_static 9 [(0, pt g), (7, nt ((i : Nat) : Int)), (8, .bool bb)] (by kernel_rfl) ?_
 refine OI_end rfl ?_
 refine X_then ?_
 refine V_seq ?_
 refine V_seq ?_
 refine V_region ?_
 refine OI_static 1 [(0, pt g), (7, nt ((i : Nat) : Int)), (8, .bool bb), (18, .bool bb)] (by kernel_rfl) ?_
 refine OI_end rfl ?_
 refine X_then ?_
 refine V_ifb (bb) (by kernel_rfl) (fun hc6 => ?_) (fun hc6 => ?_)
 ·
  rcases place_at cs i hs hi hbef haft with ⟨y, g1, g2, g3, g4, g5, g6, g7⟩ | ⟨g1, _⟩
  rotate_left
  · exact absurd hc6 (by rw [hbb]; split <;> simp_all)
  have hilt := (List.getElem?_eq_some_iff.1 g1).1
  refine V_region ?_
  refine OI_static 4 [(7, nt ((i : Nat) : Int)), (8, .bool bb), (19, pt g), (22, pt g)] (by kernel_rfl) ?_
  refine OI_cell 134 (.tmp 22) 0 (.slice A cs.length cap) (some 23) (by kernel_rfl) (by kernel_rfl) hg (m := 1) (by kernel_rfl) rfl ?_
  refine OI_call { callee := (Callee.value (Operand.func 80)), args := #[(Operand.tmp 23)], argTypes := #[134] } 80 #[.slice A cs.length cap] (some 24) (by kernel_rfl) (by kernel_rfl) (by kernel_rfl) (clone_spec A cap cs _ hA (by omega)) ?_
  rintro _ w7 ⟨A9, cap9, rfl, h9, hk8, hown9⟩
  refine ⟨_, rfl, ?_⟩
  have hsz9 := Keep.size hk8
  replace hg := hg.keep hk8 (fun f => f)
  replace hA := SlT.keep0 hA hk8
  replace hK0 := Keep.tr hK0 (Keep.ofNone hk8)
  have hlt9 := SlT.lt h9
  have hw10 : IntKind.i64.wrap (((i : Nat) : Int) + 1) = ((i + 1 : Nat) : Int) := (wrap64_id (by omega) (by omega)).trans (by omega)
  refine OI_static 9 [(8, .bool bb), (19, pt g), (24, .slice A9 cs.length cap9), (25, nt ((i : Nat) : Int)), (27, nt (IntKind.i64.wrap (((i : Nat) : Int) + 1)))] (by kernel_rfl) ?_
  refine OI_eq [(8, .bool bb), (19, pt g), (24, .slice A9 cs.length cap9), (25, nt ((i : Nat) : Int)), (27, nt ((i + 1 : Nat) : Int))] (by rw [hw10]) ?_
  obtain ⟨b13, o13, L13, T13, rfl, hat13⟩ := SlT.open_ h9 (by first | omega | (simp only [List.length_map]; omega) | (simp; done) | (simp; omega))
  have hb13lt := hat13.blk.lt
  have hbge := hown9 b13 ⟨_, rfl, rfl⟩
  refine OI_call { callee := (Callee.value (Operand.func 79)), args := #[(Operand.tmp 24), (Operand.tmp 25), (Operand.tmp 27)], argTypes := #[134, 3, 3] } 79 #[.slice (some ⟨b13, o13, none⟩) cs.length cap9, nt ((i : Nat) : Int), nt ((i + 1 : Nat) : Int)] (some 28) (by kernel_rfl) (by kernel_rfl) (by kernel_rfl) (delete_spec b13 o13 cap9 i _ _ cs _ hat13 hilt (by omega)) ?_
  rintro _ w11 ⟨rfl, h12, hk12⟩
  refine ⟨_, rfl, ?_⟩
  have hsz14 := Keep.size hk12
  replace hg := hg.keep hk12 (by show ¬ (_ = _); omega)
  replace hA := SlT.keep hA hk12 (fun k hk hs => by have hs : k = b13 := hs; have h2 := hltA _ hk; omega)
  replace hK0 := Keep.fresh hK0 hk12 (by intro i hi hs; first | exact hs | exact Or.inl hs | exact Or.inr hs | (exfalso; have hs2 : i = b13 := hs; omega))
  refine OI_static 12 [(8, .bool bb), (28, .slice (some ⟨b13, o13, none⟩) (cs.length - 1) cap9), (30, pt g)] (by kernel_rfl) ?_
  refine OI_set (m := 1) (kd := false) 134 (.tmp 30) (.tmp 28) 0 (.slice (some ⟨b13, o13, none⟩) (cs.length - 1) cap9) [.slice (some ⟨b13, o13, none⟩) (cs.length - 1) cap9] none (by kernel_rfl) (by kernel_rfl) (by kernel_rfl) hg (by kernel_rfl) (by kernel_rfl) (by kernel_rfl) (Nat.le_of_ble_eq_true (by kernel_rfl)) (by simp [Value.oneCell']) ?_
  intro w15 hg_18 hk16 hz17
  replace hg_18 : Blk w15 g [.slice (some ⟨b13, o13, none⟩) (cs.length - 1) cap9] 136 := hg_18
  have hsz19 := Keep.size hk16
  replace hA := SlT.keep hA hk16 (fun k hk hs => by have hs : k = g := hs; subst hs; exact hgA hk)
  replace h12 := SlT.keep h12 hk16 (fun k hk hs => by have hs : k = g := hs; have h2 := inA_some hk; omega)
  replace hK0 := Keep.fresh hK0 hk16 (by intro i hi hs; first | exact hs | exact Or.inl hs | exact Or.inr hs | (exfalso; have hs2 : i = g := hs; omega))
  refine OI_end rfl ?_
  refine X_then ?_
  refine V_seq ?_
  refine V_region ?_
  refine OI_static 2 [(6, .bool bb)] (by kernel_rfl) ?_
  refine OI_end rfl ?_
  refine X_then ?_
  refine V_ret ?_
  have hl12 : (delC a b cs).length = cs.length - 1 := by rw [← g7]; simp; omega
  rw [g5]
  exact X_return (.bool bb) rfl ⟨by rw [hc6]; rfl, ⟨(hs.del a b).1, by rw [hl12]; omega, _, cap9, ⟨by rw [hl12]; exact hg_18, by rw [← g7]; exact h12, fun h => by have := inA_some h; omega⟩, fun k hk => hD k (by have := inA_some hk; omega)⟩, hK0⟩
 ·
  rcases place_at cs i hs hi hbef haft with ⟨y, g1, g2, _⟩ | ⟨g1, g2, g3, g4⟩
  · exact absurd hc6 (by rw [hbb, g1]; simp [g2])
  refine V_skip ?_
  refine X_then ?_
  refine V_seq ?_
  refine V_region ?_
  refine OI_static 2 [(6, .bool bb)] (by kernel_rfl) ?_
  refine OI_end rfl ?_
  refine X_then ?_
  refine V_ret ?_
  rw [g4, g2]
  exact X_return (.bool bb) rfl ⟨by rw [hc6]; rfl, ⟨hs, hlen, A, cap, ⟨hg, hA, hgA⟩, hDA⟩, hK0⟩

end Go.Al


namespace Go.Al
open Go Go.RowKit Go.Proofs
theorem setC_mem {a b v : Int} {y : Ci} : ∀ {cs : List Ci}, y ∈ setC a b v cs → (y.a = a ∧ y.b = b) ∨ y ∈ cs
  | [], h => by simp only [setC, List.mem_singleton] at h; subst h; exact .inl ⟨rfl, rfl⟩
  | x :: l, h => by
    simp only [setC] at h
    split at h
    · rcases List.mem_cons.1 h with rfl | h
      · exact .inl ⟨rfl, rfl⟩
      · exact .inr (List.mem_cons_of_mem _ h)
    · split at h
      · rcases List.mem_cons.1 h with rfl | h
        · exact .inr (List.mem_cons_self ..)
        · exact (setC_mem h).imp id (List.mem_cons_of_mem _)
      · rcases List.mem_cons.1 h with rfl | h
        · exact .inl ⟨rfl, rfl⟩
        · exact .inr h
theorem Srt.set {a b v : Int} : ∀ {cs : List Ci}, Srt cs → Srt (setC a b v cs) ∧ (setC a b v cs).length ≤ cs.length + 1
  | [], _ => ⟨by simp [setC, Srt], by simp [setC]⟩
  | x :: l, h => by
    have h := List.pairwise_cons.1 h
    simp only [setC]
    split
    · rename_i he
      exact ⟨List.pairwise_cons.2 ⟨fun y hy => by have := h.1 y hy; rw [he.1, he.2] at this; exact this, h.2⟩, by simp⟩
    · rename_i he
      split
      · rename_i hlt
        obtain ⟨h1, h2⟩ := Srt.set (a := a) (b := b) (v := v) h.2
        refine ⟨List.pairwise_cons.2 ⟨fun y hy => ?_, h1⟩, by simpa using h2⟩
        rcases setC_mem hy with ⟨e1, e2⟩ | hy
        · rw [e1, e2]; exact hlt
        · exact h.1 y hy
      · rename_i hnl
        have hgt : ltC a b x.a x.b := by unfold ltC at *; omega
        refine ⟨List.pairwise_cons.2 ⟨fun y hy => ?_, List.pairwise_cons.2 h⟩, by simp⟩
        rcases List.mem_cons.1 hy with rfl | hy
        · exact hgt
        · exact ltC_trans hgt (h.1 y hy)

set_option maxRecDepth 10000 in
theorem set_spec (D : Nat → Prop) (g : Nat) (cs : List Ci) (a b v : Int) (w : World) (h : Gr D w g cs) (hD : ∀ k, w.heap.size ≤ k → D k) (hmax : cs.length < 100000) : Calls Try.prog 69 #[.pointer (some ⟨g, 0, none⟩), .int .i64 a, .int .i64 b, .int .i64 v] w fun e w' => e = .returned (.tuple #[]) ∧ Gr D w' g (setC a b v cs) ∧ Keep (only g) w w' := by
 obtain ⟨hs, hlen, A, cap, h, hDA⟩ := h
 have hgA := h.off
 have hg := h.blk
 have hA := h.sl
 have hglt := hg.lt
 have hltA := SlT.lt hA
 have hK0 : Keep (only g) w w := Keep.refl _ _
 have hzhK0 := Keep.size hK0
 refine enterV Try.func69 rfl [pt g, nt a, nt b, nt v] 44 rfl rfl rfl ?_
 refine V_pick [(0, pt g), (1, nt a), (2, nt b), (3, nt v)] rfl ?_
 refine V_seq ?_
 refine V_seq ?_
 refine V_region ?_
 refine OI_static 2 [(0, pt g), (1, nt a), (2, nt b), (3, nt v), (12, .bool false)] (by kernel_rfl) ?_
 refine OI_end rfl ?_
 refine X_then ?_
 refine V_false rfl ?_
 refine V_skip ?_
 refine X_then ?_
 refine V_seq ?_
 refine V_region ?_
 refine OI_static 3 [(0, pt g), (1, nt a), (2, nt b), (3, nt v), (14, pt g), (15, nt a), (16, nt b)] (by kernel_rfl) ?_
 refine OI_call { callee := (Callee.value (Operand.func 78)), args := #[(Operand.tmp 14), (Operand.tmp 15), (Operand.tmp 16)], argTypes := #[95, 3, 3] } 78 #[pt g, nt a, nt b] (some 17) (by kernel_rfl) (by kernel_rfl) (by kernel_rfl) (place_spec g cap A cs a b _ ⟨hg, hA, hgA⟩ hs hlen) ?_
 rintro _ w5 ⟨i, bb, rfl, hk6, hi, hbef, haft, hbb⟩
 refine ⟨_, rfl, ?_⟩
 have hsz7 := Keep.size hk6
 replace hg := hg.keep hk6 (fun f => f)
 replace hA := SlT.keep0 hA hk6
 replace hK0 := Keep.tr hK0 (Keep.ofNone hk6)
 refine OI_static 9 [(0, pt g), (1, nt a), (2, nt b), (3, nt v), (8, nt ((i : Nat) : Int)), (9, .bool bb)] (by kernel_rfl) ?_
 refine OI_end rfl ?_
 refine X_then ?_
 refine V_seq ?_
 refine V_region ?_
 refine OI_static 3 [(0, pt g), (1, nt a), (2, nt b), (3, nt v), (8, nt ((i : Nat) : Int)), (9, .bool bb), (22, pt g)] (by kernel_rfl) ?_
 refine OI_cell 134 (.tmp 22) 0 (.slice A cs.length cap) (some 23) (by kernel_rfl) (by kernel_rfl) hg (m := 1) (by kernel_rfl) rfl ?_
 refine OI_call { callee := (Callee.value (Operand.func 80)), args := #[(Operand.tmp 23)], argTypes := #[134] } 80 #[.slice A cs.length cap] (some 24) (by kernel_rfl) (by kernel_rfl) (by kernel_rfl) (clone_spec A cap cs _ hA (by omega)) ?_
 rintro _ w10 ⟨A9, cap9, rfl, h9, hk11, hown9⟩
 refine ⟨_, rfl, ?_⟩
 have hsz12 := Keep.size hk11
 replace hg := hg.keep hk11 (fun f => f)
 replace hA := SlT.keep0 hA hk11
 replace hK0 := Keep.tr hK0 (Keep.ofNone hk11)
 have hlt9 := SlT.lt h9
 refine OI_static 6 [(0, pt g), (1, nt a), (2, nt b), (3, nt v), (8, nt ((i : Nat) : Int)), (9, .bool bb), (10, .slice A9 cs.length cap9)] (by kernel_rfl) ?_
 refine OI_end rfl ?_
 refine X_then ?_
 refine V_seq ?_
 refine V_seq ?_
 refine V_region ?_
 refine OI_static 1 [(0, pt g), (1, nt a), (2, nt b), (3, nt v), (8, nt ((i : Nat) : Int)), (10, .slice A9 cs.length cap9), (25, .bool bb)] (by kernel_rfl) ?_
 refine OI_end rfl ?_
 refine X_then ?_
 refine V_ifb (bb) (by kernel_rfl) (fun hc13 => ?_) (fun hc13 => ?_)
 ·
  rcases place_at cs i hs hi hbef haft with ⟨y, g1, g2, g3, g4, g5, g6, g7⟩ | ⟨g1, _⟩
  rotate_left
  · exact absurd hc13 (by rw [hbb]; split <;> simp_all)
  have hilt := (List.getElem?_eq_some_iff.1 g1).1
  refine V_region ?_
  refine OI_static 3 [(0, pt g), (10, .slice A9 cs.length cap9), (26, .slice A9 cs.length cap9), (27, nt ((i : Nat) : Int)), (28, nt v)] (by kernel_rfl) ?_
  obtain ⟨b14, o14, L14, T14, rfl, hat14⟩ := SlT.open_ h9 (by first | omega | (simp only [List.length_map]; omega) | (simp; done) | (simp; omega))
  have hb14lt := hat14.blk.lt
  refine OI_pure (some 29) (.indexAddr 134 (.tmp 26) (.tmp 27)) (by kernel_rfl) (pure_idxN (b := b14) (o := o14) (len := cs.length) (cap := cap9) (kd := .i64) (j := i) (E := 157) (sz := 3) (by_ := 24) (by kernel_rfl) (by kernel_rfl) (by kernel_rfl) (by omega)) ?_
  refine OI_static 5 [(0, pt g), (10, .slice (some ⟨b14, o14, none⟩) cs.length cap9), (28, nt v), (30, .pointer (some ⟨b14, o14 + i * 3 + 2, none⟩))] (by kernel_rfl) ?_
  refine OI_set (m := 1) (kd := false) 3 (.tmp 30) (.tmp 28) (o14 + i * 3 + 2) (nt v) [nt v] none (by kernel_rfl) (by kernel_rfl) (by kernel_rfl) (At.blk hat14) (by kernel_rfl) (by kernel_rfl) rfl (by have h1 := At.room hat14; have h2 := At.le hat14; rw [List.length_map] at h2; omega) (by simp [Value.oneCell']) ?_
  intro w8 hn8 hk8 hz8
  have hat8 := At.set (y := (⟨a, b, v⟩ : Ci)) (k := 2) hat14 g1 (by omega) (by simp [Ci.cells, over, g3, g4]) hn8
  have hbge := hown9 b14 ⟨_, rfl, rfl⟩
  have hsz15 := Keep.size hk8
  replace hg := hg.keep hk8 (by show ¬ (_ = _); omega)
  replace hA := SlT.keep hA hk8 (fun k hk hs => by have hs : k = b14 := hs; have h2 := hltA _ hk; omega)
  replace hK0 := Keep.fresh hK0 hk8 (by intro i hi hs; first | exact hs | exact Or.inl hs | exact Or.inr hs | (exfalso; have hs2 : i = b14 := hs; omega))
  refine OI_end rfl ?_
  refine X_then ?_
  refine V_region ?_
  refine OI_static 4 [(41, .slice (some ⟨b14, o14, none⟩) cs.length cap9), (43, pt g)] (by kernel_rfl) ?_
  refine OI_set (m := 1) (kd := false) 134 (.tmp 43) (.tmp 41) 0 (.slice (some ⟨b14, o14, none⟩) cs.length cap9) [.slice (some ⟨b14, o14, none⟩) cs.length cap9] none (by kernel_rfl) (by kernel_rfl) (by kernel_rfl) hg (by kernel_rfl) (by kernel_rfl) (by kernel_rfl) (Nat.le_of_ble_eq_true (by kernel_rfl)) (by simp [Value.oneCell']) ?_
  intro w16 hg_19 hk17 hz18
  replace hg_19 : Blk w16 g [.slice (some ⟨b14, o14, none⟩) cs.length cap9] 136 := hg_19
  have hsz20 := Keep.size hk17
  replace hat8 := hat8.keep hk17 (by show ¬ (_ = _); omega)
  replace hA := SlT.keep hA hk17 (fun k hk hs => by have hs : k = g := hs; subst hs; exact hgA hk)
  replace hK0 := Keep.fresh hK0 hk17 (by intro i hi hs; first | exact hs | exact Or.inl hs | exact Or.inr hs | (exfalso; have hs2 : i = g := hs; omega))
  refine OI_end rfl ?_
  obtain ⟨hs1, hs2⟩ := Srt.set (a := a) (b := b) (v := v) hs
  have hl : (setC a b v cs).length = cs.length := by rw [← g6 v]; simp
  exact X_end _ rfl ⟨rfl, ⟨hs1, by omega, _, cap9, ⟨by rw [hl]; exact hg_19, by rw [← g6 v]; exact At.slt hat8, fun h => by have := inA_some h; omega⟩, fun k hk => hD k (by have := inA_some hk; omega)⟩, hK0⟩
 ·
  rcases place_at cs i hs hi hbef haft with ⟨y, g1, g2, _⟩ | ⟨g1, g2, g3, g4⟩
  · exact absurd hc13 (by rw [hbb, g1]; simp [g2])
  refine V_region ?_
  refine OI_static 7 [(0, pt g), (31, .slice A9 cs.length cap9), (32, nt ((i : Nat) : Int)), (37, .agg #[nt a, nt b, nt v])] (by kernel_rfl) ?_
  refine OI_slit (E := 157) (zv := .agg #[nt 0, nt 0, nt 0]) (sz := 3) (by_ := 24) 134 1 #[(0, (Operand.tmp 37))] [.agg #[nt a, nt b, nt v]] [nt a, nt b, nt v] (some 38) (by kernel_rfl) (by kernel_rfl) (by kernel_rfl) (by omega) rfl (by omega) (by intro v hv; simp only [List.mem_cons, List.not_mem_nil, or_false] at hv; rcases hv with rfl <;> rfl) (by kernel_rfl) rfl ?_
  intro b21 w21 e21 hb21 k21 z21
  have hsz22 := Keep.size k21
  replace hg := hg.keep k21 (fun f => f)
  replace hA := SlT.keep0 hA k21
  replace h9 := SlT.keep0 h9 k21
  replace hK0 := Keep.tr hK0 (Keep.ofNone k21)
  have hb21lt := hb21.lt
  have hne9 : ¬ inA A9 b21 := fun hs => by have h1 := hlt9 _ hs; have h2 := hown9 _ hs; omega
  refine OI_call { callee := (Callee.value (Operand.func 81)), args := #[(Operand.tmp 31), (Operand.tmp 32), (Operand.tmp 38)], argTypes := #[134, 3, 134] } 81 #[.slice A9 cs.length cap9, nt ((i : Nat) : Int), .slice (some ⟨b21, 0, none⟩) 1 1] (some 39) (by kernel_rfl) (by kernel_rfl) (by kernel_rfl) (insert_spec A9 cap9 b21 i cs ⟨a, b, v⟩ _ h9 hb21 hne9 hi (by omega)) ?_
  rintro _ w23 ⟨A10, cap10, rfl, h10, hk24, hown10⟩
  refine ⟨_, rfl, ?_⟩
  have hsz25 := Keep.size hk24
  replace hg := hg.keep hk24 (fun hs => by have h1 := hlt9 _ hs; have h2 := hown9 _ hs; omega)
  replace hb21 := hb21.keep hk24 (fun hs => by have h1 := hlt9 _ hs; have h2 := hown9 _ hs; omega)
  replace hA := SlT.keep hA hk24 (fun k hk hs => by have h1 := hltA k hk; have h2 := hown9 _ hs; omega)
  replace hK0 := Keep.fresh hK0 hk24 (by intro i hi hs; exfalso; have h2 := hown9 i hs; omega)
  have hgA10 : ¬ inA A10 g := fun hs => by rcases hown10 _ hs with h | h; (have h2 := hown9 _ h; omega); omega
  refine OI_static 10 [(0, pt g), (10, .slice A10 (cs.length + 1) cap10)] (by kernel_rfl) ?_
  refine OI_end rfl ?_
  refine X_then ?_
  refine V_region ?_
  refine OI_static 4 [(41, .slice A10 (cs.length + 1) cap10), (43, pt g)] (by kernel_rfl) ?_
  refine OI_set (m := 1) (kd := false) 134 (.tmp 43) (.tmp 41) 0 (.slice A10 (cs.length + 1) cap10) [.slice A10 (cs.length + 1) cap10] none (by kernel_rfl) (by kernel_rfl) (by kernel_rfl) hg (by kernel_rfl) (by kernel_rfl) (by kernel_rfl) (Nat.le_of_ble_eq_true (by kernel_rfl)) (by simp [Value.oneCell']) ?_
  intro w26 hg_29 hk27 hz28
  replace hg_29 : Blk w26 g [.slice A10 (cs.length + 1) cap10] 136 := hg_29
  have hsz30 := Keep.size hk27
  replace hb21 := hb21.keep hk27 (by show ¬ (_ = _); omega)
  replace hA := SlT.keep hA hk27 (fun k hk hs => by have hs : k = g := hs; subst hs; exact hgA hk)
  replace h10 := SlT.keep h10 hk27 (fun k hk hs => by have hs : k = g := hs; subst hs; exact hgA10 hk)
  replace hK0 := Keep.fresh hK0 hk27 (by intro i hi hs; first | exact hs | exact Or.inl hs | exact Or.inr hs | (exfalso; have hs2 : i = g := hs; omega))
  refine OI_end rfl ?_
  obtain ⟨hs1, hs2⟩ := Srt.set (a := a) (b := b) (v := v) hs
  rw [g3 v] at h10
  have hl : (setC a b v cs).length = cs.length + 1 := by rw [← g3 v]; simp; omega
  exact X_end _ rfl ⟨rfl, ⟨hs1, by omega, A10, cap10, ⟨by rw [hl]; exact hg_29, h10, hgA10⟩, fun k hk => hD k (by rcases hown10 _ hk with h | h; (have h2 := hown9 _ h; omega); omega)⟩, hK0⟩

end Go.Al


namespace Go.Al
open Go Go.RowKit Go.Proofs
/-! ### All cells, one behind the other -/
def encC (cs : List Ci) (k : Nat) : Array Value := match cs[k]? with | some c => #[.agg #[.int .i64 c.a, .int .i64 c.b], .int .i64 c.v] | none => #[undef, undef]
theorem encC_at {cs : List Ci} {k : Nat} {c : Ci} (h : cs[k]? = some c) : encC cs k = #[.agg #[.int .i64 c.a, .int .i64 c.b], .int .i64 c.v] := by unfold encC; rw [h]
theorem encC_size (cs : List Ci) (k : Nat) : (encC cs k).size = 2 := by unfold encC; split <;> rfl

set_option maxRecDepth 10000 in
theorem cells1_iter (c g cap : Nat) (A : Option Addr) (cs : List Ci) (hn : cs.length ≤ 1000000) : Iter Try.prog 93 #[.pointer (some ⟨c, 0, none⟩)] cs.length (encC cs) (fun W => Blk W c [.pointer (some ⟨g, 0, none⟩)] 95 ∧ GrAt W g A cap cs) (fun W => SlT W 3 Ci.cells A cap cs) := by
 intro l J Jx w hPre hJ hJx hY hOk h0
 obtain ⟨hc, h⟩ := hPre
 have hg := h.blk
 have hA := h.sl
 have hglt := hg.lt
 have hclt := hc.lt
 show Calls Try.prog 93 #[.func (.yield l) #[] #[], .pointer (some ⟨c, 0, none⟩)] w _
 have hK0 : Keep none_ w w := Keep.refl _ _
 have hzhK0 := Keep.size hK0
 refine enterV Try.func93 rfl [.func (.yield l) #[] #[], pt c] 24 rfl rfl rfl ?_
 refine V_pick [(0, .func (.yield l) #[] #[]), (1, pt c)] rfl ?_
 refine V_seq ?_
 refine V_seq ?_
 refine V_region ?_
 refine OI_cell 95 (.tmp 1) 0 (pt g) (some 5) (by kernel_rfl) (by kernel_rfl) hc (m := 1) (by kernel_rfl) rfl ?_
 refine OI_static 2 [(0, .func (.yield l) #[] #[]), (1, pt c), (6, .bool false)] (by kernel_rfl) ?_
 refine OI_end rfl ?_
 refine X_then ?_
 refine V_false rfl ?_
 refine V_skip ?_
 refine X_then ?_
 refine V_seq ?_
 refine V_region ?_
 refine OI_cell 95 (.tmp 1) 0 (pt g) (some 7) (by kernel_rfl) (by kernel_rfl) hc (m := 1) (by kernel_rfl) rfl ?_
 refine OI_static 3 [(0, .func (.yield l) #[] #[]), (9, pt g)] (by kernel_rfl) ?_
 refine OI_cell 134 (.tmp 9) 0 (.slice A cs.length cap) (some 10) (by kernel_rfl) (by kernel_rfl) hg (m := 1) (by kernel_rfl) rfl ?_
 refine OI_static 6 [(0, .func (.yield l) #[] #[]), (10, .slice A cs.length cap), (11, nt ((cs.length : Nat) : Int)), (12, nt 0)] (by kernel_rfl) ?_
 refine OI_end rfl ?_
 refine X_then ?_
 refine V_block ?_
 have hj0 := hJ 0 _ _ h0 (Keep.ofNone hK0)
 refine V_pick [(0, .func (.yield l) #[] #[]), (10, .slice A cs.length cap), (11, nt ((cs.length : Nat) : Int)), (12, nt 0)] rfl ?_
 refine V_loop (fun k wI e => ∃ i : Nat, (k + i = cs.length) ∧ (J i wI) ∧ e = [(0, .func (.yield l) #[] #[]), (10, .slice A cs.length cap), (11, nt ((cs.length : Nat) : Int)), (12, nt ((i : Nat) : Int))]) cs.length ⟨0, rfl, hj0, rfl⟩ ?_
 rintro k2 w1 _ ⟨i, hki, hj, rfl⟩
 have hA := hOk _ _ hj
 have hkh : Keep none_ w1 w1 := Keep.refl _ _
 have hzhkh := Keep.size hkh
 refine V_seq ?_
 refine V_region ?_
 refine OI_static 1 [(0, .func (.yield l) #[] #[]), (10, .slice A cs.length cap), (11, nt ((cs.length : Nat) : Int)), (12, nt ((i : Nat) : Int)), (13, .bool (decide (((i : Nat) : Int) < ((cs.length : Nat) : Int))))] (by kernel_rfl) ?_
 refine OI_end rfl ?_
 refine X_then ?_
 refine V_seq ?_
 refine V_if (((i : Nat) : Int) < ((cs.length : Nat) : Int)) (by kernel_rfl) (fun hc4 => ?_) (fun hc4 => ?_)
 ·
  refine V_skip ?_
  refine X_then ?_
  refine V_seq ?_
  refine V_block ?_
  refine V_seq ?_
  refine V_region ?_
  obtain ⟨b5, o5, L5, T5, rfl, hat5⟩ := SlT.open_ hA (by first | omega | (simp only [List.length_map]; omega) | (simp; done) | (simp; omega))
  have hb5lt := hat5.blk.lt
  refine OI_pure (some 14) (.indexAddr 134 (.tmp 10) (.tmp 12)) (by kernel_rfl) (pure_idxN (b := b5) (o := o5) (len := cs.length) (cap := cap) (kd := .i64) (j := i) (E := 157) (sz := 3) (by_ := 24) (by kernel_rfl) (by kernel_rfl) (by kernel_rfl) (by omega)) ?_
  obtain ⟨x6, hx7⟩ : ∃ x, cs[i]? = some x := ⟨_, List.getElem?_eq_getElem (by first | omega | (simp only [List.length_map]; omega))⟩
  refine OI_agg 157 (.tmp 14) (o5 + i * 3) (Ci.cells x6) (some 15) (by kernel_rfl) (by kernel_rfl) hat5.blk (m := 3) (by kernel_rfl) (At.elem' hat5 (es_at hx7)) (At.len hat5 (es_at hx7)) ?_
  refine OI_alloc 157 (.agg #[nt 0, nt 0, nt 0]) [nt 0, nt 0, nt 0] (some 4) (by kernel_rfl) (by kernel_rfl) (by kernel_rfl) ?_
  intro b8 w8 e8 hb8 k8 z8
  have hsz9 := Keep.size k8
  replace hat5 := hat5.keep k8 (fun f => f)
  replace hkh := Keep.tr hkh (Keep.ofNone k8)
  have hb8lt := hb8.lt
  refine OI_set (m := 3) (kd := true) 157 (.tmp 4) (.tmp 15) 0 (.agg (Ci.cells x6).toArray) (Ci.cells x6) none (by kernel_rfl) (by kernel_rfl) (by kernel_rfl) hb8 (by kernel_rfl) rfl (Ci.len _) (Nat.le_of_ble_eq_true (by kernel_rfl)) (Ci.one _) ?_
  intro w10 hb8_13 hk11 hz12
  replace hb8_13 : Blk w10 b8 (Ci.cells x6) 157 := (by rwa [over_whole (by rw [Ci.len]; rfl)] at hb8_13)
  have hsz14 := Keep.size hk11
  replace hat5 := hat5.keep hk11 (by show ¬ (_ = _); omega)
  replace hkh := Keep.fresh hkh hk11 (by intro i hi hs; first | exact hs | exact Or.inl hs | exact Or.inr hs | (exfalso; have hs2 : i = b8 := hs; omega))
  refine OI_end rfl ?_
  refine X_then ?_
  refine V_seq ?_
  refine V_region ?_
  refine OI_static 2 [(0, .func (.yield l) #[] #[]), (4, pt b8), (10, .slice (some ⟨b5, o5, none⟩) cs.length cap), (11, nt ((cs.length : Nat) : Int)), (12, nt ((i : Nat) : Int)), (16, .func (.yield l) #[] #[]), (17, pt b8)] (by kernel_rfl) ?_
  refine OI_agg 121 (.tmp 17) 0 [nt x6.a, nt x6.b] (some 18) (by kernel_rfl) (by kernel_rfl) hb8_13 (m := 2) (by kernel_rfl) rfl rfl ?_
  refine OI_static 4 [(0, .func (.yield l) #[] #[]), (10, .slice (some ⟨b5, o5, none⟩) cs.length cap), (11, nt ((cs.length : Nat) : Int)), (12, nt ((i : Nat) : Int)), (16, .func (.yield l) #[] #[]), (18, .agg #[nt x6.a, nt x6.b]), (19, .pointer (some ⟨b8, 2, none⟩))] (by kernel_rfl) ?_
  refine OI_cell 3 (.tmp 19) 2 (nt x6.v) (some 20) (by kernel_rfl) (by kernel_rfl) hb8_13 (m := 1) (by kernel_rfl) rfl ?_
  refine OI_yield { callee := (Callee.value (Operand.tmp 16)), args := #[(Operand.tmp 18), (Operand.tmp 20)], argTypes := #[121, 3] } l #[.agg #[nt x6.a, nt x6.b], nt x6.v] (some 21) (by kernel_rfl) (by kernel_rfl) (by have hy := hY i _ (by omega) (hJ i _ _ hj (Keep.ofNone hkh)); rw [encC_at hx7] at hy; exact hy) ?_
  rintro _ w15 (⟨rfl, hj16⟩ | ⟨rfl, hj16⟩)
  ·
   refine ⟨_, rfl, ?_⟩
   refine OI_static 7 [(0, .func (.yield l) #[] #[]), (10, .slice (some ⟨b5, o5, none⟩) cs.length cap), (11, nt ((cs.length : Nat) : Int)), (12, nt ((i : Nat) : Int)), (22, .bool false)] (by kernel_rfl) ?_
   refine OI_end rfl ?_
   refine X_then ?_
   refine V_false rfl ?_
   refine V_skip ?_
   refine X_block ?_
   refine X_then ?_
   refine V_region ?_
   have hw17 : IntKind.i64.wrap (((i : Nat) : Int) + 1) = ((i + 1 : Nat) : Int) := (wrap64_id (by omega) (by omega)).trans (by omega)
   refine OI_static 1 [(0, .func (.yield l) #[] #[]), (10, .slice (some ⟨b5, o5, none⟩) cs.length cap), (11, nt ((cs.length : Nat) : Int)), (23, nt (IntKind.i64.wrap (((i : Nat) : Int) + 1)))] (by kernel_rfl) ?_
   refine OI_eq [(0, .func (.yield l) #[] #[]), (10, .slice (some ⟨b5, o5, none⟩) cs.length cap), (11, nt ((cs.length : Nat) : Int)), (23, nt ((i + 1 : Nat) : Int))] (by rw [hw17]) ?_
   refine OI_static 2 [(0, .func (.yield l) #[] #[]), (10, .slice (some ⟨b5, o5, none⟩) cs.length cap), (11, nt ((cs.length : Nat) : Int)), (12, nt ((i + 1 : Nat) : Int))] (by kernel_rfl) ?_
   refine OI_end rfl ?_
   exact V_again (k2 - 1) (by omega) [(0, .func (.yield l) #[] #[]), (10, .slice (some ⟨b5, o5, none⟩) cs.length cap), (11, nt ((cs.length : Nat) : Int)), (12, nt ((i + 1 : Nat) : Int))] rfl ⟨i + 1, by omega, hj16, rfl⟩
  ·
   refine ⟨_, rfl, ?_⟩
   refine OI_static 7 [(0, .func (.yield l) #[] #[]), (10, .slice (some ⟨b5, o5, none⟩) cs.length cap), (11, nt ((cs.length : Nat) : Int)), (12, nt ((i : Nat) : Int)), (22, .bool true)] (by kernel_rfl) ?_
   refine OI_end rfl ?_
   refine X_then ?_
   refine V_true rfl ?_
   refine V_ret ?_
   refine X_ret_block ?_
   refine X_ret_then ?_
   refine X_ret_then ?_
   refine X_ret_block ?_
   exact X_return _ rfl ⟨⟨_, rfl⟩, .inr ⟨i + 1, by omega, hj16⟩⟩
 ·
  refine V_exit ?_
  refine X_exit_then ?_
  refine X_exit_then ?_
  refine X_exit_here ?_
  have he : i = cs.length := by omega
  rw [he] at hj
  exact X_end _ rfl ⟨⟨_, rfl⟩, .inl (hJ _ _ _ hj (Keep.ofNone hkh))⟩

set_option maxRecDepth 10000 in
theorem cellsfn_spec (v : Value) (hv : v.cells = [v].toArray) (w : World) : Calls Try.prog 85 #[v] w fun e w' => ∃ c, e = .returned (.func (.func 93) #[] #[.pointer (some ⟨c, 0, none⟩)]) ∧ Blk w' c [v] 95 ∧ Keep none_ w w' ∧ w.heap.size ≤ c := by
 have hK0 : Keep none_ w w := Keep.refl _ _
 have hzhK0 := Keep.size hK0
 refine enterV Try.func85 rfl [v] 4 rfl rfl rfl ?_
 refine V_pick [(0, v)] rfl ?_
 refine V_seq ?_
 refine V_region ?_
 refine OI_box 95 (.tmp 0) v [v] (some 1) (by kernel_rfl) (by kernel_rfl) hv ?_
 intro b1 w1 e1 hb1 k1 z1
 have hsz2 := Keep.size k1
 replace hK0 := Keep.tr hK0 (Keep.ofNone k1)
 have hb1lt := hb1.lt
 refine OI_static 2 [(1, pt b1)] (by kernel_rfl) ?_
 refine OI_end rfl ?_
 refine X_then ?_
 refine V_seq ?_
 refine V_region ?_
 refine OI_static 2 [(2, .func (.func 93) #[] #[pt b1])] (by kernel_rfl) ?_
 refine OI_end rfl ?_
 refine X_then ?_
 refine V_ret ?_
 exact X_return _ rfl ⟨_, rfl, hb1, hK0, by omega⟩
end Go.Al


namespace Go.Al
open Go Go.RowKit Go.Proofs
/-! ### A row, a column -/
def rowL (n : Int) (cs : List Ci) : List (Int × Int) := (cs.filter fun c => c.a == n).map fun c => (c.b, c.v)
def enc2 (xs : List (Int × Int)) (k : Nat) : Array Value := match xs[k]? with | some p => #[.int .i64 p.1, .int .i64 p.2] | none => #[undef, undef]
theorem enc2_at {xs : List (Int × Int)} {k : Nat} {p : Int × Int} (h : xs[k]? = some p) : enc2 xs k = #[.int .i64 p.1, .int .i64 p.2] := by unfold enc2; rw [h]
theorem enc2_size (xs : List (Int × Int)) (k : Nat) : (enc2 xs k).size = 2 := by unfold enc2; split <;> rfl
theorem fm_step {α β : Type} (p : α → Bool) (f : α → β) {cs : List α} {k : Nat} {c : α} (h : cs[k]? = some c) : ((cs.take (k + 1)).filter p).map f = if p c then ((cs.take k).filter p).map f ++ [f c] else ((cs.take k).filter p).map f := by
  obtain ⟨h1, rfl⟩ := List.getElem?_eq_some_iff.1 h
  rw [List.take_succ_eq_append_getElem h1, List.filter_append, List.map_append]
  by_cases hp : p cs[k] = true <;> simp [hp]
theorem fm_at {α β : Type} (p : α → Bool) (f : α → β) {cs : List α} {k : Nat} {c : α} (h : cs[k]? = some c) (hp : p c = true) : (((cs.filter p).map f)[(((cs.take k).filter p).map f).length]? = some (f c)) ∧ (((cs.take k).filter p).map f).length < ((cs.filter p).map f).length := by
  have h2 := fm_step p f h
  rw [if_pos hp] at h2
  have h3 : (cs.filter p).map f = (((cs.take k).filter p).map f ++ [f c]) ++ ((cs.drop (k + 1)).filter p).map f := by
    rw [← h2, ← List.map_append, ← List.filter_append, List.take_append_drop]
  rw [h3]
  exact ⟨by simp, by simp⟩
theorem rowL_step {n : Int} {cs : List Ci} {k : Nat} {c : Ci} (h : cs[k]? = some c) : rowL n (cs.take (k + 1)) = if c.a = n then rowL n (cs.take k) ++ [(c.b, c.v)] else rowL n (cs.take k) := by
  have := fm_step (fun c : Ci => c.a == n) (fun c => (c.b, c.v)) h
  simpa [rowL] using this
theorem rowL_at {n : Int} {cs : List Ci} {k : Nat} {c : Ci} (h : cs[k]? = some c) (hc : c.a = n) : (rowL n cs)[(rowL n (cs.take k)).length]? = some (c.b, c.v) ∧ (rowL n (cs.take k)).length < (rowL n cs).length := fm_at (fun c : Ci => c.a == n) (fun c => (c.b, c.v)) h (by simp [hc])
/-- What a way along needs of the world while it goes on. -/
structure AlOk (bs bn : Nat) (s n : Int) (A : Option Addr) (cap : Nat) (cs : List Ci) (W : World) : Prop where
  side : Blk W bs [.int .i64 s] 3
  num : Blk W bn [.int .i64 n] 3
  sl : SlT W 3 Ci.cells A cap cs
theorem AlOk.quiet {N bs bn : Nat} {s n : Int} {A : Option Addr} {cap : Nat} {cs : List Ci} {W W' : World} (h : AlOk bs bn s n A cap cs W) (k : Keep (lb N W) W W') : AlOk bs bn s n A cap cs W' := ⟨h.1.quiet k, h.2.quiet k, h.3.quiet k⟩
theorem AlOk.keep0 {bs bn : Nat} {s n : Int} {A : Option Addr} {cap : Nat} {cs : List Ci} {W W' : World} (h : AlOk bs bn s n A cap cs W) (k : Keep none_ W W') : AlOk bs bn s n A cap cs W' := ⟨h.1.keep k (fun f => f), h.2.keep k (fun f => f), h.3.keep0 k⟩
theorem GrAt.quiet {N g cap : Nat} {A : Option Addr} {cs : List Ci} {W W' : World} (h : GrAt W g A cap cs) (k : Keep (lb N W) W W') : GrAt W' g A cap cs := ⟨h.blk.quiet k, h.sl.quiet k, h.off⟩
theorem GrAt.keep0 {g cap : Nat} {A : Option Addr} {cs : List Ci} {W W' : World} (h : GrAt W g A cap cs) (k : Keep none_ W W') : GrAt W' g A cap cs := ⟨h.blk.keep k (fun f => f), h.sl.keep0 k, h.off⟩

set_option maxRecDepth 10000 in
theorem along1_iter0 (bg bs bn g cap : Nat) (A : Option Addr) (cs : List Ci) (n : Int) (hn : cs.length ≤ 1000000) : Iter2 Try.prog 84 #[.pointer (some ⟨bg, 0, none⟩), .pointer (some ⟨bs, 0, none⟩), .pointer (some ⟨bn, 0, none⟩)] (rowL n cs).length (enc2 (rowL n cs)) (fun W => Blk W bg [pt g] 95 ∧ GrAt W g A cap cs ∧ AlOk bs bn 0 n A cap cs W) (AlOk bs bn 0 n A cap cs) := by
 intro l J Jx w hPre hJ hJx hY hOk h0
 obtain ⟨hbg, h, ho⟩ := hPre
 have hbs := ho.side
 have hbn := ho.num
 have hg := h.blk
 have hA := h.sl
 have hglt := hg.lt
 have hgA := h.off
 have hbslt := hbs.lt
 have hbnlt := hbn.lt
 have hbglt := hbg.lt
 show Calls Try.prog 84 #[.func (.yield l) #[] #[], .pointer (some ⟨bg, 0, none⟩), .pointer (some ⟨bs, 0, none⟩), .pointer (some ⟨bn, 0, none⟩)] w _
 have hK0 : Keep none_ w w := Keep.refl _ _
 have hzhK0 := Keep.size hK0
 refine enterM Try.func84 rfl [.func (.yield l) #[] #[], pt bg, pt bs, pt bn] 26 rfl rfl rfl ?_
 refine V_pick [(0, .func (.yield l) #[] #[]), (1, pt bg), (2, pt bs), (3, pt bn)] rfl ?_
 refine V_seq ?_
 refine V_region ?_
 refine OI_box 40 (.tmp 0) (.func (.yield l) #[] #[]) [.func (.yield l) #[] #[]] (some 4) (by kernel_rfl) (by kernel_rfl) (by kernel_rfl) ?_
 intro b1 w1 e1 hb1 k1 z1
 have hsz2 := Keep.size k1
 replace hbg := hbg.keep k1 (fun f => f)
 replace hbs := hbs.keep k1 (fun f => f)
 replace hbn := hbn.keep k1 (fun f => f)
 replace hg := hg.keep k1 (fun f => f)
 replace hA := SlT.keep0 hA k1
 replace hK0 := Keep.tr hK0 (Keep.ofNone k1)
 have hb1lt := hb1.lt
 refine OI_end rfl ?_
 refine X_then ?_
 refine V_seq ?_
 refine V_region ?_
 refine OI_cell 95 (.tmp 1) 0 (pt g) (some 7) (by kernel_rfl) (by kernel_rfl) hbg (m := 1) (by kernel_rfl) rfl ?_
 refine OI_call { callee := (Callee.value (Operand.func 85)), args := #[(Operand.tmp 7)], argTypes := #[95] } 85 #[pt g] (some 8) (by kernel_rfl) (by kernel_rfl) (by kernel_rfl) (cellsfn_spec _ rfl _) ?_
 rintro _ w3 ⟨c5, rfl, hc5, hk4, hgec5⟩
 refine ⟨_, rfl, ?_⟩
 have hsz6 := Keep.size hk4
 replace hbg := hbg.keep hk4 (fun f => f)
 replace hbs := hbs.keep hk4 (fun f => f)
 replace hbn := hbn.keep hk4 (fun f => f)
 replace hg := hg.keep hk4 (fun f => f)
 replace hb1 := hb1.keep hk4 (fun f => f)
 replace hA := SlT.keep0 hA hk4
 replace hK0 := Keep.tr hK0 (Keep.ofNone hk4)
 have hc5lt := hc5.lt
 refine OI_end rfl ?_
 refine X_then ?_
 refine V_block ?_
 have hb4ge : w.heap.size ≤ b1 := by omega
 refine V_pick [(2, pt bs), (3, pt bn), (4, pt b1), (8, .func (.func 93) #[] #[pt c5])] rfl ?_
 have hN0 : w.heap.size ≤ w3.heap.size := Keep.size hK0
 refine V_range2 (gf := 93) (caps := #[pt c5]) (m := cs.length) (by kernel_rfl) (by kernel_rfl) (by kernel_rfl) ((cells1_iter c5 g cap A cs hn).to2) (⟨hc5, ⟨hg, hA, hgA⟩⟩) (fun W W' h k => ⟨h.1.quiet k, h.2.quiet k⟩) (encC_size cs) (fun M1 k W => (Blk W bs [nt 0] 3) ∧ (Blk W bn [nt n] 3) ∧ (Blk W b1 [.func (.yield l) #[] #[]] 40) ∧ (J M1 (rowL n (cs.take k)).length W)) (fun M1 c k W => (c = .ret ∧ ∃ q : Nat, (Jx M1 q W) ∧ (q ≤ (rowL n cs).length))) (fun M1 k W W' h hk => by obtain ⟨jbs, jbn, jb1, jj⟩ := h; exact ⟨jbs.quiet hk, jbn.quiet hk, jb1.quiet hk, (((hJ _ _).mono (by omega)) _ _ jj hk)⟩) (fun M1 c k W W' h hk => by obtain ⟨hc, q, xx, hq⟩ := h; exact ⟨hc, q, (((hJx _ _).mono (by omega)) _ _ xx hk), hq⟩) (fun M1 hM1 => ⟨hbs, hbn, hb1, hJ _ _ _ _ (h0 _ (by omega)) (Keep.ofNone hK0)⟩) (fun M1 k W h => by obtain ⟨jbs, jbn, jb1, jj⟩ := h; exact (hOk _ _ _ jj).sl) ?_ ?_ ?_
 ·
  intro lp D M1 k W hD hl hM hMW hkm ⟨jbs, jbn, jb1, jj⟩ ⟨rr, hrr⟩ hDD
  have hbslt := jbs.lt
  have hbnlt := jbn.lt
  have hb1lt := jb1.lt
  obtain ⟨x, hx⟩ : ∃ x, cs[k]? = some x := ⟨_, List.getElem?_eq_getElem (by omega)⟩
  rw [encC_at hx]
  refine V_pick [(2, pt bs), (3, pt bn), (4, pt b1), (9, .agg #[nt x.a, nt x.b]), (10, nt x.v)] rfl ?_
  have hfen : Keep (fen w3.heap.size M1) W W := Keep.refl _ _
  have hzhfen := Keep.size hfen
  have hkj : Keep none_ W W := Keep.refl _ _
  have hzhkj := Keep.size hkj
  refine V_seq ?_
  refine V_region ?_
  refine OI_alloc 121 (.agg #[nt 0, nt 0]) [nt 0, nt 0] (some 5) (by kernel_rfl) (by kernel_rfl) (by kernel_rfl) ?_
  intro b7 w7 e7 hb7 k7 z7
  have hsz8 := Keep.size k7
  replace jbs := jbs.keep k7 (fun f => f)
  replace jbn := jbn.keep k7 (fun f => f)
  replace jb1 := jb1.keep k7 (fun f => f)
  replace hfen := Keep.tr hfen (Keep.ofNone k7)
  replace hkj := Keep.tr hkj (Keep.ofNone k7)
  have hb7lt := hb7.lt
  refine OI_set (m := 2) (kd := true) 121 (.tmp 5) (.tmp 9) 0 (.agg #[nt x.a, nt x.b]) [nt x.a, nt x.b] none (by kernel_rfl) (by kernel_rfl) (by kernel_rfl) hb7 (by kernel_rfl) (by kernel_rfl) (by kernel_rfl) (Nat.le_of_ble_eq_true (by kernel_rfl)) (by simp [Value.oneCell']) ?_
  intro w9 hb7_12 hk10 hz11
  replace hb7_12 : Blk w9 b7 [nt x.a, nt x.b] 121 := hb7_12
  have hsz13 := Keep.size hk10
  replace jbs := jbs.keep hk10 (by show ¬ (_ = _); omega)
  replace jbn := jbn.keep hk10 (by show ¬ (_ = _); omega)
  replace jb1 := jb1.keep hk10 (by show ¬ (_ = _); omega)
  replace hfen := Keep.fresh hfen hk10 (by intro i hi hs; have hs2 : i = b7 := hs; show _ ∨ _; omega)
  replace hkj := Keep.fresh hkj hk10 (by intro i hi hs; first | exact hs | exact Or.inl hs | exact Or.inr hs | (exfalso; have hs2 : i = b7 := hs; omega))
  refine OI_end rfl ?_
  refine X_then ?_
  refine V_region ?_
  refine OI_static 1 [(2, pt bs), (3, pt bn), (4, pt b1), (5, pt b7), (6, nt x.v)] (by kernel_rfl) ?_
  refine OI_end rfl ?_
  refine X_begin2 hfen ?_
  intro W2 hk2 ⟨r2, hr2⟩ hD2
  have hsz14 := Keep.size hk2
  replace jbs := Blk.quiet jbs hk2
  replace jbn := Blk.quiet jbn hk2
  replace jb1 := Blk.quiet jb1 hk2
  replace hb7_12 := Blk.quiet hb7_12 hk2
  replace jj := hJ _ _ _ _ jj (Keep.ofNone hkj); replace jj := (hJ _ _).mono (by omega : w.heap.size ≤ w3.heap.size) _ _ jj hk2; replace hkj := Keep.refl none_ W2
  have hzhk2 := Keep.size hk2
  have hfenb : Keep (fen w3.heap.size M1) W2 W2 := Keep.refl _ _
  have hzhfenb := Keep.size hfenb
  have hzhkj := Keep.size hkj
  refine V_block ?_
  refine V_seq ?_
  refine V_draws (acts [12]) none_ [[0, 1, 2, 3, 4, 5, 6, 7, 8, 9, 10, 11, 12, 13, 14]] (by kernel_rfl) (by repeat first | exact (by first | exact sure_postM | exact sure_rQ2 | exact sure_no | exact sure_body (by rintro _ _ ⟨h, _⟩; exact ⟨_, h⟩)) | refine sure_then ?_ | refine sure_block ?_ | refine sure_join ?_) (by kernel_rfl) ?_
  intro w16 hk15 he17 L hL18
  have hsz19 := Keep.size hk15
  replace jbs := jbs.keep hk15 (fun f => f)
  replace jbn := jbn.keep hk15 (fun f => f)
  replace jb1 := jb1.keep hk15 (fun f => f)
  replace hb7_12 := hb7_12.keep hk15 (fun f => f)
  replace hkj := Keep.tr hkj (Keep.ofNone hk15)
  replace hfenb := Keep.tr hfenb (Keep.ofNone hk15)
  have qjbs := jbs
  have qjbn := jbn
  have qjb1 := jb1
  have qhb7_12 := hb7_12
  have K20 : Keep none_ w16 w16 := Keep.refl _ _
  obtain rfl := List.mem_singleton.1 hL18
  refine GI_cell 3 (.tmp 2) 0 (nt 0) (some 11) (by kernel_rfl) (by kernel_rfl) (by kernel_rfl) qjbs (fun f => f) (m := 1) (by kernel_rfl) rfl ?_
  refine GI_static [2, 3, 4, 5, 6, 7, 8, 9, 10, 11, 12, 13, 14] [(2, pt bs), (3, pt bn), (4, pt b1), (5, pt b7), (6, nt x.v), (12, pt b7)] (by kernel_rfl) ?_
  refine GI_cell 3 (.tmp 12) 0 (nt x.a) (some 13) (by kernel_rfl) (by kernel_rfl) (by kernel_rfl) qhb7_12 (fun f => f) (m := 1) (by kernel_rfl) rfl ?_
  refine GI_cell 3 (.tmp 3) 0 (nt n) (some 14) (by kernel_rfl) (by kernel_rfl) (by kernel_rfl) qjbn (fun f => f) (m := 1) (by kernel_rfl) rfl ?_
  refine GI_static [6, 7, 8, 9, 10, 11, 12, 13, 14] [(2, pt bs), (4, pt b1), (5, pt b7), (6, nt x.v), (16, .bool (decide (x.a = n)))] (by kernel_rfl) ?_
  by_cases hg21 : x.a = n
  ·
   refine GI_eq [(2, pt bs), (4, pt b1), (5, pt b7), (6, nt x.v), (16, .bool true)] (by first | simp [hg21] | rfl) ?_
   refine GI_cell 40 (.tmp 4) 0 (.func (.yield l) #[] #[]) (some 17) (by kernel_rfl) (by kernel_rfl) (by kernel_rfl) qjb1 (fun f => f) (m := 1) (by kernel_rfl) rfl ?_
   refine GI_cell 3 (.tmp 2) 0 (nt 0) (some 18) (by kernel_rfl) (by kernel_rfl) (by kernel_rfl) qjbs (fun f => f) (m := 1) (by kernel_rfl) rfl ?_
   refine GI_static [10, 11, 12, 13, 14] [(6, nt x.v), (16, .bool true), (17, .func (.yield l) #[] #[]), (20, .pointer (some ⟨b7, 1, none⟩))] (by kernel_rfl) ?_
   refine GI_cell 3 (.tmp 20) 1 (nt x.b) (some 21) (by kernel_rfl) (by kernel_rfl) (by kernel_rfl) qhb7_12 (fun f => f) (m := 1) (by kernel_rfl) rfl ?_
   refine GI_static [12, 13, 14] [(16, .bool true), (17, .func (.yield l) #[] #[]), (21, nt x.b), (22, nt x.v)] (by kernel_rfl) ?_
   obtain ⟨hat, hlt⟩ := rowL_at hx hg21
   refine GI_yield0 { callee := (Callee.value (Operand.tmp 17)), args := #[(Operand.tmp 21), (Operand.tmp 22)], argTypes := #[3, 3] } l #[nt x.b, nt x.v] (some 23) (by kernel_rfl) (by kernel_rfl) (by kernel_rfl) (by kernel_rfl) (by have hy := hY M1 _ _ (by omega) (by omega) hlt (hJ _ _ _ _ jj (Keep.ofNone hkj)); rw [enc2_at hat] at hy; exact hy) ?_
   rintro _ w22 ⟨hk24, (⟨rfl, hj23⟩ | ⟨rfl, hj23⟩)⟩
   ·
    refine ⟨_, rfl, ?_⟩
    have hsz25 := Keep.size hk24
    replace jb1 := jb1.keep hk24 (by show ¬ (_ ∨ _); omega)
    replace hfenb := Keep.fresh hfenb hk24 (by intro i hi hs; rcases hs with hs | hs; exact .inl (by omega); exact .inr hs)
    have hok26 := hOk _ _ _ hj23
    have hok26s := hok26.side
    have hok26n := hok26.num
    refine GI_static [] [(25, .bool false)] (by kernel_rfl) ?_
    refine GI_end ?_
    refine X_then ?_
    refine V_false rfl ?_
    refine V_skip ?_
    refine X_block ?_
    exact fun a _ => ⟨hfenb, hok26s, hok26n, jb1, by rw [rowL_step hx, if_pos hg21]; simpa using hj23⟩
   ·
    refine ⟨_, rfl, ?_⟩
    have hsz27 := Keep.size hk24
    replace jb1 := jb1.keep hk24 (by show ¬ (_ ∨ _); omega)
    replace hfenb := Keep.fresh hfenb hk24 (by intro i hi hs; rcases hs with hs | hs; exact .inl (by omega); exact .inr hs)
    refine GI_static [] [(25, .bool true)] (by kernel_rfl) ?_
    refine GI_end ?_
    refine X_then ?_
    refine V_true rfl ?_
    refine V_ret ?_
    refine X_ret_block ?_
    exact fun a _ => ⟨hfenb, ⟨rfl, _, hj23, by omega⟩⟩
  ·
   refine GI_eq [(2, pt bs), (4, pt b1), (5, pt b7), (6, nt x.v), (16, .bool false)] (by first | simp [hg21] | rfl) ?_
   refine GI_static [] [(25, .bool false)] (by kernel_rfl) ?_
   refine GI_end ?_
   refine X_then ?_
   refine V_false rfl ?_
   refine V_skip ?_
   refine X_block ?_
   exact fun a _ => ⟨hfenb, jbs, jbn, jb1, hJ _ _ _ _ (by rw [rowL_step hx, if_neg hg21]; exact jj) (Keep.ofNone hkj)⟩
 ·
  intro D M1 W hD hM ⟨jbs, jbn, jb1, jj⟩ hDD
  have hbslt := jbs.lt
  have hbnlt := jbn.lt
  have hb1lt := jb1.lt
  refine X_block ?_
  rw [List.take_length] at jj
  exact leave1 (.tuple #[]) (.inr rfl) hDD (fun w' hk => ⟨res_tmps rfl, ⟨_, rfl⟩, M1, by omega, .inl (((hJ _ _).mono (by omega)) _ _ jj hk)⟩)
 ·
  intro D M1 k c W hD hM hkm h hDD
  obtain ⟨hc, q, xx, hq⟩ := h
  subst hc
  refine V_ret ?_
  refine X_ret_block ?_
  exact leave1 (.tuple #[]) (.inl rfl) hDD (fun w' hk => ⟨res_tmps rfl, ⟨_, rfl⟩, M1, by omega, .inr ⟨q, hq, ((hJx _ _).mono (by omega)) _ _ xx hk⟩⟩)

set_option maxRecDepth 10000 in
theorem alongfn_spec (v : Value) (hv : v.cells = [v].toArray) (s n : Int) (w : World) : Calls Try.prog 71 #[v, .int .i64 s, .int .i64 n] w fun e w' => ∃ bg bs bn, e = .returned (.func (.func 84) #[] #[.pointer (some ⟨bg, 0, none⟩), .pointer (some ⟨bs, 0, none⟩), .pointer (some ⟨bn, 0, none⟩)]) ∧ Blk w' bg [v] 95 ∧ Blk w' bs [.int .i64 s] 3 ∧ Blk w' bn [.int .i64 n] 3 ∧ Keep none_ w w' ∧ w.heap.size ≤ bg ∧ w.heap.size ≤ bs ∧ w.heap.size ≤ bn := by
 have hK0 : Keep none_ w w := Keep.refl _ _
 have hzhK0 := Keep.size hK0
 refine enterV Try.func71 rfl [v, nt s, nt n] 8 rfl rfl rfl ?_
 refine V_pick [(0, v), (1, nt s), (2, nt n)] rfl ?_
 refine V_seq ?_
 refine V_region ?_
 refine OI_box 95 (.tmp 0) v [v] (some 3) (by kernel_rfl) (by kernel_rfl) hv ?_
 intro b1 w1 e1 hb1 k1 z1
 have hsz2 := Keep.size k1
 replace hK0 := Keep.tr hK0 (Keep.ofNone k1)
 have hb1lt := hb1.lt
 refine OI_box 3 (.tmp 1) (nt s) [nt s] (some 4) (by kernel_rfl) (by kernel_rfl) (by kernel_rfl) ?_
 intro b3 w3 e3 hb3 k3 z3
 have hsz4 := Keep.size k3
 replace hb1 := hb1.keep k3 (fun f => f)
 replace hK0 := Keep.tr hK0 (Keep.ofNone k3)
 have hb3lt := hb3.lt
 refine OI_box 3 (.tmp 2) (nt n) [nt n] (some 5) (by kernel_rfl) (by kernel_rfl) (by kernel_rfl) ?_
 intro b5 w5 e5 hb5 k5 z5
 have hsz6 := Keep.size k5
 replace hb1 := hb1.keep k5 (fun f => f)
 replace hb3 := hb3.keep k5 (fun f => f)
 replace hK0 := Keep.tr hK0 (Keep.ofNone k5)
 have hb5lt := hb5.lt
 refine OI_static 4 [(3, pt b1), (4, pt b3), (5, pt b5)] (by kernel_rfl) ?_
 refine OI_end rfl ?_
 refine X_then ?_
 refine V_seq ?_
 refine V_region ?_
 refine OI_static 2 [(6, .func (.func 84) #[] #[pt b1, pt b3, pt b5])] (by kernel_rfl) ?_
 refine OI_end rfl ?_
 refine X_then ?_
 refine V_ret ?_
 exact X_return _ rfl ⟨_, _, _, rfl, hb1, hb3, hb5, hK0, by omega, by omega, by omega⟩

set_option maxRecDepth 10000 in
theorem row_spec (v : Value) (hv : v.cells = [v].toArray) (n : Int) (w : World) : Calls Try.prog 58 #[v, .int .i64 n] w fun e w' => ∃ bg bs bn, e = .returned (.func (.func 84) #[] #[.pointer (some ⟨bg, 0, none⟩), .pointer (some ⟨bs, 0, none⟩), .pointer (some ⟨bn, 0, none⟩)]) ∧ Blk w' bg [v] 95 ∧ Blk w' bs [.int .i64 0] 3 ∧ Blk w' bn [.int .i64 n] 3 ∧ Keep none_ w w' ∧ w.heap.size ≤ bg ∧ w.heap.size ≤ bs ∧ w.heap.size ≤ bn := by
 have hK0 : Keep none_ w w := Keep.refl _ _
 have hzhK0 := Keep.size hK0
 refine enterV Try.func58 rfl [v, nt n] 8 rfl rfl rfl ?_
 refine V_pick [(0, v), (1, nt n)] rfl ?_
 refine V_seq ?_
 refine V_region ?_
 refine OI_static 1 [(0, v), (1, nt n)] (by kernel_rfl) ?_
 refine OI_end rfl ?_
 refine X_then ?_
 refine V_seq ?_
 refine V_region ?_
 refine OI_static 2 [(5, v), (6, nt n)] (by kernel_rfl) ?_
 refine OI_call { callee := (Callee.value (Operand.func 71)), args := #[(Operand.tmp 5), (Operand.const (Value.int IntKind.i64 0)), (Operand.tmp 6)], argTypes := #[95, 3, 3] } 71 #[v, nt 0, nt n] (some 7) (by kernel_rfl) (by kernel_rfl) (by kernel_rfl) (alongfn_spec v hv 0 n _) ?_
 rintro _ w1 ⟨bg, bs, bn, rfl, h1, h2, h3, hk2, h4, h5, h6⟩
 refine ⟨_, rfl, ?_⟩
 have hsz3 := Keep.size hk2
 replace hK0 := Keep.tr hK0 (Keep.ofNone hk2)
 refine OI_static 4 [(4, .func (.func 84) #[] #[pt bg, pt bs, pt bn])] (by kernel_rfl) ?_
 refine OI_end rfl ?_
 refine X_then ?_
 refine V_ret ?_
 exact X_return _ rfl ⟨_, _, _, rfl, h1, h2, h3, hK0, h4, h5, h6⟩
end Go.Al


namespace Go.Al
open Go Go.RowKit Go.Proofs
/-! ### A grid, with its footprint -/
theorem Srt.nil : Srt [] := List.Pairwise.nil
/-- The grid at g holds cs; all of its blocks lie in F. -/
def Grd (F : Nat → Prop) (w : World) (g : Nat) (cs : List Ci) : Prop := Srt cs ∧ cs.length ≤ 100000 ∧ F g ∧ (∀ q, F q → q < w.heap.size) ∧ ∃ A cap, GrAt w g A cap cs ∧ ∀ q, inA A q → F q
theorem Grd.lt {F : Nat → Prop} {w : World} {g : Nat} {cs : List Ci} (h : Grd F w g cs) : ∀ q, F q → q < w.heap.size := h.2.2.2.1
theorem Grd.at_ {F : Nat → Prop} {w : World} {g : Nat} {cs : List Ci} (h : Grd F w g cs) : F g := h.2.2.1
theorem Grd.len {F : Nat → Prop} {w : World} {g : Nat} {cs : List Ci} (h : Grd F w g cs) : cs.length ≤ 100000 := h.2.1
theorem Grd.keep {S F : Nat → Prop} {w w' : World} {g : Nat} {cs : List Ci} (h : Grd F w g cs) (k : Keep S w w') (hS : ∀ q, F q → ¬ S q) : Grd F w' g cs := by
  obtain ⟨h1, h2, h3, h4, A, cap, h5, h6⟩ := h
  exact ⟨h1, h2, h3, fun q hq => Nat.lt_of_lt_of_le (h4 q hq) k.size, A, cap, ⟨h5.blk.keep k (hS _ h3), h5.sl.keep k (fun q hq => hS q (h6 q hq)), h5.off⟩, h6⟩
theorem Grd.quiet {N : Nat} {F : Nat → Prop} {w w' : World} {g : Nat} {cs : List Ci} (h : Grd F w g cs) (k : Keep (lb N w) w w') : Grd F w' g cs := by
  obtain ⟨h1, h2, h3, h4, A, cap, h5, h6⟩ := h
  exact ⟨h1, h2, h3, fun q hq => Nat.lt_of_lt_of_le (h4 q hq) k.size, A, cap, h5.quiet k, h6⟩
theorem Grd.mono {F F' : Nat → Prop} {w : World} {g : Nat} {cs : List Ci} (h : Grd F w g cs) (hF : ∀ q, F q → F' q) (hlt : ∀ q, F' q → q < w.heap.size) : Grd F' w g cs := by
  obtain ⟨h1, h2, h3, h4, A, cap, h5, h6⟩ := h
  exact ⟨h1, h2, hF _ h3, hlt, A, cap, h5, fun q hq => hF q (h6 q hq)⟩
theorem Grd.of {D F : Nat → Prop} {w : World} {g : Nat} {cs : List Ci} (h : Gr D w g cs) (hg : F g) (hD : ∀ q, q < w.heap.size → D q → F q) (hlt : ∀ q, F q → q < w.heap.size) : Grd F w g cs := by
  obtain ⟨h1, h2, A, cap, h5, h6⟩ := h
  exact ⟨h1, h2, hg, hlt, A, cap, h5, fun q hq => hD q (h5.sl.lt q hq) (h6 q hq)⟩
theorem Grd.gr {F : Nat → Prop} {w : World} {g : Nat} {cs : List Ci} (h : Grd F w g cs) : Gr F w g cs := by
  obtain ⟨h1, h2, h3, h4, A, cap, h5, h6⟩ := h
  exact ⟨h1, h2, A, cap, h5, h6⟩
/-- A footprint, and what has been laid since. -/
def more (F : Nat → Prop) (w w' : World) : Nat → Prop := fun q => F q ∨ (w.heap.size ≤ q ∧ q < w'.heap.size)
theorem Gr.mono {D D' : Nat → Prop} {w : World} {g : Nat} {cs : List Ci} (h : Gr D w g cs) (hD : ∀ k, D k → D' k) : Gr D' w g cs := by
  obtain ⟨h1, h2, A, cap, h5, h6⟩ := h
  exact ⟨h1, h2, A, cap, h5, fun q hq => hD q (h6 q hq)⟩

theorem new_grd (w : World) : Calls Try.prog 42 #[] w fun e w' => ∃ g F, e = .returned (.pointer (some ⟨g, 0, none⟩)) ∧ Grd F w' g [] ∧ Keep none_ w w' ∧ (∀ q, F q → w.heap.size ≤ q) := (new_spec (fun q => w.heap.size ≤ q) w).mono (by
  rintro e w' ⟨g, rfl, h1, h2, h3⟩
  have hg : g < w'.heap.size := by obtain ⟨_, _, A, cap, h, _⟩ := h1; exact h.blk.lt
  exact ⟨g, fun q => w.heap.size ≤ q ∧ q < w'.heap.size, rfl, Grd.of h1 ⟨h3, hg⟩ (fun q h1 h2 => ⟨h2, h1⟩) (fun q h => h.2), h2, fun q h => h.1⟩)

theorem set_grd (F : Nat → Prop) (g : Nat) (cs : List Ci) (a b v : Int) (w : World) (h : Grd F w g cs) (hmax : cs.length < 100000) : Calls Try.prog 69 #[.pointer (some ⟨g, 0, none⟩), .int .i64 a, .int .i64 b, .int .i64 v] w fun e w' => e = .returned (.tuple #[]) ∧ (∃ F', Grd F' w' g (setC a b v cs) ∧ (∀ q, F' q → F q ∨ w.heap.size ≤ q)) ∧ Keep F w w' :=
  (set_spec (fun q => F q ∨ w.heap.size ≤ q) g cs a b v w (h.gr.mono (fun _ h => .inl h)) (fun _ h => .inr h) hmax).mono (by
    rintro e w' ⟨rfl, h1, h2⟩
    exact ⟨rfl, ⟨more F w w', Grd.of h1 (.inl h.at_) (fun q hq hD => hD.imp id (fun h => ⟨h, hq⟩)) (fun q hq => by rcases hq with hq | hq; exact Nat.lt_of_lt_of_le (h.lt q hq) h2.size; exact hq.2), fun q hq => hq.imp id (·.1)⟩, h2.mono (fun q _ hq => by rw [show q = g from hq]; exact h.at_)⟩)

theorem del_grd (F : Nat → Prop) (g : Nat) (cs : List Ci) (a b : Int) (w : World) (h : Grd F w g cs) : Calls Try.prog 68 #[.pointer (some ⟨g, 0, none⟩), .int .i64 a, .int .i64 b] w fun e w' => e = .returned (.bool (getC a b cs).isSome) ∧ (∃ F', Grd F' w' g (delC a b cs) ∧ (∀ q, F' q → F q ∨ w.heap.size ≤ q)) ∧ Keep F w w' :=
  (del_spec (fun q => F q ∨ w.heap.size ≤ q) g cs a b w (h.gr.mono (fun _ h => .inl h)) (fun _ h => .inr h)).mono (by
    rintro e w' ⟨rfl, h1, h2⟩
    exact ⟨rfl, ⟨more F w w', Grd.of h1 (.inl h.at_) (fun q hq hD => hD.imp id (fun h => ⟨h, hq⟩)) (fun q hq => by rcases hq with hq | hq; exact Nat.lt_of_lt_of_le (h.lt q hq) h2.size; exact hq.2), fun q hq => hq.imp id (·.1)⟩, h2.mono (fun q _ hq => by rw [show q = g from hq]; exact h.at_)⟩)
end Go.Al


namespace Go.Al
open Go Go.RowKit Go.Proofs
/-! ### Accounts -/
structure Acc where
  free : Int
  held : Int
def Acc.cells (x : Acc) : List Value := [.int .i64 x.free, .int .i64 x.held]
theorem Acc.len (x : Acc) : x.cells.length = 2 := rfl
theorem Acc.one (x : Acc) : ∀ u ∈ x.cells, u.oneCell' = true := one_all' rfl
def tot : List Acc → Int
  | [] => 0
  | x :: l => x.free + x.held + tot l
def Inv (xs : List Acc) : Prop := xs.length = 10 ∧ (∀ x ∈ xs, 0 ≤ x.free ∧ 0 ≤ x.held) ∧ tot xs ≤ 1073741824
theorem tot_mem : ∀ {xs : List Acc}, (∀ x ∈ xs, 0 ≤ x.free ∧ 0 ≤ x.held) → 0 ≤ tot xs ∧ ∀ x ∈ xs, x.free + x.held ≤ tot xs
  | [], _ => ⟨Int.le_refl _, fun x hx => by cases hx⟩
  | y :: l, h => by
    have hy := h y (List.mem_cons_self ..)
    obtain ⟨h1, h2⟩ := tot_mem (fun x hx => h x (List.mem_cons_of_mem _ hx))
    refine ⟨by simp only [tot]; omega, fun x hx => ?_⟩
    simp only [tot]
    rcases List.mem_cons.1 hx with rfl | hx
    · omega
    · have := h2 x hx; omega
theorem Inv.at_ {xs : List Acc} (h : Inv xs) {j : Nat} {x : Acc} (hx : xs[j]? = some x) : 0 ≤ x.free ∧ 0 ≤ x.held ∧ x.free + x.held ≤ 1073741824 ∧ j < 10 := by
  have hm := List.mem_of_getElem? hx
  have h1 := h.2.1 x hm
  have h2 := (tot_mem h.2.1).2 x hm
  have h3 := h.2.2
  have h4 := (List.getElem?_eq_some_iff.1 hx).1
  have h5 := h.1
  refine ⟨h1.1, h1.2, by omega, by omega⟩
theorem tot_set : ∀ {xs : List Acc} {j : Nat} {x : Acc} (y : Acc), xs[j]? = some x → tot (xs.set j y) = tot xs + (y.free + y.held) - (x.free + x.held)
  | [], _, _, _, h => by simp at h
  | z :: l, 0, x, y, h => by
    simp only [List.getElem?_cons_zero, Option.some.injEq] at h
    subst h
    simp only [List.set_cons_zero, tot]; omega
  | z :: l, j + 1, x, y, h => by
    have := tot_set (xs := l) (j := j) y (by simpa using h)
    simp only [List.set_cons_succ, tot]; omega
def isA (a : Int) : Bool := decide (0 ≤ a ∧ a < 10)
def acct (xs : List Acc) (a : Int) : Acc := if 0 ≤ a ∧ a < 10 then (xs[a.toNat]?).getD ⟨0, 0⟩ else ⟨0, 0⟩
theorem acct_in {xs : List Acc} {j : Nat} {x : Acc} (hx : xs[j]? = some x) (hj : j < 10) : acct xs (j : Int) = x := by
  unfold acct
  rw [if_pos (by omega), Int.toNat_natCast, hx]; rfl
theorem acct_out {xs : List Acc} {a : Int} (h : ¬ (0 ≤ a ∧ a < 10)) : acct xs a = ⟨0, 0⟩ := by unfold acct; rw [if_neg h]
theorem isA_in {j : Nat} (h : j < 10) : isA (j : Int) = true := by unfold isA; exact decide_eq_true (by omega)
theorem isA_out {a : Int} (h : ¬ (0 ≤ a ∧ a < 10)) : isA a = false := by unfold isA; exact decide_eq_false h
/-- The ledger at l: accounts xs, locks cs; all of its blocks lie in F. -/
structure LedAt (w : World) (l g : Nat) (A : Option Addr) (cap : Nat) (xs : List Acc) : Prop where
  blk : Blk w l [.slice A xs.length cap, .pointer (some ⟨g, 0, none⟩)] 99
  sl : SlT w 2 Acc.cells A cap xs
def Led (F : Nat → Prop) (w : World) (l : Nat) (xs : List Acc) (cs : List Ci) : Prop := Inv xs ∧ F l ∧ (∀ q, F q → q < w.heap.size) ∧ ∃ g A cap D, LedAt w l g A cap xs ∧ Grd D w g cs ∧ (∀ q, inA A q → F q ∧ q ≠ l) ∧ (∀ q, D q → F q ∧ q ≠ l) ∧ (∀ q, inA A q → ¬ D q)
theorem Led.lt {F : Nat → Prop} {w : World} {l : Nat} {xs : List Acc} {cs : List Ci} (h : Led F w l xs cs) : ∀ q, F q → q < w.heap.size := h.2.2.1
theorem Led.at_ {F : Nat → Prop} {w : World} {l : Nat} {xs : List Acc} {cs : List Ci} (h : Led F w l xs cs) : F l := h.2.1
theorem Led.inv {F : Nat → Prop} {w : World} {l : Nat} {xs : List Acc} {cs : List Ci} (h : Led F w l xs cs) : Inv xs := h.1
theorem Led.len {F : Nat → Prop} {w : World} {l : Nat} {xs : List Acc} {cs : List Ci} (h : Led F w l xs cs) : cs.length ≤ 100000 := by
  obtain ⟨_, _, _, _, _, _, _, _, h, _⟩ := h
  exact h.len
theorem Led.keep {S F : Nat → Prop} {w w' : World} {l : Nat} {xs : List Acc} {cs : List Ci} (h : Led F w l xs cs) (k : Keep S w w') (hS : ∀ q, F q → ¬ S q) : Led F w' l xs cs := by
  obtain ⟨h0, h1, h2, g, A, cap, D, h3, h4, h5, h6, h7⟩ := h
  exact ⟨h0, h1, fun q hq => Nat.lt_of_lt_of_le (h2 q hq) k.size, g, A, cap, D, ⟨h3.blk.keep k (hS _ h1), h3.sl.keep k (fun q hq => hS q (h5 q hq).1)⟩, h4.keep k (fun q hq => hS q (h6 q hq).1), h5, h6, h7⟩
theorem Led.quiet {N : Nat} {F : Nat → Prop} {w w' : World} {l : Nat} {xs : List Acc} {cs : List Ci} (h : Led F w l xs cs) (k : Keep (lb N w) w w') : Led F w' l xs cs := by
  obtain ⟨h0, h1, h2, g, A, cap, D, h3, h4, h5, h6, h7⟩ := h
  exact ⟨h0, h1, fun q hq => Nat.lt_of_lt_of_le (h2 q hq) k.size, g, A, cap, D, ⟨h3.blk.quiet k, h3.sl.quiet k⟩, h4.quiet k, h5, h6, h7⟩

set_option maxRecDepth 10000 in
theorem isAmount_spec (n : Int) (w : World) : Calls Try.prog 43 #[.int .i64 n] w fun e w' => e = .returned (.bool (decide (0 ≤ n ∧ n ≤ 1073741824))) ∧ w' = w := by
 refine enterV Try.func43 rfl [nt n] 9 rfl rfl rfl ?_
 refine V_pick [(0, nt n)] rfl ?_
 refine V_seq ?_
 refine V_region ?_
 refine OI_static 1 [(0, nt n)] (by kernel_rfl) ?_
 refine OI_end rfl ?_
 refine X_then ?_
 refine V_seq ?_
 refine V_region ?_
 refine OI_static 3 [(0, nt n), (5, .bool (decide (n ≥ 0)))] (by kernel_rfl) ?_
 by_cases hg1 : n ≥ 0
 ·
  refine OI_eq [(0, nt n), (5, .bool true)] (by first | simp [hg1] | rfl) ?_
  refine OI_static 7 [(2, .bool (decide (n ≤ 1073741824)))] (by kernel_rfl) ?_
  refine OI_end rfl ?_
  refine X_then ?_
  refine V_ret ?_
  exact X_return (.bool (decide (n ≤ 1073741824))) rfl ⟨by congr 2; simp only [Bool.decide_and]; by_cases h1 : 0 ≤ n <;> simp [h1] <;> omega, rfl⟩
 ·
  refine OI_eq [(0, nt n), (5, .bool false)] (by first | simp [hg1] | rfl) ?_
  refine OI_static 7 [(2, .bool false)] (by kernel_rfl) ?_
  refine OI_end rfl ?_
  refine X_then ?_
  refine V_ret ?_
  exact X_return (.bool false) rfl ⟨by congr 2; simp only [Bool.decide_and]; by_cases h1 : 0 ≤ n <;> simp [h1] <;> omega, rfl⟩

set_option maxRecDepth 10000 in
theorem account_in (F : Nat → Prop) (l : Nat) (xs : List Acc) (cs : List Ci) (j : Nat) (w : World) (h : Led F w l xs cs) (hj : j < 10) : Calls Try.prog 52 #[.pointer (some ⟨l, 0, none⟩), .int .i64 (j : Int)] w fun e w' => e = .returned (.tuple #[.agg (acct xs (j : Int)).cells.toArray, .bool true]) ∧ Keep none_ w w' := by
 obtain ⟨hinv, hFl, hFlt, g, A, cap, D, hat, hG, hAF, hDF, hAD⟩ := h
 have hl := hat.blk
 have hA := hat.sl
 have hllt := hl.lt
 have hAl : ∀ q, inA A q → q ≠ l := fun q hq => (hAF q hq).2
 have hAlt := SlT.lt hA
 have hDl : ∀ q, D q → q ≠ l := fun q hq => (hDF q hq).2
 have hDlt := Grd.lt hG
 have hx10 := hinv.1
 have hK0 : Keep none_ w w := Keep.refl _ _
 have hzhK0 := Keep.size hK0
 refine enterM Try.func52 rfl [pt l, nt ((j : Nat) : Int)] 29 rfl rfl rfl ?_
 refine V_pick [(0, pt l), (1, nt ((j : Nat) : Int))] rfl ?_
 refine V_seq ?_
 refine V_region ?_
 refine OI_alloc 101 (.agg #[nt 0, nt 0]) [nt 0, nt 0] (some 4) (by kernel_rfl) (by kernel_rfl) (by kernel_rfl) ?_
 intro b1 w1 e1 hb1 k1 z1
 have hsz2 := Keep.size k1
 replace hl := hl.keep k1 (fun f => f)
 replace hA := SlT.keep0 hA k1
 replace hG := Grd.keep hG k1 (fun _ _ f => f)
 replace hK0 := Keep.tr hK0 (Keep.ofNone k1)
 have hb1lt := hb1.lt
 refine OI_static 2 [(0, pt l), (1, nt ((j : Nat) : Int)), (4, pt b1)] (by kernel_rfl) ?_
 refine OI_end rfl ?_
 refine X_then ?_
 refine V_seq ?_
 refine V_seq ?_
 refine V_region ?_
 refine OI_static 7 [(0, pt l), (1, nt ((j : Nat) : Int)), (4, pt b1), (12, .bool (decide (((j : Nat) : Int) < 0)))] (by kernel_rfl) ?_
 by_cases hg3 : ((j : Nat) : Int) < 0
 ·
  exact (by omega : False).elim
 ·
  refine OI_eq [(0, pt l), (1, nt ((j : Nat) : Int)), (4, pt b1), (12, .bool false)] (by first | simp [hg3] | rfl) ?_
  refine OI_static 11 [(0, pt l), (1, nt ((j : Nat) : Int)), (4, pt b1), (12, .bool false), (13, nt ((j : Nat) : Int)), (16, pt l)] (by kernel_rfl) ?_
  refine OI_cell 97 (.tmp 16) 0 (.slice A xs.length cap) (some 17) (by kernel_rfl) (by kernel_rfl) hl (m := 1) (by kernel_rfl) rfl ?_
  refine OI_static 15 [(0, pt l), (1, nt ((j : Nat) : Int)), (4, pt b1), (20, .bool (decide (((j : Nat) : Int) ≥ ((xs.length : Nat) : Int))))] (by kernel_rfl) ?_
  refine OI_end rfl ?_
  refine X_then ?_
  refine V_if (((j : Nat) : Int) ≥ ((xs.length : Nat) : Int)) (by kernel_rfl) (fun hc4 => ?_) (fun hc4 => ?_)
  ·
   exact (by omega : False).elim
  ·
   refine V_skip ?_
   refine X_then ?_
   refine V_seq ?_
   refine V_region ?_
   refine OI_static 3 [(1, nt ((j : Nat) : Int)), (4, pt b1), (24, pt l)] (by kernel_rfl) ?_
   refine OI_cell 97 (.tmp 24) 0 (.slice A xs.length cap) (some 25) (by kernel_rfl) (by kernel_rfl) hl (m := 1) (by kernel_rfl) rfl ?_
   refine OI_static 5 [(4, pt b1), (25, .slice A xs.length cap), (26, nt ((j : Nat) : Int))] (by kernel_rfl) ?_
   obtain ⟨b5, o5, L5, T5, rfl, hat5⟩ := SlT.open_ hA (by first | omega | (simp only [List.length_map]; omega) | (simp; done) | (simp; omega))
   have hb5lt := hat5.blk.lt
   have hob6 := hAl b5 ⟨_, rfl, rfl⟩
   have hob7 := hAlt b5 ⟨_, rfl, rfl⟩
   have hne8 : ∀ q, D q → q ≠ b5 := fun q hq hs => (fun q h1 h2 => hAD q h2 h1) q hq ⟨_, rfl, hs⟩
   have own9 := fun q hq => And.intro (hDl q hq) (hne8 q hq)
   refine OI_pure (some 27) (.indexAddr 97 (.tmp 25) (.tmp 26)) (by kernel_rfl) (pure_idxN (b := b5) (o := o5) (len := xs.length) (cap := cap) (kd := .i64) (j := j) (E := 101) (sz := 2) (by_ := 16) (by kernel_rfl) (by kernel_rfl) (by kernel_rfl) (by omega)) ?_
   obtain ⟨x10, hx11⟩ : ∃ x, xs[j]? = some x := ⟨_, List.getElem?_eq_getElem (by first | omega | (simp only [List.length_map]; omega))⟩
   refine OI_agg 101 (.tmp 27) (o5 + j * 2) (Acc.cells x10) (some 28) (by kernel_rfl) (by kernel_rfl) hat5.blk (m := 2) (by kernel_rfl) (At.elem' hat5 (es_at hx11)) (At.len hat5 (es_at hx11)) ?_
   refine OI_set (m := 2) (kd := true) 101 (.tmp 4) (.tmp 28) 0 (.agg (Acc.cells x10).toArray) (Acc.cells x10) none (by kernel_rfl) (by kernel_rfl) (by kernel_rfl) hb1 (by kernel_rfl) rfl (Acc.len _) (Nat.le_of_ble_eq_true (by kernel_rfl)) (Acc.one _) ?_
   intro w12 hb1_15 hk13 hz14
   replace hb1_15 : Blk w12 b1 (Acc.cells x10) 101 := (by rwa [over_whole (by rw [Acc.len]; rfl)] at hb1_15)
   have hsz16 := Keep.size hk13
   replace hl := hl.keep hk13 (by show ¬ (_ = _); omega)
   replace hat5 := hat5.keep hk13 (by show ¬ (_ = _); omega)
   replace hG := Grd.keep hG hk13 (fun q hq hs => by have hs : q = b1 := hs; have g0 := own9 q hq; have g1 := hDlt q hq; omega)
   replace hK0 := Keep.fresh hK0 hk13 (by intro i hi hs; first | exact hs | exact Or.inl hs | exact Or.inr hs | (exfalso; have hs2 : i = b1 := hs; omega))
   refine OI_static 9 [(4, pt b1), (5, .bool true)] (by kernel_rfl) ?_
   refine OI_end rfl ?_
   refine X_then ?_
   refine V_ret ?_
   exact leave0 (.tuple #[.agg (Acc.cells x10).toArray, .bool true]) (.inl rfl) (res_agg_tmp (m := 2) rfl rfl rfl (by kernel_rfl) hb1_15 rfl) ⟨by rw [acct_in hx11 hj], hK0⟩

set_option maxRecDepth 10000 in
theorem account_out (F : Nat → Prop) (l : Nat) (xs : List Acc) (cs : List Ci) (a : Int) (w : World) (h : Led F w l xs cs) (ha : ¬ (0 ≤ a ∧ a < 10)) : Calls Try.prog 52 #[.pointer (some ⟨l, 0, none⟩), .int .i64 a] w fun e w' => e = .returned (.tuple #[.agg (acct xs a).cells.toArray, .bool false]) ∧ Keep none_ w w' := by
 obtain ⟨hinv, hFl, hFlt, g, A, cap, D, hat, hG, hAF, hDF, hAD⟩ := h
 have hl := hat.blk
 have hA := hat.sl
 have hllt := hl.lt
 have hAl : ∀ q, inA A q → q ≠ l := fun q hq => (hAF q hq).2
 have hAlt := SlT.lt hA
 have hDl : ∀ q, D q → q ≠ l := fun q hq => (hDF q hq).2
 have hDlt := Grd.lt hG
 have hx10 := hinv.1
 have hK0 : Keep none_ w w := Keep.refl _ _
 have hzhK0 := Keep.size hK0
 refine enterM Try.func52 rfl [pt l, nt a] 29 rfl rfl rfl ?_
 refine V_pick [(0, pt l), (1, nt a)] rfl ?_
 refine V_seq ?_
 refine V_region ?_
 refine OI_alloc 101 (.agg #[nt 0, nt 0]) [nt 0, nt 0] (some 4) (by kernel_rfl) (by kernel_rfl) (by kernel_rfl) ?_
 intro b1 w1 e1 hb1 k1 z1
 have hsz2 := Keep.size k1
 replace hl := hl.keep k1 (fun f => f)
 replace hA := SlT.keep0 hA k1
 replace hG := Grd.keep hG k1 (fun _ _ f => f)
 replace hK0 := Keep.tr hK0 (Keep.ofNone k1)
 have hb1lt := hb1.lt
 refine OI_static 2 [(0, pt l), (1, nt a), (4, pt b1)] (by kernel_rfl) ?_
 refine OI_end rfl ?_
 refine X_then ?_
 refine V_seq ?_
 refine V_seq ?_
 refine V_region ?_
 refine OI_static 7 [(0, pt l), (1, nt a), (4, pt b1), (12, .bool (decide (a < 0)))] (by kernel_rfl) ?_
 by_cases hg3 : a < 0
 ·
  refine OI_eq [(0, pt l), (1, nt a), (4, pt b1), (12, .bool true)] (by first | simp [hg3] | rfl) ?_
  refine OI_static 15 [(0, pt l), (1, nt a), (4, pt b1), (20, .bool true)] (by kernel_rfl) ?_
  refine OI_end rfl ?_
  refine X_then ?_
  refine V_true rfl ?_
  refine V_seq ?_
  refine V_region ?_
  refine OI_static 1 [(4, pt b1), (21, .agg #[nt 0, nt 0])] (by kernel_rfl) ?_
  refine OI_set (m := 2) (kd := true) 101 (.tmp 4) (.tmp 21) 0 (.agg #[nt 0, nt 0]) [nt 0, nt 0] none (by kernel_rfl) (by kernel_rfl) (by kernel_rfl) hb1 (by kernel_rfl) (by kernel_rfl) (by kernel_rfl) (Nat.le_of_ble_eq_true (by kernel_rfl)) (by simp [Value.oneCell']) ?_
  intro w4 hb1_7 hk5 hz6
  replace hb1_7 : Blk w4 b1 [nt 0, nt 0] 101 := hb1_7
  have hsz8 := Keep.size hk5
  replace hl := hl.keep hk5 (by show ¬ (_ = _); omega)
  replace hA := SlT.keep hA hk5 (fun q hq hs => by have hs : q = b1 := hs; have g0 := hAl q hq; have g1 := hAlt q hq; omega)
  replace hG := Grd.keep hG hk5 (fun q hq hs => by have hs : q = b1 := hs; have g0 := hDl q hq; have g1 := hDlt q hq; omega)
  replace hK0 := Keep.fresh hK0 hk5 (by intro i hi hs; first | exact hs | exact Or.inl hs | exact Or.inr hs | (exfalso; have hs2 : i = b1 := hs; omega))
  refine OI_static 3 [(4, pt b1), (5, .bool false)] (by kernel_rfl) ?_
  refine OI_end rfl ?_
  refine X_then ?_
  refine V_ret ?_
  refine X_ret_then ?_
  exact leave0 (.tuple #[.agg [nt 0, nt 0].toArray, .bool false]) (.inl rfl) (res_agg_tmp (m := 2) rfl rfl rfl (by kernel_rfl) hb1_7 rfl) ⟨by rw [acct_out ha]; rfl, hK0⟩
 ·
  refine OI_eq [(0, pt l), (1, nt a), (4, pt b1), (12, .bool false)] (by first | simp [hg3] | rfl) ?_
  refine OI_static 11 [(0, pt l), (1, nt a), (4, pt b1), (12, .bool false), (13, nt a), (16, pt l)] (by kernel_rfl) ?_
  refine OI_cell 97 (.tmp 16) 0 (.slice A xs.length cap) (some 17) (by kernel_rfl) (by kernel_rfl) hl (m := 1) (by kernel_rfl) rfl ?_
  refine OI_static 15 [(0, pt l), (1, nt a), (4, pt b1), (20, .bool (decide (a ≥ ((xs.length : Nat) : Int))))] (by kernel_rfl) ?_
  refine OI_end rfl ?_
  refine X_then ?_
  refine V_if (a ≥ ((xs.length : Nat) : Int)) (by kernel_rfl) (fun hc9 => ?_) (fun hc9 => ?_)
  ·
   refine V_seq ?_
   refine V_region ?_
   refine OI_static 1 [(4, pt b1), (21, .agg #[nt 0, nt 0])] (by kernel_rfl) ?_
   refine OI_set (m := 2) (kd := true) 101 (.tmp 4) (.tmp 21) 0 (.agg #[nt 0, nt 0]) [nt 0, nt 0] none (by kernel_rfl) (by kernel_rfl) (by kernel_rfl) hb1 (by kernel_rfl) (by kernel_rfl) (by kernel_rfl) (Nat.le_of_ble_eq_true (by kernel_rfl)) (by simp [Value.oneCell']) ?_
   intro w10 hb1_13 hk11 hz12
   replace hb1_13 : Blk w10 b1 [nt 0, nt 0] 101 := hb1_13
   have hsz14 := Keep.size hk11
   replace hl := hl.keep hk11 (by show ¬ (_ = _); omega)
   replace hA := SlT.keep hA hk11 (fun q hq hs => by have hs : q = b1 := hs; have g0 := hAl q hq; have g1 := hAlt q hq; omega)
   replace hG := Grd.keep hG hk11 (fun q hq hs => by have hs : q = b1 := hs; have g0 := hDl q hq; have g1 := hDlt q hq; omega)
   replace hK0 := Keep.fresh hK0 hk11 (by intro i hi hs; first | exact hs | exact Or.inl hs | exact Or.inr hs | (exfalso; have hs2 : i = b1 := hs; omega))
   refine OI_static 3 [(4, pt b1), (5, .bool false)] (by kernel_rfl) ?_
   refine OI_end rfl ?_
   refine X_then ?_
   refine V_ret ?_
   refine X_ret_then ?_
   exact leave0 (.tuple #[.agg [nt 0, nt 0].toArray, .bool false]) (.inl rfl) (res_agg_tmp (m := 2) rfl rfl rfl (by kernel_rfl) hb1_13 rfl) ⟨by rw [acct_out ha]; rfl, hK0⟩
  ·
   exact (by omega : False).elim

theorem account_spec (F : Nat → Prop) (l : Nat) (xs : List Acc) (cs : List Ci) (a : Int) (w : World) (h : Led F w l xs cs) : Calls Try.prog 52 #[.pointer (some ⟨l, 0, none⟩), .int .i64 a] w fun e w' => e = .returned (.tuple #[.agg (acct xs a).cells.toArray, .bool (isA a)]) ∧ Keep none_ w w' := by
  by_cases ha : 0 ≤ a ∧ a < 10
  · obtain ⟨j, rfl⟩ : ∃ j : Nat, a = j := ⟨a.toNat, by omega⟩
    rw [isA_in (by omega)]
    exact account_in F l xs cs j w h (by omega)
  · rw [isA_out ha]
    exact account_out F l xs cs a w h ha
end Go.Al


namespace Go.Al
open Go Go.RowKit Go.Proofs
/-! ### What is told of accounts -/
set_option maxRecDepth 10000 in
theorem free_spec (F : Nat → Prop) (l : Nat) (xs : List Acc) (cs : List Ci) (a : Int) (w : World) (h : Led F w l xs cs) : Calls Try.prog 29 #[.pointer (some ⟨l, 0, none⟩), .int .i64 a] w fun e w' => e = .returned (.int .i64 (acct xs a).free) ∧ Keep none_ w w' := by
 have hFlt := Led.lt h
 have hllt := hFlt _ (Led.at_ h)
 have hinv := Led.inv h
 have hK0 : Keep none_ w w := Keep.refl _ _
 have hzhK0 := Keep.size hK0
 refine enterV Try.func29 rfl [pt l, nt a] 15 rfl rfl rfl ?_
 refine V_pick [(0, pt l), (1, nt a)] rfl ?_
 refine V_seq ?_
 refine V_region ?_
 refine OI_static 1 [(0, pt l), (1, nt a)] (by kernel_rfl) ?_
 refine OI_end rfl ?_
 refine X_then ?_
 refine V_seq ?_
 refine V_region ?_
 refine OI_static 2 [(8, pt l), (9, nt a)] (by kernel_rfl) ?_
 refine OI_call { callee := (Callee.value (Operand.func 52)), args := #[(Operand.tmp 8), (Operand.tmp 9)], argTypes := #[28, 3] } 52 #[pt l, nt a] (some 10) (by kernel_rfl) (by kernel_rfl) (by kernel_rfl) (account_spec F l xs cs a _ h) ?_
 rintro _ w3 ⟨rfl, hk4⟩
 refine ⟨_, rfl, ?_⟩
 have hsz5 := Keep.size hk4
 replace h := Led.keep h hk4 (fun _ _ f => f)
 replace hK0 := Keep.tr hK0 (Keep.ofNone hk4)
 refine OI_static 6 [(11, .agg (Acc.cells (acct xs a)).toArray), (12, .bool (isA a))] (by kernel_rfl) ?_
 refine OI_alloc 101 (.agg #[nt 0, nt 0]) [nt 0, nt 0] (some 5) (by kernel_rfl) (by kernel_rfl) (by kernel_rfl) ?_
 intro b6 w6 e6 hb6 k6 z6
 have hsz7 := Keep.size k6
 replace h := Led.keep h k6 (fun _ _ f => f)
 replace hK0 := Keep.tr hK0 (Keep.ofNone k6)
 have hb6lt := hb6.lt
 refine OI_set (m := 2) (kd := true) 101 (.tmp 5) (.tmp 11) 0 (.agg (Acc.cells (acct xs a)).toArray) (Acc.cells (acct xs a)) none (by kernel_rfl) (by kernel_rfl) (by kernel_rfl) hb6 (by kernel_rfl) rfl (Acc.len _) (Nat.le_of_ble_eq_true (by kernel_rfl)) (Acc.one _) ?_
 intro w8 hb6_11 hk9 hz10
 replace hb6_11 : Blk w8 b6 (Acc.cells (acct xs a)) 101 := (by rwa [over_whole (by rw [Acc.len]; rfl)] at hb6_11)
 have hsz12 := Keep.size hk9
 replace h := Led.keep h hk9 (fun q hq hs => by have hs : q = b6 := hs; have g1 := hFlt q hq; omega)
 replace hK0 := Keep.fresh hK0 hk9 (by intro i hi hs; first | exact hs | exact Or.inl hs | exact Or.inr hs | (exfalso; have hs2 : i = b6 := hs; omega))
 refine OI_static 9 [(5, pt b6)] (by kernel_rfl) ?_
 refine OI_end rfl ?_
 refine X_then ?_
 refine V_seq ?_
 refine V_region ?_
 refine OI_static 1 [(13, pt b6)] (by kernel_rfl) ?_
 refine OI_cell 3 (.tmp 13) 0 (nt ((acct xs a).free)) (some 14) (by kernel_rfl) (by kernel_rfl) hb6_11 (m := 1) (by kernel_rfl) rfl ?_
 refine OI_static 3 [(4, nt ((acct xs a).free))] (by kernel_rfl) ?_
 refine OI_end rfl ?_
 refine X_then ?_
 refine V_ret ?_
 exact X_return (nt ((acct xs a).free)) rfl ⟨rfl, hK0⟩

theorem tot_step2 {xs : List Acc} {i : Nat} {x : Acc} (h : ∀ x ∈ xs, 0 ≤ x.free ∧ 0 ≤ x.held) (ht : tot xs ≤ 1125899906842624) (hx : xs[i]? = some x) : tot (xs.take (i + 1)) = tot (xs.take i) + (x.free + x.held) ∧ 0 ≤ tot (xs.take i) ∧ tot (xs.take i) + (x.free + x.held) ≤ 1125899906842624 ∧ 0 ≤ x.free ∧ 0 ≤ x.held := by
  obtain ⟨h1, rfl⟩ := List.getElem?_eq_some_iff.1 hx
  have happ : ∀ (a b : List Acc), tot (a ++ b) = tot a + tot b := by
    intro a b
    induction a with
    | nil => simp [tot]
    | cons y l ih => simp only [List.cons_append, tot, ih]; omega
  have e1 : tot (xs.take (i + 1)) = tot (xs.take i) + (xs[i].free + xs[i].held) := by
    rw [List.take_succ_eq_append_getElem h1, happ]; simp only [tot]; omega
  have e2 : tot xs = tot (xs.take (i + 1)) + tot (xs.drop (i + 1)) := by rw [← happ, List.take_append_drop]
  have h2 := (tot_mem (xs := xs.take i) (fun y hy => h y (List.mem_of_mem_take hy))).1
  have h3 := (tot_mem (xs := xs.drop (i + 1)) (fun y hy => h y (List.mem_of_mem_drop hy))).1
  have h4 := h xs[i] (List.getElem_mem h1)
  exact ⟨e1, h2, by omega, h4.1, h4.2⟩

set_option maxRecDepth 10000 in
theorem issued_at (l cap : Nat) (A : Option Addr) (gv : Value) (xs : List Acc) (w : World) (hl : Blk w l [.slice A xs.length cap, gv] 99) (hA : SlT w 2 Acc.cells A cap xs) (hnn : ∀ x ∈ xs, 0 ≤ x.free ∧ 0 ≤ x.held) (htt : tot xs ≤ 1125899906842624) (hx10 : xs.length ≤ 1000) : Calls Try.prog 44 #[.pointer (some ⟨l, 0, none⟩)] w fun e w' => e = .returned (.int .i64 (tot xs)) ∧ Keep none_ w w' := by
 have hllt := hl.lt
 have hAlt := SlT.lt hA
 have hK0 : Keep none_ w w := Keep.refl _ _
 have hzhK0 := Keep.size hK0
 refine enterV Try.func44 rfl [pt l] 26 rfl rfl rfl ?_
 refine V_pick [(0, pt l)] rfl ?_
 refine V_seq ?_
 refine V_region ?_
 refine OI_static 1 [(0, pt l)] (by kernel_rfl) ?_
 refine OI_end rfl ?_
 refine X_then ?_
 refine V_seq ?_
 refine V_region ?_
 refine OI_static 1 [(0, pt l), (3, nt 0)] (by kernel_rfl) ?_
 refine OI_end rfl ?_
 refine X_then ?_
 refine V_seq ?_
 refine V_seq ?_
 refine V_region ?_
 refine OI_static 2 [(0, pt l), (3, nt 0), (7, .bool true)] (by kernel_rfl) ?_
 refine OI_end rfl ?_
 refine X_then ?_
 refine V_true rfl ?_
 refine V_seq ?_
 refine V_region ?_
 refine OI_static 3 [(3, nt 0), (10, pt l)] (by kernel_rfl) ?_
 refine OI_cell 97 (.tmp 10) 0 (.slice A xs.length cap) (some 11) (by kernel_rfl) (by kernel_rfl) hl (m := 1) (by kernel_rfl) rfl ?_
 refine OI_static 6 [(3, nt 0), (11, .slice A xs.length cap), (12, nt ((xs.length : Nat) : Int)), (13, nt 0)] (by kernel_rfl) ?_
 refine OI_end rfl ?_
 refine X_then ?_
 refine V_block ?_
 refine V_pick [(3, nt 0), (11, .slice A xs.length cap), (12, nt ((xs.length : Nat) : Int)), (13, nt 0)] rfl ?_
 refine V_loop (fun k wI e => ∃ i : Nat, ∃ s : Int, (k + i = xs.length) ∧ (s = tot (xs.take i)) ∧ Keep none_ w wI ∧ e = [(3, nt s), (11, .slice A xs.length cap), (12, nt ((xs.length : Nat) : Int)), (13, nt ((i : Nat) : Int))]) xs.length ⟨0, 0, rfl, rfl, Keep.refl _ _, rfl⟩ ?_
 rintro k2 w1 _ ⟨i, s, hki, hs, hk3, rfl⟩
 have hsz4 := Keep.size hk3
 replace hl := hl.keep hk3 (fun f => f)
 replace hA := SlT.keep0 hA hk3
 replace hK0 := Keep.tr hK0 (Keep.ofNone hk3)
 have hzhk3 := Keep.size hk3
 refine V_seq ?_
 refine V_region ?_
 refine OI_static 1 [(3, nt s), (11, .slice A xs.length cap), (12, nt ((xs.length : Nat) : Int)), (13, nt ((i : Nat) : Int)), (14, .bool (decide (((i : Nat) : Int) < ((xs.length : Nat) : Int))))] (by kernel_rfl) ?_
 refine OI_end rfl ?_
 refine X_then ?_
 refine V_seq ?_
 refine V_if (((i : Nat) : Int) < ((xs.length : Nat) : Int)) (by kernel_rfl) (fun hc5 => ?_) (fun hc5 => ?_)
 ·
  refine V_skip ?_
  refine X_then ?_
  refine V_seq ?_
  refine V_block ?_
  refine V_seq ?_
  refine V_region ?_
  obtain ⟨b6, o6, L6, T6, rfl, hat6⟩ := SlT.open_ hA (by first | omega | (simp only [List.length_map]; omega) | (simp; done) | (simp; omega))
  have hb6lt := hat6.blk.lt
  have hob7 := hAlt b6 ⟨_, rfl, rfl⟩
  refine OI_pure (some 15) (.indexAddr 97 (.tmp 11) (.tmp 13)) (by kernel_rfl) (pure_idxN (b := b6) (o := o6) (len := xs.length) (cap := cap) (kd := .i64) (j := i) (E := 101) (sz := 2) (by_ := 16) (by kernel_rfl) (by kernel_rfl) (by kernel_rfl) (by omega)) ?_
  obtain ⟨x8, hx9⟩ : ∃ x, xs[i]? = some x := ⟨_, List.getElem?_eq_getElem (by first | omega | (simp only [List.length_map]; omega))⟩
  obtain ⟨hst1, hst2, hst3, hbx1, hbx2⟩ := tot_step2 hnn htt hx9
  refine OI_agg 101 (.tmp 15) (o6 + i * 2) (Acc.cells x8) (some 16) (by kernel_rfl) (by kernel_rfl) hat6.blk (m := 2) (by kernel_rfl) (At.elem' hat6 (es_at hx9)) (At.len hat6 (es_at hx9)) ?_
  refine OI_alloc 101 (.agg #[nt 0, nt 0]) [nt 0, nt 0] (some 5) (by kernel_rfl) (by kernel_rfl) (by kernel_rfl) ?_
  intro b10 w10 e10 hb10 k10 z10
  have hsz11 := Keep.size k10
  replace hl := hl.keep k10 (fun f => f)
  replace hat6 := hat6.keep k10 (fun f => f)
  replace hK0 := Keep.tr hK0 (Keep.ofNone k10)
  replace hk3 := Keep.tr hk3 (Keep.ofNone k10)
  have hb10lt := hb10.lt
  refine OI_set (m := 2) (kd := true) 101 (.tmp 5) (.tmp 16) 0 (.agg (Acc.cells x8).toArray) (Acc.cells x8) none (by kernel_rfl) (by kernel_rfl) (by kernel_rfl) hb10 (by kernel_rfl) rfl (Acc.len _) (Nat.le_of_ble_eq_true (by kernel_rfl)) (Acc.one _) ?_
  intro w12 hb10_15 hk13 hz14
  replace hb10_15 : Blk w12 b10 (Acc.cells x8) 101 := (by rwa [over_whole (by rw [Acc.len]; rfl)] at hb10_15)
  have hsz16 := Keep.size hk13
  replace hl := hl.keep hk13 (by show ¬ (_ = _); omega)
  replace hat6 := hat6.keep hk13 (by show ¬ (_ = _); omega)
  replace hK0 := Keep.fresh hK0 hk13 (by intro i hi hs; first | exact hs | exact Or.inl hs | exact Or.inr hs | (exfalso; have hs2 : i = b10 := hs; omega))
  replace hk3 := Keep.fresh hk3 hk13 (by intro i hi hs; first | exact hs | exact Or.inl hs | exact Or.inr hs | (exfalso; have hs2 : i = b10 := hs; omega))
  refine OI_end rfl ?_
  refine X_then ?_
  refine V_region ?_
  refine OI_static 2 [(5, pt b10), (11, .slice (some ⟨b6, o6, none⟩) xs.length cap), (12, nt ((xs.length : Nat) : Int)), (13, nt ((i : Nat) : Int)), (17, nt s), (18, pt b10)] (by kernel_rfl) ?_
  refine OI_cell 3 (.tmp 18) 0 (nt x8.free) (some 19) (by kernel_rfl) (by kernel_rfl) hb10_15 (m := 1) (by kernel_rfl) rfl ?_
  refine OI_static 4 [(11, .slice (some ⟨b6, o6, none⟩) xs.length cap), (12, nt ((xs.length : Nat) : Int)), (13, nt ((i : Nat) : Int)), (17, nt s), (19, nt x8.free), (20, .pointer (some ⟨b10, 1, none⟩))] (by kernel_rfl) ?_
  refine OI_cell 3 (.tmp 20) 1 (nt x8.held) (some 21) (by kernel_rfl) (by kernel_rfl) hb10_15 (m := 1) (by kernel_rfl) rfl ?_
  have hw17 : IntKind.i64.wrap (x8.free + x8.held) = x8.free + x8.held := (wrap64_id (by omega) (by omega)).trans (by omega)
  refine OI_static 6 [(11, .slice (some ⟨b6, o6, none⟩) xs.length cap), (12, nt ((xs.length : Nat) : Int)), (13, nt ((i : Nat) : Int)), (17, nt s), (22, nt (IntKind.i64.wrap (x8.free + x8.held)))] (by kernel_rfl) ?_
  refine OI_eq [(11, .slice (some ⟨b6, o6, none⟩) xs.length cap), (12, nt ((xs.length : Nat) : Int)), (13, nt ((i : Nat) : Int)), (17, nt s), (22, nt (x8.free + x8.held))] (by rw [hw17]) ?_
  have hw18 : IntKind.i64.wrap (s + (x8.free + x8.held)) = s + (x8.free + x8.held) := (wrap64_id (by omega) (by omega)).trans (by omega)
  refine OI_static 7 [(11, .slice (some ⟨b6, o6, none⟩) xs.length cap), (12, nt ((xs.length : Nat) : Int)), (13, nt ((i : Nat) : Int)), (23, nt (IntKind.i64.wrap (s + (x8.free + x8.held))))] (by kernel_rfl) ?_
  refine OI_eq [(11, .slice (some ⟨b6, o6, none⟩) xs.length cap), (12, nt ((xs.length : Nat) : Int)), (13, nt ((i : Nat) : Int)), (23, nt (s + (x8.free + x8.held)))] (by rw [hw18]) ?_
  refine OI_static 8 [(3, nt (s + (x8.free + x8.held))), (11, .slice (some ⟨b6, o6, none⟩) xs.length cap), (12, nt ((xs.length : Nat) : Int)), (13, nt ((i : Nat) : Int))] (by kernel_rfl) ?_
  refine OI_end rfl ?_
  refine X_block ?_
  refine X_then ?_
  refine V_region ?_
  have hw19 : IntKind.i64.wrap (((i : Nat) : Int) + 1) = ((i + 1 : Nat) : Int) := (wrap64_id (by omega) (by omega)).trans (by omega)
  refine OI_static 1 [(3, nt (s + (x8.free + x8.held))), (11, .slice (some ⟨b6, o6, none⟩) xs.length cap), (12, nt ((xs.length : Nat) : Int)), (24, nt (IntKind.i64.wrap (((i : Nat) : Int) + 1)))] (by kernel_rfl) ?_
  refine OI_eq [(3, nt (s + (x8.free + x8.held))), (11, .slice (some ⟨b6, o6, none⟩) xs.length cap), (12, nt ((xs.length : Nat) : Int)), (24, nt ((i + 1 : Nat) : Int))] (by rw [hw19]) ?_
  refine OI_static 2 [(3, nt (s + (x8.free + x8.held))), (11, .slice (some ⟨b6, o6, none⟩) xs.length cap), (12, nt ((xs.length : Nat) : Int)), (13, nt ((i + 1 : Nat) : Int))] (by kernel_rfl) ?_
  refine OI_end rfl ?_
  exact V_again (k2 - 1) (by omega) [(3, nt (s + (x8.free + x8.held))), (11, .slice (some ⟨b6, o6, none⟩) xs.length cap), (12, nt ((xs.length : Nat) : Int)), (13, nt ((i + 1 : Nat) : Int))] rfl ⟨i + 1, s + (x8.free + x8.held), by omega, by rw [hst1, hs], hk3, rfl⟩
 ·
  refine V_exit ?_
  refine X_exit_then ?_
  refine X_exit_then ?_
  refine X_exit_here ?_
  refine X_then ?_
  refine V_seq ?_
  refine V_region ?_
  refine OI_static 2 [(2, nt s)] (by kernel_rfl) ?_
  refine OI_end rfl ?_
  refine X_then ?_
  refine V_ret ?_
  have he : i = xs.length := by omega
  rw [he, List.take_length] at hs
  exact X_return _ rfl ⟨by rw [hs], hK0⟩

end Go.Al


namespace Go.Al
open Go Go.RowKit Go.Proofs
set_option maxRecDepth 10000 in
theorem locks_spec (l g : Nat) (sv : Value) (a : Int) (w : World) (hl : Blk w l [sv, .pointer (some ⟨g, 0, none⟩)] 99) : Calls Try.prog 39 #[.pointer (some ⟨l, 0, none⟩), .int .i64 a] w fun e w' => ∃ bg bs bn, e = .returned (.func (.func 84) #[] #[.pointer (some ⟨bg, 0, none⟩), .pointer (some ⟨bs, 0, none⟩), .pointer (some ⟨bn, 0, none⟩)]) ∧ Blk w' bg [.pointer (some ⟨g, 0, none⟩)] 95 ∧ Blk w' bs [.int .i64 0] 3 ∧ Blk w' bn [.int .i64 a] 3 ∧ Keep none_ w w' ∧ w.heap.size ≤ bg ∧ w.heap.size ≤ bs ∧ w.heap.size ≤ bn := by
 have hllt := hl.lt
 have hK0 : Keep none_ w w := Keep.refl _ _
 have hzhK0 := Keep.size hK0
 refine enterV Try.func39 rfl [pt l, nt a] 15 rfl rfl rfl ?_
 refine V_pick [(0, pt l), (1, nt a)] rfl ?_
 refine V_seq ?_
 refine V_region ?_
 refine OI_static 1 [(0, pt l), (1, nt a)] (by kernel_rfl) ?_
 refine OI_end rfl ?_
 refine X_then ?_
 refine V_seq ?_
 refine V_seq ?_
 refine V_region ?_
 refine OI_static 2 [(0, pt l), (1, nt a), (6, .bool false)] (by kernel_rfl) ?_
 refine OI_end rfl ?_
 refine X_then ?_
 refine V_false rfl ?_
 refine V_skip ?_
 refine X_then ?_
 refine V_seq ?_
 refine V_region ?_
 refine OI_static 3 [(1, nt a), (11, .pointer (some ⟨l, 1, none⟩))] (by kernel_rfl) ?_
 refine OI_cell 95 (.tmp 11) 1 (pt g) (some 12) (by kernel_rfl) (by kernel_rfl) hl (m := 1) (by kernel_rfl) rfl ?_
 refine OI_static 5 [(12, pt g), (13, nt a)] (by kernel_rfl) ?_
 refine OI_call { callee := (Callee.value (Operand.func 58)), args := #[(Operand.tmp 12), (Operand.tmp 13)], argTypes := #[95, 3] } 58 #[pt g, nt a] (some 14) (by kernel_rfl) (by kernel_rfl) (by kernel_rfl) (row_spec _ rfl a _) ?_
 rintro _ w1 ⟨bg3, bs4, bn5, rfl, hbg3, hbs4, hbn5, hk2, hgebg3, hgebs4, hgebn5⟩
 refine ⟨_, rfl, ?_⟩
 have hsz6 := Keep.size hk2
 replace hl := hl.keep hk2 (fun f => f)
 replace hK0 := Keep.tr hK0 (Keep.ofNone hk2)
 have hbg3lt := hbg3.lt
 have hbs4lt := hbs4.lt
 have hbn5lt := hbn5.lt
 refine OI_static 7 [(4, .func (.func 84) #[] #[pt bg3, pt bs4, pt bn5])] (by kernel_rfl) ?_
 refine OI_end rfl ?_
 refine X_then ?_
 refine V_ret ?_
 exact X_return _ rfl ⟨bg3, bs4, bn5, rfl, hbg3, hbs4, hbn5, hK0, by omega, by omega, by omega⟩

end Go.Al


namespace Go.Al
open Go Go.RowKit Go.Proofs
/-! ### What changes a ledger -/
theorem Inv.set {xs : List Acc} (h : Inv xs) {j : Nat} {x : Acc} (hx : xs[j]? = some x) (y : Acc) (h1 : 0 ≤ y.free) (h2 : 0 ≤ y.held) (h3 : tot xs + (y.free + y.held) - (x.free + x.held) ≤ 1073741824) : Inv (xs.set j y) := by
  refine ⟨by rw [List.length_set]; exact h.1, fun z hz => ?_, by rw [tot_set y hx]; exact h3⟩
  rcases List.mem_or_eq_of_mem_set hz with hz | rfl
  · exact h.2.1 z hz
  · exact ⟨h1, h2⟩
def imin (a b : Int) : Int := if b < a then b else a
def lockC (cs : List Ci) (a i n : Int) : List Ci := if isA a = true then (if n ≤ 0 ∨ n > 1073741824 then delC a i cs else setC a i n cs) else cs
end Go.Al


namespace Go.Al
open Go Go.RowKit Go.Proofs
end Go.Al


namespace Go.Al
open Go Go.RowKit Go.Proofs

end Go.Al


namespace Go.Al
open Go Go.RowKit Go.Proofs
set_option maxRecDepth 10000 in
theorem lock_spec (F : Nat → Prop) (l : Nat) (xs : List Acc) (cs : List Ci) (a i n : Int) (w : World) (h : Led F w l xs cs) (hmax : cs.length < 100000) : Calls Try.prog 55 #[.pointer (some ⟨l, 0, none⟩), .int .i64 a, .int .i64 i, .int .i64 n] w fun e w' => e = .returned (.tuple #[]) ∧ (∃ F', Led F' w' l xs (lockC cs a i n) ∧ (∀ q, F' q → F q ∨ w.heap.size ≤ q)) ∧ Keep F w w' := by
 have hFlt := Led.lt h
 have hllt := hFlt _ (Led.at_ h)
 have hinv := Led.inv h
 have hK0 : Keep F w w := Keep.refl _ _
 have hzhK0 := Keep.size hK0
 refine enterV Try.func55 rfl [pt l, nt a, nt i, nt n] 41 rfl rfl rfl ?_
 refine V_pick [(0, pt l), (1, nt a), (2, nt i), (3, nt n)] rfl ?_
 refine V_seq ?_
 refine V_region ?_
 refine OI_static 2 [(0, pt l), (1, nt a), (2, nt i), (3, nt n), (11, pt l), (12, nt a)] (by kernel_rfl) ?_
 refine OI_call { callee := (Callee.value (Operand.func 52)), args := #[(Operand.tmp 11), (Operand.tmp 12)], argTypes := #[28, 3] } 52 #[pt l, nt a] (some 13) (by kernel_rfl) (by kernel_rfl) (by kernel_rfl) (account_spec F l xs cs a _ h) ?_
 rintro _ w9 ⟨rfl, hk10⟩
 refine ⟨_, rfl, ?_⟩
 have hsz11 := Keep.size hk10
 replace h := Led.keep h hk10 (fun _ _ f => f)
 replace hK0 := Keep.tr hK0 (Keep.ofNone hk10)
 refine OI_static 6 [(0, pt l), (1, nt a), (2, nt i), (3, nt n), (14, .agg (Acc.cells (acct xs a)).toArray), (15, .bool (isA a))] (by kernel_rfl) ?_
 refine OI_alloc 101 (.agg #[nt 0, nt 0]) [nt 0, nt 0] (some 8) (by kernel_rfl) (by kernel_rfl) (by kernel_rfl) ?_
 intro b12 w12 e12 hb12 k12 z12
 have hsz13 := Keep.size k12
 replace h := Led.keep h k12 (fun _ _ f => f)
 replace hK0 := Keep.tr hK0 (Keep.ofNone k12)
 have hb12lt := hb12.lt
 refine OI_set (m := 2) (kd := true) 101 (.tmp 8) (.tmp 14) 0 (.agg (Acc.cells (acct xs a)).toArray) (Acc.cells (acct xs a)) none (by kernel_rfl) (by kernel_rfl) (by kernel_rfl) hb12 (by kernel_rfl) rfl (Acc.len _) (Nat.le_of_ble_eq_true (by kernel_rfl)) (Acc.one _) ?_
 intro w14 hb12_17 hk15 hz16
 replace hb12_17 : Blk w14 b12 (Acc.cells (acct xs a)) 101 := (by rwa [over_whole (by rw [Acc.len]; rfl)] at hb12_17)
 have hsz18 := Keep.size hk15
 replace h := Led.keep h hk15 (fun q hq hs => by have hs : q = b12 := hs; have g1 := hFlt q hq; omega)
 replace hK0 := Keep.fresh hK0 hk15 (by intro i hi hs; have hs2 : i = b12 := hs; exfalso; omega)
 refine OI_static 9 [(0, pt l), (1, nt a), (2, nt i), (3, nt n), (9, .bool (isA a))] (by kernel_rfl) ?_
 refine OI_end rfl ?_
 refine X_then ?_
 refine V_block ?_
 refine V_seq ?_
 refine V_region ?_
 refine OI_static 3 [(0, pt l), (1, nt a), (2, nt i), (3, nt n), (24, .bool (!(isA a)))] (by kernel_rfl) ?_
 refine OI_end rfl ?_
 refine X_then ?_
 refine V_ifb (!(isA a)) (by kernel_rfl) (fun hc19 => ?_) (fun hc19 => ?_)
 ·
  refine V_skip ?_
  refine X_block ?_
  exact X_end _ rfl ⟨rfl, ⟨F, by rw [show lockC cs a i n = cs from by unfold lockC; rw [if_neg]; simp_all]; exact h, fun q h => .inl h⟩, hK0⟩
 ·
  obtain ⟨hinvu20, hFlu20, hFltu20, gu20, Au20, capu20, Du20, hatu20, hGu20, hAFu20, hDFu20, hADu20⟩ := h
  have hlu20 := hatu20.blk
  have hAu20 := hatu20.sl
  have hlku20 := hlu20.lt
  have hAlu20 := fun q hq => And.intro (hAFu20 q hq).2 (hFlt q (hAFu20 q hq).1)
  have hAltu20 := SlT.lt hAu20
  have hDlu20 := fun q hq => And.intro (hDFu20 q hq).2 (hFlt q (hDFu20 q hq).1)
  have hDltu20 := Grd.lt hGu20
  have hx10u20 := hinvu20.1
  have htotu20 := hinvu20.2.2
  have hgu20lt := hDltu20 _ (Grd.at_ hGu20)
  have hDRu20 : ∀ q, Du20 q → F q ∨ w.heap.size ≤ q := fun q hq => .inl (hDFu20 q hq).1
  refine V_seq ?_
  refine V_region ?_
  refine OI_static 3 [(0, pt l), (1, nt a), (2, nt i), (3, nt n), (30, .bool (decide (n ≤ 0)))] (by kernel_rfl) ?_
  by_cases hg21 : n ≤ 0
  ·
   refine OI_eq [(0, pt l), (1, nt a), (2, nt i), (3, nt n), (30, .bool true)] (by first | simp [hg21] | rfl) ?_
   refine OI_static 7 [(0, pt l), (1, nt a), (2, nt i), (3, nt n), (27, .bool true)] (by kernel_rfl) ?_
   refine OI_end rfl ?_
   refine X_then ?_
   refine V_true rfl ?_
   refine V_region ?_
   refine OI_static 3 [(1, nt a), (2, nt i), (36, .pointer (some ⟨l, 1, none⟩))] (by kernel_rfl) ?_
   refine OI_cell 95 (.tmp 36) 1 (pt gu20) (some 37) (by kernel_rfl) (by kernel_rfl) hlu20 (m := 1) (by kernel_rfl) rfl ?_
   refine OI_static 6 [(37, pt gu20), (38, nt a), (39, nt i)] (by kernel_rfl) ?_
   refine OI_call { callee := (Callee.value (Operand.func 68)), args := #[(Operand.tmp 37), (Operand.tmp 38), (Operand.tmp 39)], argTypes := #[95, 3, 3] } 68 #[pt gu20, nt a, nt i] (some 40) (by kernel_rfl) (by kernel_rfl) (by kernel_rfl) (del_grd Du20 gu20 cs a i _ hGu20) ?_
   rintro _ w24 ⟨rfl, ⟨F26, ho27, hfr28⟩, hk25⟩
   refine ⟨_, rfl, ?_⟩
   have hsz29 := Keep.size hk25
   replace hb12_17 := hb12_17.keep hk25 (fun hs => by have h1 := hDlu20 _ hs; have h2 := hDltu20 _ hs; omega)
   replace hlu20 := hlu20.keep hk25 (fun hs => by have h1 := hDlu20 _ hs; have h2 := hDltu20 _ hs; omega)
   replace hAu20 := SlT.keep hAu20 hk25 (fun q hq hs => (fun q h1 h2 => hADu20 q h2 h1) q hs hq)
   replace hK0 := Keep.fresh hK0 hk25 (fun i hi hs => by rcases hDRu20 i hs with h | h; exact h; (exfalso; omega))
   have own31 : ∀ q, F26 q → q ≠ l ∧ q ≠ b12 ∧ q ≠ l := fun q hq => by rcases hfr28 q hq with h | h; (have h1 := hDlu20 q h; have h2 := hDltu20 q h; omega); omega
   have lt30 := Grd.lt ho27
   have rel32 : ∀ q, F26 q → F q ∨ w.heap.size ≤ q := fun q hq => by rcases hfr28 q hq with h | h; exact hDRu20 q h; exact .inr (by omega)
   have dis33 : ∀ q, F26 q → ¬ inA Au20 q := fun q h1 h2 => by rcases hfr28 q h1 with h | h; exact (fun q h1 h2 => hADu20 q h2 h1) q h h2; (have h4 := hAltu20 q h2; omega)
   refine OI_end rfl ?_
   refine X_block ?_
   have hsa : isA a = true := (by simpa using hc19)
   have hE : lockC cs a i n = delC a i cs := by unfold lockC; rw [if_pos hsa]; first | rw [if_pos (by omega)] | rw [if_neg (by omega)]
   rw [hE]
   exact X_end _ rfl ⟨rfl, ⟨more F w w24, ⟨hinvu20, .inl hFlu20, (fun q hq => by rcases hq with hq | hq; (have h9 := hFltu20 q hq; omega); exact hq.2), gu20, _, _, _, ⟨hlu20, hAu20⟩, ho27, fun q hq => ⟨.inl (hAFu20 q hq).1, (hAFu20 q hq).2⟩, fun q hq => ⟨by rcases hfr28 q hq with h9 | h9; exact .inl (hDFu20 q h9).1; exact .inr ⟨by omega, lt30 q hq⟩, by have h8 := own31 q hq; omega⟩, fun q h1 h2 => dis33 q h2 h1⟩, fun q hq => hq.imp id (·.1)⟩, hK0⟩
  ·
   refine OI_eq [(0, pt l), (1, nt a), (2, nt i), (3, nt n), (30, .bool false)] (by first | simp [hg21] | rfl) ?_
   refine OI_static 7 [(0, pt l), (1, nt a), (2, nt i), (3, nt n), (27, .bool (decide (n > 1073741824)))] (by kernel_rfl) ?_
   refine OI_end rfl ?_
   refine X_then ?_
   refine V_if (n > 1073741824) (by kernel_rfl) (fun hc34 => ?_) (fun hc34 => ?_)
   ·
    refine V_region ?_
    refine OI_static 3 [(1, nt a), (2, nt i), (36, .pointer (some ⟨l, 1, none⟩))] (by kernel_rfl) ?_
    refine OI_cell 95 (.tmp 36) 1 (pt gu20) (some 37) (by kernel_rfl) (by kernel_rfl) hlu20 (m := 1) (by kernel_rfl) rfl ?_
    refine OI_static 6 [(37, pt gu20), (38, nt a), (39, nt i)] (by kernel_rfl) ?_
    refine OI_call { callee := (Callee.value (Operand.func 68)), args := #[(Operand.tmp 37), (Operand.tmp 38), (Operand.tmp 39)], argTypes := #[95, 3, 3] } 68 #[pt gu20, nt a, nt i] (some 40) (by kernel_rfl) (by kernel_rfl) (by kernel_rfl) (del_grd Du20 gu20 cs a i _ hGu20) ?_
    rintro _ w37 ⟨rfl, ⟨F39, ho40, hfr41⟩, hk38⟩
    refine ⟨_, rfl, ?_⟩
    have hsz42 := Keep.size hk38
    replace hb12_17 := hb12_17.keep hk38 (fun hs => by have h1 := hDlu20 _ hs; have h2 := hDltu20 _ hs; omega)
    replace hlu20 := hlu20.keep hk38 (fun hs => by have h1 := hDlu20 _ hs; have h2 := hDltu20 _ hs; omega)
    replace hAu20 := SlT.keep hAu20 hk38 (fun q hq hs => (fun q h1 h2 => hADu20 q h2 h1) q hs hq)
    replace hK0 := Keep.fresh hK0 hk38 (fun i hi hs => by rcases hDRu20 i hs with h | h; exact h; (exfalso; omega))
    have own44 : ∀ q, F39 q → q ≠ l ∧ q ≠ b12 ∧ q ≠ l := fun q hq => by rcases hfr41 q hq with h | h; (have h1 := hDlu20 q h; have h2 := hDltu20 q h; omega); omega
    have lt43 := Grd.lt ho40
    have rel45 : ∀ q, F39 q → F q ∨ w.heap.size ≤ q := fun q hq => by rcases hfr41 q hq with h | h; exact hDRu20 q h; exact .inr (by omega)
    have dis46 : ∀ q, F39 q → ¬ inA Au20 q := fun q h1 h2 => by rcases hfr41 q h1 with h | h; exact (fun q h1 h2 => hADu20 q h2 h1) q h h2; (have h4 := hAltu20 q h2; omega)
    refine OI_end rfl ?_
    refine X_block ?_
    have hsa : isA a = true := (by simpa using hc19)
    have hE : lockC cs a i n = delC a i cs := by unfold lockC; rw [if_pos hsa]; first | rw [if_pos (by omega)] | rw [if_neg (by omega)]
    rw [hE]
    exact X_end _ rfl ⟨rfl, ⟨more F w w37, ⟨hinvu20, .inl hFlu20, (fun q hq => by rcases hq with hq | hq; (have h9 := hFltu20 q hq; omega); exact hq.2), gu20, _, _, _, ⟨hlu20, hAu20⟩, ho40, fun q hq => ⟨.inl (hAFu20 q hq).1, (hAFu20 q hq).2⟩, fun q hq => ⟨by rcases hfr41 q hq with h9 | h9; exact .inl (hDFu20 q h9).1; exact .inr ⟨by omega, lt43 q hq⟩, by have h8 := own44 q hq; omega⟩, fun q h1 h2 => dis46 q h2 h1⟩, fun q hq => hq.imp id (·.1)⟩, hK0⟩
   ·
    refine V_region ?_
    refine OI_static 3 [(1, nt a), (2, nt i), (3, nt n), (18, .pointer (some ⟨l, 1, none⟩))] (by kernel_rfl) ?_
    refine OI_cell 95 (.tmp 18) 1 (pt gu20) (some 19) (by kernel_rfl) (by kernel_rfl) hlu20 (m := 1) (by kernel_rfl) rfl ?_
    refine OI_static 7 [(19, pt gu20), (20, nt a), (21, nt i), (22, nt n)] (by kernel_rfl) ?_
    refine OI_call { callee := (Callee.value (Operand.func 69)), args := #[(Operand.tmp 19), (Operand.tmp 20), (Operand.tmp 21), (Operand.tmp 22)], argTypes := #[95, 3, 3, 3] } 69 #[pt gu20, nt a, nt i, nt n] (some 23) (by kernel_rfl) (by kernel_rfl) (by kernel_rfl) (set_grd Du20 gu20 cs a i n _ hGu20 hmax) ?_
    rintro _ w49 ⟨rfl, ⟨F51, ho52, hfr53⟩, hk50⟩
    refine ⟨_, rfl, ?_⟩
    have hsz54 := Keep.size hk50
    replace hb12_17 := hb12_17.keep hk50 (fun hs => by have h1 := hDlu20 _ hs; have h2 := hDltu20 _ hs; omega)
    replace hlu20 := hlu20.keep hk50 (fun hs => by have h1 := hDlu20 _ hs; have h2 := hDltu20 _ hs; omega)
    replace hAu20 := SlT.keep hAu20 hk50 (fun q hq hs => (fun q h1 h2 => hADu20 q h2 h1) q hs hq)
    replace hK0 := Keep.fresh hK0 hk50 (fun i hi hs => by rcases hDRu20 i hs with h | h; exact h; (exfalso; omega))
    have own56 : ∀ q, F51 q → q ≠ l ∧ q ≠ b12 ∧ q ≠ l := fun q hq => by rcases hfr53 q hq with h | h; (have h1 := hDlu20 q h; have h2 := hDltu20 q h; omega); omega
    have lt55 := Grd.lt ho52
    have rel57 : ∀ q, F51 q → F q ∨ w.heap.size ≤ q := fun q hq => by rcases hfr53 q hq with h | h; exact hDRu20 q h; exact .inr (by omega)
    have dis58 : ∀ q, F51 q → ¬ inA Au20 q := fun q h1 h2 => by rcases hfr53 q h1 with h | h; exact (fun q h1 h2 => hADu20 q h2 h1) q h h2; (have h4 := hAltu20 q h2; omega)
    refine OI_end rfl ?_
    refine X_block ?_
    have hsa : isA a = true := (by simpa using hc19)
    have hE : lockC cs a i n = setC a i n cs := by unfold lockC; rw [if_pos hsa]; first | rw [if_pos (by omega)] | rw [if_neg (by omega)]
    rw [hE]
    exact X_end _ rfl ⟨rfl, ⟨more F w w49, ⟨hinvu20, .inl hFlu20, (fun q hq => by rcases hq with hq | hq; (have h9 := hFltu20 q hq; omega); exact hq.2), gu20, _, _, _, ⟨hlu20, hAu20⟩, ho52, fun q hq => ⟨.inl (hAFu20 q hq).1, (hAFu20 q hq).2⟩, fun q hq => ⟨by rcases hfr53 q hq with h9 | h9; exact .inl (hDFu20 q h9).1; exact .inr ⟨by omega, lt55 q hq⟩, by have h8 := own56 q hq; omega⟩, fun q h1 h2 => dis58 q h2 h1⟩, fun q hq => hq.imp id (·.1)⟩, hK0⟩

end Go.Al


namespace Go.Al
open Go Go.RowKit Go.Proofs
/-! ### A new ledger -/
def newX (fs : List Int) (n : Nat) : List Acc := (List.range n).map fun k : Nat => Acc.mk ((fs[k]?).getD 0) 0
theorem newX_len (fs : List Int) (n : Nat) : (newX fs n).length = n := by simp [newX]
theorem newX_succ (fs : List Int) (n : Nat) : newX fs (n + 1) = newX fs n ++ [Acc.mk ((fs[n]?).getD 0) 0] := by simp [newX, List.range_succ]
def okF (fs : List Int) (i : Nat) : Prop := ∀ (k : Nat) (x : Int), k < i → fs[k]? = some x → 0 ≤ x ∧ x ≤ 1073741824
def okP (fs : List Int) : Prop := fs.length ≤ 10 ∧ (∀ x ∈ fs, 0 ≤ x ∧ x ≤ 1073741824) ∧ tot (newX fs 10) ≤ 1073741824
theorem okF_all {fs : List Int} (hl : fs.length ≤ 10) (h : okF fs 10) : ∀ x ∈ fs, 0 ≤ x ∧ x ≤ 1073741824 := by
  intro x hx
  obtain ⟨k, hk, rfl⟩ := List.getElem_of_mem hx
  exact h k _ (by omega) (List.getElem?_eq_getElem hk)
theorem newX_nn {fs : List Int} {i : Nat} (h : okF fs i) : ∀ x ∈ newX fs i, 0 ≤ x.free ∧ 0 ≤ x.held := by
  intro x hx
  simp only [newX, List.mem_map, List.mem_range] at hx
  obtain ⟨k, hk, rfl⟩ := hx
  refine ⟨?_, Int.le_refl _⟩
  show 0 ≤ (fs[k]?).getD 0
  cases hf : fs[k]? with
  | none => exact Int.le_refl _
  | some x => exact (h k x hk hf).1
theorem newX_tot {fs : List Int} : ∀ {i : Nat}, okF fs i → tot (newX fs i) ≤ i * 1073741824
  | 0, _ => by simp [newX, tot]
  | i + 1, h => by
    have ih := newX_tot (i := i) (fun k x hk hx => h k x (by omega) hx)
    have happ : ∀ (a b : List Acc), tot (a ++ b) = tot a + tot b := by
      intro a b
      induction a with
      | nil => simp [tot]
      | cons y l ih => simp only [List.cons_append, tot, ih]; omega
    rw [newX_succ, happ]
    simp only [tot]
    have : (fs[i]?).getD 0 ≤ 1073741824 := by
      cases hf : fs[i]? with
      | none => simp
      | some x => exact (h i x (by omega) hf).2
    omega

set_option maxRecDepth 10000 in
theorem new_spec6 (A : Option Addr) (cap : Nat) (fs : List Int) (w : World) (hA : ArgT w 1 intc A cap fs) (hn : fs.length ≤ 100000) : Calls Try.prog 17 #[.slice A fs.length cap] w fun e w' => (okP fs ∧ ∃ l F, e = .returned (.tuple #[.pointer (some ⟨l, 0, none⟩), .int .i64 0]) ∧ Led F w' l (newX fs 10) [] ∧ Keep none_ w w' ∧ (∀ q, F q → w.heap.size ≤ q)) ∨ (¬ okP fs ∧ e = .returned (.tuple #[.pointer none, .int .i64 1]) ∧ Keep none_ w w') := by
 have hA0 := hA
 have hK0 : Keep none_ w w := Keep.refl _ _
 have hzhK0 := Keep.size hK0
 refine enterV Try.func17 rfl [.slice A fs.length cap] 45 rfl rfl rfl ?_
 refine V_pick [(0, .slice A fs.length cap)] rfl ?_
 refine V_seq ?_
 refine V_region ?_
 refine OI_static 2 [(0, .slice A fs.length cap)] (by kernel_rfl) ?_
 refine OI_end rfl ?_
 refine X_then ?_
 refine V_seq ?_
 refine V_seq ?_
 refine V_region ?_
 refine OI_static 3 [(0, .slice A fs.length cap), (9, .bool (decide (((fs.length : Nat) : Int) > 10)))] (by kernel_rfl) ?_
 refine OI_end rfl ?_
 refine X_then ?_
 refine V_if (((fs.length : Nat) : Int) > 10) (by kernel_rfl) (fun hc1 => ?_) (fun hc1 => ?_)
 ·
  refine V_seq ?_
  refine V_region ?_
  refine OI_static 2 [(2, .pointer none), (3, nt 1)] (by kernel_rfl) ?_
  refine OI_end rfl ?_
  refine X_then ?_
  refine V_ret ?_
  refine X_ret_then ?_
  exact X_return _ rfl (.inr ⟨fun hh => by have := hh.1; omega, rfl, hK0⟩)
 ·
  refine V_skip ?_
  refine X_then ?_
  refine V_seq ?_
  refine V_region ?_
  refine OI_call { callee := (Callee.value (Operand.func 42)), args := #[], argTypes := #[] } 42 #[] (some 10) (by kernel_rfl) (by kernel_rfl) (by kernel_rfl) (new_grd _) ?_
  rintro _ w4 ⟨g6, F7, rfl, ho8, hk5, hge9⟩
  refine ⟨_, rfl, ?_⟩
  have hsz10 := Keep.size hk5
  replace hA := ArgT.keep0 hA hk5
  replace hK0 := Keep.tr hK0 (Keep.ofNone hk5)
  have own11 : ∀ q, F7 q → w.heap.size ≤ q := fun q hq => by have h1 := hge9 q hq; omega
  have lt12 := Grd.lt ho8
  have hg6lt : g6 < w4.heap.size := Grd.lt ho8 _ (Grd.at_ ho8)
  have hg6ge := hge9 _ (Grd.at_ ho8)
  refine OI_static 2 [(0, .slice A fs.length cap), (11, .agg #[.slice none 0 0, pt g6])] (by kernel_rfl) ?_
  refine OI_box 99 (.tmp 11) (.agg #[.slice none 0 0, pt g6]) [.slice none 0 0, pt g6] (some 12) (by kernel_rfl) (by kernel_rfl) (by kernel_rfl) ?_
  intro b13 w13 e13 hb13 k13 z13
  have hsz14 := Keep.size k13
  replace hA := ArgT.keep0 hA k13
  replace hK0 := Keep.tr hK0 (Keep.ofNone k13)
  replace ho8 := Grd.keep ho8 k13 (fun _ _ f => f)
  have hb13lt := hb13.lt
  refine OI_static 4 [(0, .slice A fs.length cap), (4, pt b13)] (by kernel_rfl) ?_
  refine OI_end rfl ?_
  refine X_then ?_
  refine V_seq ?_
  refine V_seq ?_
  refine V_region ?_
  refine OI_static 1 [(0, .slice A fs.length cap), (4, pt b13), (13, nt 0)] (by kernel_rfl) ?_
  refine OI_end rfl ?_
  refine X_then ?_
  refine V_block ?_
  refine V_pick [(0, .slice A fs.length cap), (4, pt b13), (13, nt 0)] rfl ?_
  refine V_loop (fun k wI e => ∃ i : Nat, ∃ A2 : Option Addr, ∃ cap2 : Nat, (k + i = 10) ∧ (Blk wI b13 [.slice A2 (newX fs i).length cap2, pt g6] 99) ∧ (SlT wI 2 Acc.cells A2 cap2 (newX fs i)) ∧ (∀ q, inA A2 q → w13.heap.size ≤ q) ∧ (okF fs i) ∧ Keep (only b13) w13 wI ∧ e = [(0, .slice A fs.length cap), (4, pt b13), (13, nt ((i : Nat) : Int))]) 10 ⟨0, none, 0, by omega, hb13, SlT.nil _ _ _, fun q h => (inA_none h).elim, fun k x h => by omega, Keep.refl _ _, rfl⟩ ?_
  rintro k16 w15 _ ⟨i, A2, cap2, hki, hl2, hA2, ow2, hokf, hk17, rfl⟩
  have hsz18 := Keep.size hk17
  replace hA := ArgT.keep hA hk17 hA0 (fun k hk hs => by have hs : k = b13 := hs; omega)
  replace hK0 := Keep.fresh hK0 hk17 (by intro i hi hs; first | exact hs | exact Or.inl hs | exact Or.inr hs | (exfalso; have hs2 : i = b13 := hs; omega))
  replace ho8 := Grd.keep ho8 hk17 (fun q hq hs => by have hs : q = b13 := hs; have g0 := own11 q hq; have g1 := lt12 q hq; omega)
  have hzhk17 := Keep.size hk17
  have lt2 := SlT.lt hA2
  have hb13lt := hl2.lt
  have hnl := newX_len fs i
  refine V_seq ?_
  refine V_region ?_
  refine OI_static 1 [(0, .slice A fs.length cap), (4, pt b13), (13, nt ((i : Nat) : Int)), (14, .bool (decide (((i : Nat) : Int) < 10)))] (by kernel_rfl) ?_
  refine OI_end rfl ?_
  refine X_then ?_
  refine V_seq ?_
  refine V_if (((i : Nat) : Int) < 10) (by kernel_rfl) (fun hc19 => ?_) (fun hc19 => ?_)
  ·
   refine V_skip ?_
   refine X_then ?_
   refine V_seq ?_
   refine V_block ?_
   refine V_seq ?_
   refine V_region ?_
   refine OI_static 2 [(0, .slice A fs.length cap), (4, pt b13), (5, nt ((i : Nat) : Int)), (13, nt ((i : Nat) : Int))] (by kernel_rfl) ?_
   refine OI_end rfl ?_
   refine X_then ?_
   refine V_seq ?_
   refine V_region ?_
   refine OI_static 1 [(0, .slice A fs.length cap), (4, pt b13), (5, nt ((i : Nat) : Int)), (13, nt ((i : Nat) : Int)), (16, .agg #[nt 0, nt 0])] (by kernel_rfl) ?_
   refine OI_alloc 101 (.agg #[nt 0, nt 0]) [nt 0, nt 0] (some 6) (by kernel_rfl) (by kernel_rfl) (by kernel_rfl) ?_
   intro b20 w20 e20 hb20 k20 z20
   have hsz21 := Keep.size k20
   replace hl2 := hl2.keep k20 (fun f => f)
   replace hA := ArgT.keep0 hA k20
   replace hA2 := SlT.keep0 hA2 k20
   replace hK0 := Keep.tr hK0 (Keep.ofNone k20)
   replace ho8 := Grd.keep ho8 k20 (fun _ _ f => f)
   replace hk17 := Keep.tr hk17 (Keep.ofNone k20)
   have hb20lt := hb20.lt
   refine OI_set (m := 2) (kd := true) 101 (.tmp 6) (.tmp 16) 0 (.agg #[nt 0, nt 0]) [nt 0, nt 0] none (by kernel_rfl) (by kernel_rfl) (by kernel_rfl) hb20 (by kernel_rfl) (by kernel_rfl) (by kernel_rfl) (Nat.le_of_ble_eq_true (by kernel_rfl)) (by simp [Value.oneCell']) ?_
   intro w22 hb20_25 hk23 hz24
   replace hb20_25 : Blk w22 b20 [nt 0, nt 0] 101 := hb20_25
   have hsz26 := Keep.size hk23
   replace hl2 := hl2.keep hk23 (by show ¬ (_ = _); omega)
   replace hA := ArgT.keep hA hk23 hA0 (fun k hk hs => by have hs : k = b20 := hs; omega)
   replace hA2 := SlT.keep hA2 hk23 (fun q hq hs => by have hs : q = b20 := hs; have g0 := ow2 q hq; have g1 := lt2 q hq; omega)
   replace hK0 := Keep.fresh hK0 hk23 (by intro i hi hs; first | exact hs | exact Or.inl hs | exact Or.inr hs | (exfalso; have hs2 : i = b20 := hs; omega))
   replace ho8 := Grd.keep ho8 hk23 (fun q hq hs => by have hs : q = b20 := hs; have g0 := own11 q hq; have g1 := lt12 q hq; omega)
   replace hk17 := Keep.fresh hk17 hk23 (by intro i hi hs; first | exact hs | exact Or.inl hs | exact Or.inr hs | (exfalso; have hs2 : i = b20 := hs; omega))
   refine OI_end rfl ?_
   refine X_then ?_
   refine V_seq ?_
   refine V_seq ?_
   refine V_region ?_
   refine OI_static 4 [(0, .slice A fs.length cap), (4, pt b13), (5, nt ((i : Nat) : Int)), (6, pt b20), (13, nt ((i : Nat) : Int)), (20, .bool (decide (((i : Nat) : Int) < ((fs.length : Nat) : Int))))] (by kernel_rfl) ?_
   refine OI_end rfl ?_
   refine X_then ?_
   refine V_if (((i : Nat) : Int) < ((fs.length : Nat) : Int)) (by kernel_rfl) (fun hc27 => ?_) (fun hc27 => ?_)
   ·
    refine V_region ?_
    refine OI_static 2 [(0, .slice A fs.length cap), (4, pt b13), (6, pt b20), (13, nt ((i : Nat) : Int)), (21, .slice A fs.length cap), (22, nt ((i : Nat) : Int))] (by kernel_rfl) ?_
    obtain ⟨b28, o28, L28, rfl, hat28⟩ := ArgT.open_ hA (by first | omega | (simp only [List.length_map]; omega) | (simp; done) | (simp; omega))
    have hb28lt0 := ArgT.lt hA0 (by first | omega | (simp only [List.length_map]; omega) | (simp; done) | (simp; omega))
    have hb28lt := hat28.blk.lt
    refine OI_pure (some 23) (.indexAddr 24 (.tmp 21) (.tmp 22)) (by kernel_rfl) (pure_idxN (b := b28) (o := o28) (len := fs.length) (cap := cap) (kd := .i64) (j := i) (E := 3) (sz := 1) (by_ := 8) (by kernel_rfl) (by kernel_rfl) (by kernel_rfl) (by omega)) ?_
    obtain ⟨x29, hx30⟩ : ∃ x, fs[i]? = some x := ⟨_, List.getElem?_eq_getElem (by first | omega | (simp only [List.length_map]; omega))⟩
    refine OI_cellR 3 (.tmp 23) (o28 + i * 1) (nt x29) (some 24) (by kernel_rfl) (by kernel_rfl) hat28.blk (m := 1) (by kernel_rfl) (AtR.cell0 hat28 (es_at hx30) rfl) ?_
    refine OI_static 5 [(0, .slice (some ⟨b28, o28, none⟩) fs.length cap), (4, pt b13), (6, pt b20), (13, nt ((i : Nat) : Int)), (24, nt x29), (25, pt b20)] (by kernel_rfl) ?_
    refine OI_set (m := 1) (kd := false) 3 (.tmp 25) (.tmp 24) 0 (nt x29) [nt x29] none (by kernel_rfl) (by kernel_rfl) (by kernel_rfl) hb20_25 (by kernel_rfl) (by kernel_rfl) (by kernel_rfl) (Nat.le_of_ble_eq_true (by kernel_rfl)) (by simp [Value.oneCell']) ?_
    intro w31 hb20_34 hk32 hz33
    replace hb20_34 : Blk w31 b20 [nt x29, nt 0] 101 := hb20_34
    have hsz35 := Keep.size hk32
    replace hl2 := hl2.keep hk32 (by show ¬ (_ = _); omega)
    replace hat28 := hat28.keep hk32 (by show ¬ (_ = _); omega)
    replace hA2 := SlT.keep hA2 hk32 (fun q hq hs => by have hs : q = b20 := hs; have g0 := ow2 q hq; have g1 := lt2 q hq; omega)
    replace hK0 := Keep.fresh hK0 hk32 (by intro i hi hs; first | exact hs | exact Or.inl hs | exact Or.inr hs | (exfalso; have hs2 : i = b20 := hs; omega))
    replace ho8 := Grd.keep ho8 hk32 (fun q hq hs => by have hs : q = b20 := hs; have g0 := own11 q hq; have g1 := lt12 q hq; omega)
    replace hk17 := Keep.fresh hk17 hk32 (by intro i hi hs; first | exact hs | exact Or.inl hs | exact Or.inr hs | (exfalso; have hs2 : i = b20 := hs; omega))
    refine OI_end rfl ?_
    refine X_then ?_
    refine V_seq ?_
    refine V_seq ?_
    refine V_region ?_
    refine OI_static 1 [(0, .slice (some ⟨b28, o28, none⟩) fs.length cap), (4, pt b13), (6, pt b20), (13, nt ((i : Nat) : Int)), (26, pt b20)] (by kernel_rfl) ?_
    refine OI_cell 3 (.tmp 26) 0 (nt x29) (some 27) (by kernel_rfl) (by kernel_rfl) hb20_34 (m := 1) (by kernel_rfl) rfl ?_
    refine OI_call { callee := (Callee.value (Operand.func 43)), args := #[(Operand.tmp 27)], argTypes := #[3] } 43 #[nt x29] (some 28) (by kernel_rfl) (by kernel_rfl) (by kernel_rfl) (isAmount_spec x29 _) ?_
    rintro _ w31 ⟨rfl, rfl⟩
    refine ⟨_, rfl, ?_⟩
    refine OI_static 4 [(0, .slice (some ⟨b28, o28, none⟩) fs.length cap), (4, pt b13), (6, pt b20), (13, nt ((i : Nat) : Int)), (29, .bool (!(decide (0 ≤ x29 ∧ x29 ≤ 1073741824))))] (by kernel_rfl) ?_
    refine OI_end rfl ?_
    refine X_then ?_
    refine V_not (0 ≤ x29 ∧ x29 ≤ 1073741824) (by kernel_rfl) (fun hc41 => ?_) (fun hc41 => ?_)
    ·
     refine V_seq ?_
     refine V_region ?_
     refine OI_static 2 [(2, .pointer none), (3, nt 1)] (by kernel_rfl) ?_
     refine OI_end rfl ?_
     refine X_then ?_
     refine V_ret ?_
     refine X_ret_then ?_
     refine X_ret_block ?_
     refine X_ret_then ?_
     refine X_ret_then ?_
     refine X_ret_block ?_
     refine X_ret_then ?_
     exact X_return _ rfl (.inr ⟨fun hh => hc41 (hh.2.1 _ (List.mem_of_getElem? hx30)), rfl, hK0⟩)
    ·
     refine V_skip ?_
     refine X_then ?_
     refine V_draws (acts [6, 7, 10]) (fun q => q ≠ b13 ∧ q ≠ b20) [[5, 6, 1, 2, 3, 4, 7, 0, 8, 9, 10]] (by kernel_rfl) (by repeat first | exact sure_body (by rintro _ _ (⟨_, _, _, h, _⟩ | ⟨_, h, _⟩) <;> exact ⟨_, h⟩) | refine sure_then ?_ | refine sure_block ?_ | refine sure_join ?_) (by kernel_rfl) ?_
     intro w43 hk42 he44 L hL45
     have hsz46 := Keep.size hk42
     replace hl2 := hl2.keep hk42 (fun f => f)
     replace hb20_34 := hb20_34.keep hk42 (fun f => f)
     replace hat28 := hat28.keep hk42 (fun f => f)
     replace hA2 := SlT.keep0 hA2 hk42
     replace hK0 := Keep.tr hK0 (Keep.ofNone hk42)
     replace ho8 := Grd.keep ho8 hk42 (fun _ _ f => f)
     replace hk17 := Keep.tr hk17 (Keep.ofNone hk42)
     have qhl2 := hl2
     have qhb20_34 := hb20_34
     have qhat28 := hat28
     have K47 : Keep (fun q => q ≠ b13 ∧ q ≠ b20) w43 w43 := Keep.refl _ _
     obtain rfl := List.mem_singleton.1 hL45
     refine GI_agg 101 (.tmp 6) 0 [nt x29, nt 0] (some 35) (by kernel_rfl) (by kernel_rfl) (by kernel_rfl) qhb20_34 (by show ¬ (b20 ≠ b13 ∧ b20 ≠ b20); omega) (m := 2) (by kernel_rfl) rfl rfl ?_
     refine GI_slit (E := 101) (zv := .agg #[nt 0, nt 0]) (sz := 2) (by_ := 16) 97 1 #[(0, (Operand.tmp 35))] [.agg #[nt x29, nt 0]] [nt x29, nt 0] (some 36) (by kernel_rfl) (by kernel_rfl) K47 (by kernel_rfl) (by kernel_rfl) (by omega) rfl (by omega) (by intro v hv; simp only [List.mem_cons, List.not_mem_nil, or_false] at hv; rcases hv with rfl <;> rfl) (by kernel_rfl) rfl ?_
     intro b48 w48 e48 hb48 k48 z48 K49
     have hsz50 := Keep.size k48
     replace hl2 := hl2.keep k48 (fun f => f)
     replace hb20_34 := hb20_34.keep k48 (fun f => f)
     replace hat28 := hat28.keep k48 (fun f => f)
     replace hA2 := SlT.keep0 hA2 k48
     replace hK0 := Keep.tr hK0 (Keep.ofNone k48)
     replace ho8 := Grd.keep ho8 k48 (fun _ _ f => f)
     replace hk17 := Keep.tr hk17 (Keep.ofNone k48)
     have hb48lt := hb48.lt
     refine GI_static [4, 7, 0, 8, 9, 10] [(0, .slice (some ⟨b28, o28, none⟩) fs.length cap), (4, pt b13), (13, nt ((i : Nat) : Int)), (33, pt b13), (36, .slice (some ⟨b48, 0, none⟩) 1 1)] (by kernel_rfl) ?_
     refine GI_cell 97 (.tmp 33) 0 (.slice A2 ((newX fs i).length) cap2) (some 34) (by kernel_rfl) (by kernel_rfl) (by kernel_rfl) qhl2 (by show ¬ (b13 ≠ b13 ∧ b13 ≠ b20); omega) (m := 1) (by kernel_rfl) rfl ?_
     refine GI_append (t := 97) (at2 := 97) (E := 101) (E2 := 101) (sz := 2) (by_ := 16) (zv := .agg #[nt 0, nt 0]) (m := (newX fs i).length) (k := 1) (.tmp 34) (.tmp 36) (.slice A2 ((newX fs i).length) cap2) (.slice (some ⟨b48, 0, none⟩) 1 1) (some 37) (by kernel_rfl) (by kernel_rfl) (by kernel_rfl) (by kernel_rfl) (by kernel_rfl) (by kernel_rfl) (by kernel_rfl) (by kernel_rfl) (SlT.slr hA2) (slr_one hb48 (Acc.len (Acc.mk x29 0))) (Acc.one (Acc.mk x29 0)) (by first | omega | (simp only [List.length_nil]; omega)) (by omega) (by first | omega | (simp only [List.length_nil]; omega)) (by omega) ?_
     intro vv9 w51 hap
     obtain ⟨A51, cap51, rfl, hA51, hk51, own51x⟩ := app_one (f := Acc.cells) (xs := (newX fs i)) (x := (Acc.mk x29 0)) (A := A2) (cap := cap2) hap (fun x _ => Acc.len x) (Acc.len _)
     have own51 : ∀ q, inA A51 q → w13.heap.size ≤ q := fun q hq => by rcases own51x q hq with h | h; exact ow2 q h; (show w13.heap.size ≤ q; omega)
     refine ⟨Keep.fresh K49 hk51 (by intro i hi hs; have h1 := ow2 i hs; have h2 := lt2 i hs; show i ≠ b13 ∧ i ≠ b20; omega), ?_⟩
     have K52 := Keep.fresh K49 hk51 (by intro i hi hs; have h1 := ow2 i hs; have h2 := lt2 i hs; show i ≠ b13 ∧ i ≠ b20; omega)
     have hsz53 := Keep.size hk51
     replace hl2 := hl2.keep hk51 (fun hs => by have h1 := ow2 _ hs; have h2 := lt2 _ hs; omega)
     replace hb20_34 := hb20_34.keep hk51 (fun hs => by have h1 := ow2 _ hs; have h2 := lt2 _ hs; omega)
     replace hat28 := hat28.keep hk51 (fun hs => by have h1 := ow2 _ hs; have h2 := lt2 _ hs; omega)
     replace hK0 := Keep.fresh hK0 hk51 (by intro i hi hs; first | exact hs | (exfalso; have h1 := ow2 i hs; have h2 := lt2 i hs; omega) | (have h1 := ow2 i hs; have h2 := lt2 i hs; show _ ∨ _; omega))
     replace ho8 := Grd.keep ho8 hk51 (fun q hq hs => by have g0 := own11 q hq; have g1 := lt12 q hq; have h1 := ow2 q hs; have h2 := lt2 q hs; omega)
     replace hk17 := Keep.fresh hk17 hk51 (by intro i hi hs; first | exact hs | (exfalso; have h1 := ow2 i hs; have h2 := lt2 i hs; omega) | (have h1 := ow2 i hs; have h2 := lt2 i hs; show _ ∨ _; omega))
     have lt51 := SlT.lt hA51
     refine GI_static [10] [(0, .slice (some ⟨b28, o28, none⟩) fs.length cap), (4, pt b13), (13, nt ((i : Nat) : Int)), (37, .slice A51 (((newX fs i) ++ [Acc.mk x29 0]).length) cap51), (39, pt b13)] (by kernel_rfl) ?_
     refine GI_final 10 (by kernel_rfl) (by kernel_rfl) ?_
     refine OI_set (m := 1) (kd := false) 97 (.tmp 39) (.tmp 37) 0 (.slice A51 (((newX fs i) ++ [Acc.mk x29 0]).length) cap51) [.slice A51 (((newX fs i) ++ [Acc.mk x29 0]).length) cap51] none (by kernel_rfl) (by kernel_rfl) (by kernel_rfl) hl2 (by kernel_rfl) (by kernel_rfl) (by kernel_rfl) (Nat.le_of_ble_eq_true (by kernel_rfl)) (by simp [Value.oneCell']) ?_
     intro w54 hb13_57 hk55 hz56
     replace hb13_57 : Blk w54 b13 [.slice A51 (((newX fs i) ++ [Acc.mk x29 0]).length) cap51, pt g6] 99 := hb13_57
     have hsz58 := Keep.size hk55
     replace hb20_34 := hb20_34.keep hk55 (by show ¬ (_ = _); omega)
     replace hat28 := hat28.keep hk55 (by show ¬ (_ = _); omega)
     replace hA51 := SlT.keep hA51 hk55 (fun q hq hs => by have hs : q = b13 := hs; have g0 := own51 q hq; have g1 := lt51 q hq; omega)
     replace hK0 := Keep.fresh hK0 hk55 (by intro i hi hs; first | exact hs | exact Or.inl hs | exact Or.inr hs | (exfalso; have hs2 : i = b13 := hs; omega))
     replace ho8 := Grd.keep ho8 hk55 (fun q hq hs => by have hs : q = b13 := hs; have g0 := own11 q hq; have g1 := lt12 q hq; omega)
     replace hk17 := Keep.fresh hk17 hk55 (by intro i hi hs; first | exact hs | exact Or.inl hs | exact Or.inr hs | (exfalso; have hs2 : i = b13 := hs; omega))
     refine OI_end rfl ?_
     refine X_block ?_
     refine X_then ?_
     refine V_region ?_
     have hw59 : IntKind.i64.wrap (((i : Nat) : Int) + 1) = ((i + 1 : Nat) : Int) := (wrap64_id (by omega) (by omega)).trans (by omega)
     refine OI_static 1 [(0, .slice (some ⟨b28, o28, none⟩) fs.length cap), (4, pt b13), (40, nt (IntKind.i64.wrap (((i : Nat) : Int) + 1)))] (by kernel_rfl) ?_
     refine OI_eq [(0, .slice (some ⟨b28, o28, none⟩) fs.length cap), (4, pt b13), (40, nt ((i + 1 : Nat) : Int))] (by rw [hw59]) ?_
     refine OI_static 2 [(0, .slice (some ⟨b28, o28, none⟩) fs.length cap), (4, pt b13), (13, nt ((i + 1 : Nat) : Int))] (by kernel_rfl) ?_
     refine OI_end rfl ?_
     have hns : newX fs (i + 1) = newX fs i ++ [Acc.mk x29 0] := (by rw [newX_succ, show (fs[i]?).getD 0 = x29 from by rw [hx30]; rfl])
     exact V_again (k16 - 1) (by omega) [(0, .slice (some ⟨b28, o28, none⟩) fs.length cap), (4, pt b13), (13, nt ((i + 1 : Nat) : Int))] rfl ⟨i + 1, A51, cap51, by omega, by rw [hns]; exact hb13_57, by rw [hns]; exact hA51, own51, fun k x hk hx => by rcases Nat.lt_or_ge k i with h9 | h9; exact hokf k x h9 hx; (obtain rfl : k = i := by omega); (rw [hx30] at hx; cases hx; exact hc41), hk17, rfl⟩
   ·
    refine V_skip ?_
    refine X_then ?_
    refine V_seq ?_
    refine V_seq ?_
    refine V_region ?_
    refine OI_static 1 [(0, .slice A fs.length cap), (4, pt b13), (6, pt b20), (13, nt ((i : Nat) : Int)), (26, pt b20)] (by kernel_rfl) ?_
    refine OI_cell 3 (.tmp 26) 0 (nt 0) (some 27) (by kernel_rfl) (by kernel_rfl) hb20_25 (m := 1) (by kernel_rfl) rfl ?_
    refine OI_call { callee := (Callee.value (Operand.func 43)), args := #[(Operand.tmp 27)], argTypes := #[3] } 43 #[nt 0] (some 28) (by kernel_rfl) (by kernel_rfl) (by kernel_rfl) (isAmount_spec 0 _) ?_
    rintro _ w22 ⟨rfl, rfl⟩
    refine ⟨_, rfl, ?_⟩
    refine OI_static 4 [(0, .slice A fs.length cap), (4, pt b13), (6, pt b20), (13, nt ((i : Nat) : Int)), (29, .bool (!(decide (0 ≤ (0 : Int) ∧ 0 ≤ 1073741824))))] (by kernel_rfl) ?_
    refine OI_end rfl ?_
    refine X_then ?_
    refine V_not (0 ≤ (0 : Int) ∧ 0 ≤ 1073741824) (by kernel_rfl) (fun hc65 => ?_) (fun hc65 => ?_)
    ·
     exact (by omega : False).elim
    ·
     refine V_skip ?_
     refine X_then ?_
     refine V_draws (acts [6, 7, 10]) (fun q => q ≠ b13 ∧ q ≠ b20) [[5, 6, 1, 2, 3, 4, 7, 0, 8, 9, 10]] (by kernel_rfl) (by repeat first | exact sure_body (by rintro _ _ (⟨_, _, _, h, _⟩ | ⟨_, h, _⟩) <;> exact ⟨_, h⟩) | refine sure_then ?_ | refine sure_block ?_ | refine sure_join ?_) (by kernel_rfl) ?_
     intro w67 hk66 he68 L hL69
     have hsz70 := Keep.size hk66
     replace hl2 := hl2.keep hk66 (fun f => f)
     replace hb20_25 := hb20_25.keep hk66 (fun f => f)
     replace hA := ArgT.keep0 hA hk66
     replace hA2 := SlT.keep0 hA2 hk66
     replace hK0 := Keep.tr hK0 (Keep.ofNone hk66)
     replace ho8 := Grd.keep ho8 hk66 (fun _ _ f => f)
     replace hk17 := Keep.tr hk17 (Keep.ofNone hk66)
     have qhl2 := hl2
     have qhb20_25 := hb20_25
     have K71 : Keep (fun q => q ≠ b13 ∧ q ≠ b20) w67 w67 := Keep.refl _ _
     obtain rfl := List.mem_singleton.1 hL69
     refine GI_agg 101 (.tmp 6) 0 [nt 0, nt 0] (some 35) (by kernel_rfl) (by kernel_rfl) (by kernel_rfl) qhb20_25 (by show ¬ (b20 ≠ b13 ∧ b20 ≠ b20); omega) (m := 2) (by kernel_rfl) rfl rfl ?_
     refine GI_slit (E := 101) (zv := .agg #[nt 0, nt 0]) (sz := 2) (by_ := 16) 97 1 #[(0, (Operand.tmp 35))] [.agg #[nt 0, nt 0]] [nt 0, nt 0] (some 36) (by kernel_rfl) (by kernel_rfl) K71 (by kernel_rfl) (by kernel_rfl) (by omega) rfl (by omega) (by intro v hv; simp only [List.mem_cons, List.not_mem_nil, or_false] at hv; rcases hv with rfl <;> rfl) (by kernel_rfl) rfl ?_
     intro b72 w72 e72 hb72 k72 z72 K73
     have hsz74 := Keep.size k72
     replace hl2 := hl2.keep k72 (fun f => f)
     replace hb20_25 := hb20_25.keep k72 (fun f => f)
     replace hA := ArgT.keep0 hA k72
     replace hA2 := SlT.keep0 hA2 k72
     replace hK0 := Keep.tr hK0 (Keep.ofNone k72)
     replace ho8 := Grd.keep ho8 k72 (fun _ _ f => f)
     replace hk17 := Keep.tr hk17 (Keep.ofNone k72)
     have hb72lt := hb72.lt
     refine GI_static [4, 7, 0, 8, 9, 10] [(0, .slice A fs.length cap), (4, pt b13), (13, nt ((i : Nat) : Int)), (33, pt b13), (36, .slice (some ⟨b72, 0, none⟩) 1 1)] (by kernel_rfl) ?_
     refine GI_cell 97 (.tmp 33) 0 (.slice A2 ((newX fs i).length) cap2) (some 34) (by kernel_rfl) (by kernel_rfl) (by kernel_rfl) qhl2 (by show ¬ (b13 ≠ b13 ∧ b13 ≠ b20); omega) (m := 1) (by kernel_rfl) rfl ?_
     refine GI_append (t := 97) (at2 := 97) (E := 101) (E2 := 101) (sz := 2) (by_ := 16) (zv := .agg #[nt 0, nt 0]) (m := (newX fs i).length) (k := 1) (.tmp 34) (.tmp 36) (.slice A2 ((newX fs i).length) cap2) (.slice (some ⟨b72, 0, none⟩) 1 1) (some 37) (by kernel_rfl) (by kernel_rfl) (by kernel_rfl) (by kernel_rfl) (by kernel_rfl) (by kernel_rfl) (by kernel_rfl) (by kernel_rfl) (SlT.slr hA2) (slr_one hb72 (Acc.len (Acc.mk 0 0))) (Acc.one (Acc.mk 0 0)) (by first | omega | (simp only [List.length_nil]; omega)) (by omega) (by first | omega | (simp only [List.length_nil]; omega)) (by omega) ?_
     intro vv9 w75 hap
     obtain ⟨A75, cap75, rfl, hA75, hk75, own75x⟩ := app_one (f := Acc.cells) (xs := (newX fs i)) (x := (Acc.mk 0 0)) (A := A2) (cap := cap2) hap (fun x _ => Acc.len x) (Acc.len _)
     have own75 : ∀ q, inA A75 q → w13.heap.size ≤ q := fun q hq => by rcases own75x q hq with h | h; exact ow2 q h; (show w13.heap.size ≤ q; omega)
     refine ⟨Keep.fresh K73 hk75 (by intro i hi hs; have h1 := ow2 i hs; have h2 := lt2 i hs; show i ≠ b13 ∧ i ≠ b20; omega), ?_⟩
     have K76 := Keep.fresh K73 hk75 (by intro i hi hs; have h1 := ow2 i hs; have h2 := lt2 i hs; show i ≠ b13 ∧ i ≠ b20; omega)
     have hsz77 := Keep.size hk75
     replace hl2 := hl2.keep hk75 (fun hs => by have h1 := ow2 _ hs; have h2 := lt2 _ hs; omega)
     replace hb20_25 := hb20_25.keep hk75 (fun hs => by have h1 := ow2 _ hs; have h2 := lt2 _ hs; omega)
     replace hA := ArgT.keep hA hk75 hA0 (fun k hk hs => by have h1 := ow2 k hs; have h2 := lt2 k hs; omega)
     replace hK0 := Keep.fresh hK0 hk75 (by intro i hi hs; first | exact hs | (exfalso; have h1 := ow2 i hs; have h2 := lt2 i hs; omega) | (have h1 := ow2 i hs; have h2 := lt2 i hs; show _ ∨ _; omega))
     replace ho8 := Grd.keep ho8 hk75 (fun q hq hs => by have g0 := own11 q hq; have g1 := lt12 q hq; have h1 := ow2 q hs; have h2 := lt2 q hs; omega)
     replace hk17 := Keep.fresh hk17 hk75 (by intro i hi hs; first | exact hs | (exfalso; have h1 := ow2 i hs; have h2 := lt2 i hs; omega) | (have h1 := ow2 i hs; have h2 := lt2 i hs; show _ ∨ _; omega))
     have lt75 := SlT.lt hA75
     refine GI_static [10] [(0, .slice A fs.length cap), (4, pt b13), (13, nt ((i : Nat) : Int)), (37, .slice A75 (((newX fs i) ++ [Acc.mk 0 0]).length) cap75), (39, pt b13)] (by kernel_rfl) ?_
     refine GI_final 10 (by kernel_rfl) (by kernel_rfl) ?_
     refine OI_set (m := 1) (kd := false) 97 (.tmp 39) (.tmp 37) 0 (.slice A75 (((newX fs i) ++ [Acc.mk 0 0]).length) cap75) [.slice A75 (((newX fs i) ++ [Acc.mk 0 0]).length) cap75] none (by kernel_rfl) (by kernel_rfl) (by kernel_rfl) hl2 (by kernel_rfl) (by kernel_rfl) (by kernel_rfl) (Nat.le_of_ble_eq_true (by kernel_rfl)) (by simp [Value.oneCell']) ?_
     intro w78 hb13_81 hk79 hz80
     replace hb13_81 : Blk w78 b13 [.slice A75 (((newX fs i) ++ [Acc.mk 0 0]).length) cap75, pt g6] 99 := hb13_81
     have hsz82 := Keep.size hk79
     replace hb20_25 := hb20_25.keep hk79 (by show ¬ (_ = _); omega)
     replace hA := ArgT.keep hA hk79 hA0 (fun k hk hs => by have hs : k = b13 := hs; omega)
     replace hA75 := SlT.keep hA75 hk79 (fun q hq hs => by have hs : q = b13 := hs; have g0 := own75 q hq; have g1 := lt75 q hq; omega)
     replace hK0 := Keep.fresh hK0 hk79 (by intro i hi hs; first | exact hs | exact Or.inl hs | exact Or.inr hs | (exfalso; have hs2 : i = b13 := hs; omega))
     replace ho8 := Grd.keep ho8 hk79 (fun q hq hs => by have hs : q = b13 := hs; have g0 := own11 q hq; have g1 := lt12 q hq; omega)
     replace hk17 := Keep.fresh hk17 hk79 (by intro i hi hs; first | exact hs | exact Or.inl hs | exact Or.inr hs | (exfalso; have hs2 : i = b13 := hs; omega))
     refine OI_end rfl ?_
     refine X_block ?_
     refine X_then ?_
     refine V_region ?_
     have hw83 : IntKind.i64.wrap (((i : Nat) : Int) + 1) = ((i + 1 : Nat) : Int) := (wrap64_id (by omega) (by omega)).trans (by omega)
     refine OI_static 1 [(0, .slice A fs.length cap), (4, pt b13), (40, nt (IntKind.i64.wrap (((i : Nat) : Int) + 1)))] (by kernel_rfl) ?_
     refine OI_eq [(0, .slice A fs.length cap), (4, pt b13), (40, nt ((i + 1 : Nat) : Int))] (by rw [hw83]) ?_
     refine OI_static 2 [(0, .slice A fs.length cap), (4, pt b13), (13, nt ((i + 1 : Nat) : Int))] (by kernel_rfl) ?_
     refine OI_end rfl ?_
     have hns : newX fs (i + 1) = newX fs i ++ [Acc.mk 0 0] := (by rw [newX_succ, show (fs[i]?).getD 0 = 0 from by rw [List.getElem?_eq_none (by omega)]; rfl])
     exact V_again (k16 - 1) (by omega) [(0, .slice A fs.length cap), (4, pt b13), (13, nt ((i + 1 : Nat) : Int))] rfl ⟨i + 1, A75, cap75, by omega, by rw [hns]; exact hb13_81, by rw [hns]; exact hA75, own75, fun k x hk hx => by rcases Nat.lt_or_ge k i with h9 | h9; exact hokf k x h9 hx; (obtain rfl : k = i := by omega); (rw [List.getElem?_eq_none (by omega)] at hx; cases hx), hk17, rfl⟩
  ·
   refine V_exit ?_
   refine X_exit_then ?_
   refine X_exit_then ?_
   refine X_exit_here ?_
   refine X_then ?_
   refine V_seq ?_
   refine V_seq ?_
   refine V_region ?_
   refine OI_static 1 [(4, pt b13), (41, pt b13)] (by kernel_rfl) ?_
   obtain rfl : i = 10 := by omega
   have hnn := newX_nn hokf
   have htl := newX_tot hokf
   refine OI_call { callee := (Callee.value (Operand.func 44)), args := #[(Operand.tmp 41)], argTypes := #[28] } 44 #[pt b13] (some 42) (by kernel_rfl) (by kernel_rfl) (by kernel_rfl) (issued_at b13 cap2 A2 _ (newX fs 10) _ hl2 hA2 hnn (by omega) (by rw [newX_len]; omega)) ?_
   rintro _ w84 ⟨rfl, hk85⟩
   refine ⟨_, rfl, ?_⟩
   have hsz86 := Keep.size hk85
   replace hl2 := hl2.keep hk85 (fun f => f)
   replace hA := ArgT.keep0 hA hk85
   replace hA2 := SlT.keep0 hA2 hk85
   replace hK0 := Keep.tr hK0 (Keep.ofNone hk85)
   replace ho8 := Grd.keep ho8 hk85 (fun _ _ f => f)
   refine OI_static 3 [(4, pt b13), (43, .bool (decide (tot (newX fs 10) > 1073741824)))] (by kernel_rfl) ?_
   refine OI_end rfl ?_
   refine X_then ?_
   refine V_if (tot (newX fs 10) > 1073741824) (by kernel_rfl) (fun hc87 => ?_) (fun hc87 => ?_)
   ·
    refine V_seq ?_
    refine V_region ?_
    refine OI_static 2 [(2, .pointer none), (3, nt 1)] (by kernel_rfl) ?_
    refine OI_end rfl ?_
    refine X_then ?_
    refine V_ret ?_
    refine X_ret_then ?_
    exact X_return _ rfl (.inr ⟨fun hh => by have := hh.2.2; omega, rfl, hK0⟩)
   ·
    refine V_skip ?_
    refine X_then ?_
    refine V_seq ?_
    refine V_region ?_
    refine OI_static 3 [(2, pt b13), (3, nt 0)] (by kernel_rfl) ?_
    refine OI_end rfl ?_
    refine X_then ?_
    refine V_ret ?_
    exact X_return _ rfl (.inl ⟨⟨by omega, okF_all (by omega) hokf, by omega⟩, b13, fun q => w.heap.size ≤ q ∧ q < w84.heap.size, rfl, ⟨⟨newX_len _ _, newX_nn hokf, by omega⟩, ⟨by omega, by omega⟩, fun q hq => hq.2, g6, A2, cap2, F7, ⟨hl2, hA2⟩, ho8, fun q hq => ⟨⟨by have h1 := ow2 q hq; omega, by have h1 := lt2 q hq; omega⟩, by have h1 := ow2 q hq; omega⟩, fun q hq => ⟨⟨by have h1 := own11 q hq; omega, by have h1 := lt12 q hq; omega⟩, by have h1 := lt12 q hq; omega⟩, fun q h1 h2 => by have h3 := ow2 q h1; have h4 := lt12 q h2; omega⟩, hK0, fun q hq => hq.1⟩)
end Go.Al


namespace Go.Al
open Go Go.RowKit Go.Proofs
set_option maxRecDepth 10000 in
theorem cvIn_spec (n lo hi : Int) (w : World) : Calls Try.prog 48 #[.int .i64 n, .int .i64 lo, .int .i64 hi] w fun e w' => e = .returned (.bool (decide (lo ≤ n ∧ n ≤ hi))) ∧ w' = w := by
 refine enterV Try.func48 rfl [nt n, nt lo, nt hi] 15 rfl rfl rfl ?_
 refine V_pick [(0, nt n), (1, nt lo), (2, nt hi)] rfl ?_
 refine V_seq ?_
 refine V_region ?_
 refine OI_static 1 [(0, nt n), (1, nt lo), (2, nt hi)] (by kernel_rfl) ?_
 refine OI_end rfl ?_
 refine X_then ?_
 refine V_seq ?_
 refine V_region ?_
 refine OI_static 4 [(0, nt n), (2, nt hi), (10, .bool (decide (n ≥ lo)))] (by kernel_rfl) ?_
 by_cases hg1 : n ≥ lo
 ·
  refine OI_eq [(0, nt n), (2, nt hi), (10, .bool true)] (by first | simp [hg1] | rfl) ?_
  refine OI_static 9 [(6, .bool (decide (n ≤ hi)))] (by kernel_rfl) ?_
  refine OI_end rfl ?_
  refine X_then ?_
  refine V_ret ?_
  exact X_return (.bool (decide (n ≤ hi))) rfl ⟨by congr 2; simp only [Bool.decide_and]; by_cases h1 : lo ≤ n <;> simp [h1] <;> omega, rfl⟩
 ·
  refine OI_eq [(0, nt n), (2, nt hi), (10, .bool false)] (by first | simp [hg1] | rfl) ?_
  refine OI_static 9 [(6, .bool false)] (by kernel_rfl) ?_
  refine OI_end rfl ?_
  refine X_then ?_
  refine V_ret ?_
  exact X_return (.bool false) rfl ⟨by congr 2; simp only [Bool.decide_and]; by_cases h1 : lo ≤ n <;> simp [h1] <;> omega, rfl⟩

set_option maxRecDepth 10000 in
theorem isCapital_spec (A : Option Addr) (cap : Nat) (xs : List Int) (w : World) (hA : SlT w 1 intc A cap xs) (hn : xs.length ≤ 1000) : Calls Try.prog 47 #[.slice A xs.length cap] w fun e w' => e = .returned (.bool (decide (okC xs ∧ sumL xs ≤ 1073741824))) ∧ Keep none_ w w' := by
 have hK0 : Keep none_ w w := Keep.refl _ _
 have hzhK0 := Keep.size hK0
 refine enterV Try.func47 rfl [.slice A xs.length cap] 21 rfl rfl rfl ?_
 refine V_pick [(0, .slice A xs.length cap)] rfl ?_
 refine V_seq ?_
 refine V_region ?_
 refine OI_static 1 [(0, .slice A xs.length cap)] (by kernel_rfl) ?_
 refine OI_end rfl ?_
 refine X_then ?_
 refine V_seq ?_
 refine V_region ?_
 refine OI_static 1 [(0, .slice A xs.length cap), (3, nt 0)] (by kernel_rfl) ?_
 refine OI_end rfl ?_
 refine X_then ?_
 refine V_seq ?_
 refine V_seq ?_
 refine V_region ?_
 refine OI_static 3 [(3, nt 0), (6, .slice A xs.length cap), (7, nt ((xs.length : Nat) : Int)), (8, nt 0)] (by kernel_rfl) ?_
 refine OI_end rfl ?_
 refine X_then ?_
 refine V_block ?_
 refine V_pick [(3, nt 0), (6, .slice A xs.length cap), (7, nt ((xs.length : Nat) : Int)), (8, nt 0)] rfl ?_
 refine V_loop (fun k wI e => ∃ i : Nat, ∃ s : Int, (k + i = xs.length) ∧ (s = sumL (xs.take i)) ∧ (okC (xs.take i)) ∧ Keep none_ w wI ∧ e = [(3, nt s), (6, .slice A xs.length cap), (7, nt ((xs.length : Nat) : Int)), (8, nt ((i : Nat) : Int))]) xs.length ⟨0, 0, by omega, rfl, (fun _ h => by simp at h), Keep.refl _ _, rfl⟩ ?_
 rintro k2 w1 _ ⟨i, s, hki, hs, hok, hk3, rfl⟩
 have hsz4 := Keep.size hk3
 replace hA := SlT.keep0 hA hk3
 replace hK0 := Keep.tr hK0 (Keep.ofNone hk3)
 have hzhk3 := Keep.size hk3
 refine V_seq ?_
 refine V_region ?_
 refine OI_static 1 [(3, nt s), (6, .slice A xs.length cap), (7, nt ((xs.length : Nat) : Int)), (8, nt ((i : Nat) : Int)), (9, .bool (decide (((i : Nat) : Int) < ((xs.length : Nat) : Int))))] (by kernel_rfl) ?_
 refine OI_end rfl ?_
 refine X_then ?_
 refine V_seq ?_
 refine V_if (((i : Nat) : Int) < ((xs.length : Nat) : Int)) (by kernel_rfl) (fun hc5 => ?_) (fun hc5 => ?_)
 ·
  refine V_skip ?_
  refine X_then ?_
  refine V_seq ?_
  refine V_block ?_
  refine V_seq ?_
  refine V_region ?_
  obtain ⟨b6, o6, L6, T6, rfl, hat6⟩ := SlT.open_ hA (by first | omega | (simp only [List.length_map]; omega) | (simp; done) | (simp; omega))
  have hb6lt := hat6.blk.lt
  refine OI_pure (some 10) (.indexAddr 24 (.tmp 6) (.tmp 8)) (by kernel_rfl) (pure_idxN (b := b6) (o := o6) (len := xs.length) (cap := cap) (kd := .i64) (j := i) (E := 3) (sz := 1) (by_ := 8) (by kernel_rfl) (by kernel_rfl) (by kernel_rfl) (by omega)) ?_
  obtain ⟨x7, hx8⟩ : ∃ x, xs[i]? = some x := ⟨_, List.getElem?_eq_getElem (by first | omega | (simp only [List.length_map]; omega))⟩
  have hbd := sumL_bnd hok; rw [List.length_take] at hbd
  refine OI_cell 3 (.tmp 10) (o6 + i * 1) (nt x7) (some 11) (by kernel_rfl) (by kernel_rfl) hat6.blk (m := 1) (by kernel_rfl) (At.cell0 hat6 (es_at hx8) rfl) ?_
  refine OI_static 3 [(3, nt s), (5, nt x7), (6, .slice (some ⟨b6, o6, none⟩) xs.length cap), (7, nt ((xs.length : Nat) : Int)), (8, nt ((i : Nat) : Int))] (by kernel_rfl) ?_
  refine OI_end rfl ?_
  refine X_then ?_
  refine V_seq ?_
  refine V_seq ?_
  refine V_region ?_
  refine OI_static 1 [(3, nt s), (5, nt x7), (6, .slice (some ⟨b6, o6, none⟩) xs.length cap), (7, nt ((xs.length : Nat) : Int)), (8, nt ((i : Nat) : Int)), (12, nt x7)] (by kernel_rfl) ?_
  refine OI_call { callee := (Callee.value (Operand.func 48)), args := #[(Operand.tmp 12), (Operand.const (Value.int IntKind.i64 0)), (Operand.const (Value.int IntKind.i64 1073741824))], argTypes := #[3, 3, 3] } 48 #[nt x7, nt 0, nt 1073741824] (some 13) (by kernel_rfl) (by kernel_rfl) (by kernel_rfl) (cvIn_spec x7 0 1073741824 _) ?_
  rintro _ w1 ⟨rfl, rfl⟩
  refine ⟨_, rfl, ?_⟩
  refine OI_static 3 [(3, nt s), (5, nt x7), (6, .slice (some ⟨b6, o6, none⟩) xs.length cap), (7, nt ((xs.length : Nat) : Int)), (8, nt ((i : Nat) : Int)), (14, .bool (!(decide ((0 : Int) ≤ x7 ∧ x7 ≤ 1073741824))))] (by kernel_rfl) ?_
  refine OI_end rfl ?_
  refine X_then ?_
  refine V_not ((0 : Int) ≤ x7 ∧ x7 ≤ 1073741824) (by kernel_rfl) (fun hc10 => ?_) (fun hc10 => ?_)
  ·
   refine V_seq ?_
   refine V_region ?_
   refine OI_static 1 [(2, .bool false)] (by kernel_rfl) ?_
   refine OI_end rfl ?_
   refine X_then ?_
   refine V_ret ?_
   refine X_ret_then ?_
   refine X_ret_block ?_
   refine X_ret_then ?_
   refine X_ret_then ?_
   refine X_ret_block ?_
   refine X_ret_then ?_
   exact X_return _ rfl ⟨by rw [decide_eq_false (fun hh => hc10 (hh.1 _ (List.mem_of_getElem? hx8)))], hK0⟩
  ·
   refine V_skip ?_
   refine X_then ?_
   refine V_region ?_
   have hw11 : IntKind.i64.wrap (s + x7) = s + x7 := (wrap64_id (by omega) (by omega)).trans (by omega)
   refine OI_static 3 [(6, .slice (some ⟨b6, o6, none⟩) xs.length cap), (7, nt ((xs.length : Nat) : Int)), (8, nt ((i : Nat) : Int)), (17, nt (IntKind.i64.wrap (s + x7)))] (by kernel_rfl) ?_
   refine OI_eq [(6, .slice (some ⟨b6, o6, none⟩) xs.length cap), (7, nt ((xs.length : Nat) : Int)), (8, nt ((i : Nat) : Int)), (17, nt (s + x7))] (by rw [hw11]) ?_
   refine OI_static 4 [(3, nt (s + x7)), (6, .slice (some ⟨b6, o6, none⟩) xs.length cap), (7, nt ((xs.length : Nat) : Int)), (8, nt ((i : Nat) : Int))] (by kernel_rfl) ?_
   refine OI_end rfl ?_
   refine X_block ?_
   refine X_then ?_
   refine V_region ?_
   have hw12 : IntKind.i64.wrap (((i : Nat) : Int) + 1) = ((i + 1 : Nat) : Int) := (wrap64_id (by omega) (by omega)).trans (by omega)
   refine OI_static 1 [(3, nt (s + x7)), (6, .slice (some ⟨b6, o6, none⟩) xs.length cap), (7, nt ((xs.length : Nat) : Int)), (18, nt (IntKind.i64.wrap (((i : Nat) : Int) + 1)))] (by kernel_rfl) ?_
   refine OI_eq [(3, nt (s + x7)), (6, .slice (some ⟨b6, o6, none⟩) xs.length cap), (7, nt ((xs.length : Nat) : Int)), (18, nt ((i + 1 : Nat) : Int))] (by rw [hw12]) ?_
   refine OI_static 2 [(3, nt (s + x7)), (6, .slice (some ⟨b6, o6, none⟩) xs.length cap), (7, nt ((xs.length : Nat) : Int)), (8, nt ((i + 1 : Nat) : Int))] (by kernel_rfl) ?_
   refine OI_end rfl ?_
   exact V_again (k2 - 1) (by omega) [(3, nt (s + x7)), (6, .slice (some ⟨b6, o6, none⟩) xs.length cap), (7, nt ((xs.length : Nat) : Int)), (8, nt ((i + 1 : Nat) : Int))] rfl ⟨i + 1, s + x7, by omega, by rw [sumL_step hx8, hs], okC_step hx8 hok hc10, hk3, rfl⟩
 ·
  refine V_exit ?_
  refine X_exit_then ?_
  refine X_exit_then ?_
  refine X_exit_here ?_
  refine X_then ?_
  refine V_seq ?_
  refine V_region ?_
  refine OI_static 3 [(2, .bool (decide (s ≤ 1073741824)))] (by kernel_rfl) ?_
  refine OI_end rfl ?_
  refine X_then ?_
  refine V_ret ?_
  have he : i = xs.length := by omega
  rw [he, List.take_length] at hs hok
  exact X_return (.bool (decide (s ≤ 1073741824))) rfl ⟨by rw [hs]; congr 2; rw [decide_eq_decide]; exact ⟨fun h => ⟨hok, h⟩, fun h => h.2⟩, hK0⟩

theorem isCapital3 (b : Nat) (T : TypeId) (a n s : Int) (w : World) (hb : Blk w b [.int .i64 a, .int .i64 n, .int .i64 s] T) : Calls Try.prog 47 #[.slice (some ⟨b, 0, none⟩) 3 3] w fun e w' => e = .returned (.bool (decide (0 ≤ a ∧ a ≤ 1073741824 ∧ 0 ≤ n ∧ n ≤ 1073741824 ∧ 0 ≤ s ∧ s ≤ 1073741824 ∧ a + n + s ≤ 1073741824))) ∧ Keep none_ w w' := by
  rw [← decide_eq_decide.2 (okC3 a n s)]
  exact isCapital_spec _ 3 [a, n, s] w (slt_blk hb (fun _ => rfl) rfl) (by simp)

set_option maxRecDepth 10000 in
theorem cvIs_spec (x : Vt) (w : World) : Calls Try.prog 25 #[.agg x.cells.toArray] w fun e w' => e = .returned (.bool (decide (okV x))) ∧ Keep none_ w w' := by
 have hK0 : Keep none_ w w := Keep.refl _ _
 have hzhK0 := Keep.size hK0
 refine enterV Try.func25 rfl [.agg (Vt.cells x).toArray] 54 rfl rfl rfl ?_
 refine V_pick [(0, .agg (Vt.cells x).toArray)] rfl ?_
 refine V_seq ?_
 refine V_region ?_
 refine OI_box 26 (.tmp 0) (.agg (Vt.cells x).toArray) (Vt.cells x) (some 1) (by kernel_rfl) (by kernel_rfl) rfl ?_
 intro b1 w1 e1 hb1 k1 z1
 have hsz2 := Keep.size k1
 replace hK0 := Keep.tr hK0 (Keep.ofNone k1)
 have hb1lt := hb1.lt
 refine OI_static 2 [(1, pt b1)] (by kernel_rfl) ?_
 refine OI_end rfl ?_
 refine X_then ?_
 refine V_seq ?_
 refine V_seq ?_
 refine V_region ?_
 refine OI_static 1 [(1, pt b1), (3, .pointer (some ⟨b1, 3, none⟩))] (by kernel_rfl) ?_
 refine OI_cell 3 (.tmp 3) 3 (nt x.a) (some 4) (by kernel_rfl) (by kernel_rfl) hb1 (m := 1) (by kernel_rfl) rfl ?_
 refine OI_static 3 [(1, pt b1), (4, nt x.a), (5, .pointer (some ⟨b1, 4, none⟩))] (by kernel_rfl) ?_
 refine OI_cell 3 (.tmp 5) 4 (nt x.n) (some 6) (by kernel_rfl) (by kernel_rfl) hb1 (m := 1) (by kernel_rfl) rfl ?_
 refine OI_static 5 [(1, pt b1), (4, nt x.a), (6, nt x.n), (7, .pointer (some ⟨b1, 5, none⟩))] (by kernel_rfl) ?_
 refine OI_cell 3 (.tmp 7) 5 (nt x.s) (some 8) (by kernel_rfl) (by kernel_rfl) hb1 (m := 1) (by kernel_rfl) rfl ?_
 refine OI_slit (E := 3) (zv := nt 0) (sz := 1) (by_ := 8) 24 3 #[(0, (Operand.tmp 4)), (1, (Operand.tmp 6)), (2, (Operand.tmp 8))] [nt x.a, nt x.n, nt x.s] [nt x.a, nt x.n, nt x.s] (some 9) (by kernel_rfl) (by kernel_rfl) (by kernel_rfl) (by omega) rfl (by omega) (by intro v hv; simp only [List.mem_cons, List.not_mem_nil, or_false] at hv; rcases hv with rfl | rfl | rfl <;> rfl) (by kernel_rfl) rfl ?_
 intro b3 w3 e3 hb3 k3 z3
 have hsz4 := Keep.size k3
 replace hb1 := hb1.keep k3 (fun f => f)
 replace hK0 := Keep.tr hK0 (Keep.ofNone k3)
 have hb3lt := hb3.lt
 refine OI_call { callee := (Callee.value (Operand.func 47)), args := #[(Operand.tmp 9)], argTypes := #[24] } 47 #[.slice (some ⟨b3, 0, none⟩) 3 3] (some 10) (by kernel_rfl) (by kernel_rfl) (by kernel_rfl) (isCapital3 b3 _ x.a x.n x.s _ hb3) ?_
 rintro _ w5 ⟨rfl, hk6⟩
 refine ⟨_, rfl, ?_⟩
 have hsz7 := Keep.size hk6
 replace hb1 := hb1.keep hk6 (fun f => f)
 replace hb3 := hb3.keep hk6 (fun f => f)
 replace hK0 := Keep.tr hK0 (Keep.ofNone hk6)
 refine OI_static 9 [(1, pt b1), (11, .bool (!(decide (0 ≤ x.a ∧ x.a ≤ 1073741824 ∧ 0 ≤ x.n ∧ x.n ≤ 1073741824 ∧ 0 ≤ x.s ∧ x.s ≤ 1073741824 ∧ x.a + x.n + x.s ≤ 1073741824))))] (by kernel_rfl) ?_
 refine OI_end rfl ?_
 refine X_then ?_
 refine V_not (0 ≤ x.a ∧ x.a ≤ 1073741824 ∧ 0 ≤ x.n ∧ x.n ≤ 1073741824 ∧ 0 ≤ x.s ∧ x.s ≤ 1073741824 ∧ x.a + x.n + x.s ≤ 1073741824) (by kernel_rfl) (fun hc8 => ?_) (fun hc8 => ?_)
 ·
  refine V_seq ?_
  refine V_region ?_
  refine OI_static 1 [(2, .bool false)] (by kernel_rfl) ?_
  refine OI_end rfl ?_
  refine X_then ?_
  refine V_ret ?_
  refine X_ret_then ?_
  exact X_return (.bool false) rfl ⟨by congr 2; first | (apply Eq.symm; simp only [decide_eq_true_eq, decide_eq_false_iff_not]; unfold okV; simp_all <;> omega) | (rw [decide_eq_decide]; unfold okV; simp_all <;> omega), hK0⟩
 ·
  refine V_skip ?_
  refine X_then ?_
  refine V_seq ?_
  refine V_seq ?_
  refine V_region ?_
  refine OI_static 1 [(1, pt b1), (12, pt b1)] (by kernel_rfl) ?_
  refine OI_cell 3 (.tmp 12) 0 (nt x.kind) (some 13) (by kernel_rfl) (by kernel_rfl) hb1 (m := 1) (by kernel_rfl) rfl ?_
  refine OI_end rfl ?_
  refine X_then ?_
  refine V_block ?_
  refine V_seq ?_
  refine V_region ?_
  refine OI_static 2 [(1, pt b1), (13, nt x.kind), (14, .bool (decide (x.kind = 1)))] (by kernel_rfl) ?_
  refine OI_end rfl ?_
  refine X_then ?_
  refine V_if (x.kind = 1) (by kernel_rfl) (fun hc9 => ?_) (fun hc9 => ?_)
  ·
   refine V_seq ?_
   refine V_region ?_
   refine OI_static 1 [(1, pt b1), (16, .pointer (some ⟨b1, 2, none⟩))] (by kernel_rfl) ?_
   refine OI_cell 3 (.tmp 16) 2 (nt x.level) (some 17) (by kernel_rfl) (by kernel_rfl) hb1 (m := 1) (by kernel_rfl) rfl ?_
   refine OI_call { callee := (Callee.value (Operand.func 48)), args := #[(Operand.tmp 17), (Operand.const (Value.int IntKind.i64 0)), (Operand.const (Value.int IntKind.i64 6))], argTypes := #[3, 3, 3] } 48 #[nt x.level, nt 0, nt 6] (some 18) (by kernel_rfl) (by kernel_rfl) (by kernel_rfl) (cvIn_spec x.level 0 6 _) ?_
   rintro _ w5 ⟨rfl, rfl⟩
   refine ⟨_, rfl, ?_⟩
   refine OI_static 4 [(1, pt b1), (19, .bool (decide ((0 : Int) ≤ x.level ∧ x.level ≤ 6)))] (by kernel_rfl) ?_
   by_cases hg13 : (0 : Int) ≤ x.level ∧ x.level ≤ 6
   ·
    refine OI_eq [(1, pt b1), (19, .bool true)] (by first | simp [hg13] | rfl) ?_
    refine OI_static 5 [(1, pt b1), (19, .bool true), (20, .pointer (some ⟨b1, 4, none⟩))] (by kernel_rfl) ?_
    refine OI_cell 3 (.tmp 20) 4 (nt x.n) (some 21) (by kernel_rfl) (by kernel_rfl) hb1 (m := 1) (by kernel_rfl) rfl ?_
    refine OI_static 9 [(1, pt b1), (24, .bool (decide (x.n = 0)))] (by kernel_rfl) ?_
    by_cases hg14 : x.n = 0
    ·
     refine OI_eq [(1, pt b1), (24, .bool true)] (by first | simp [hg14] | rfl) ?_
     refine OI_static 10 [(24, .bool true), (25, .pointer (some ⟨b1, 5, none⟩))] (by kernel_rfl) ?_
     refine OI_cell 3 (.tmp 25) 5 (nt x.s) (some 26) (by kernel_rfl) (by kernel_rfl) hb1 (m := 1) (by kernel_rfl) rfl ?_
     refine OI_static 14 [(2, .bool (decide (x.s = 0)))] (by kernel_rfl) ?_
     refine OI_end rfl ?_
     refine X_then ?_
     refine V_ret ?_
     refine X_ret_block ?_
     refine X_ret_then ?_
     exact X_return (.bool (decide (x.s = 0))) rfl ⟨by congr 2; first | (apply Eq.symm; simp only [decide_eq_true_eq, decide_eq_false_iff_not]; unfold okV; simp_all <;> omega) | (rw [decide_eq_decide]; unfold okV; simp_all <;> omega), hK0⟩
    ·
     refine OI_eq [(1, pt b1), (24, .bool false)] (by first | simp [hg14] | rfl) ?_
     refine OI_static 14 [(2, .bool false)] (by kernel_rfl) ?_
     refine OI_end rfl ?_
     refine X_then ?_
     refine V_ret ?_
     refine X_ret_block ?_
     refine X_ret_then ?_
     exact X_return (.bool false) rfl ⟨by congr 2; first | (apply Eq.symm; simp only [decide_eq_true_eq, decide_eq_false_iff_not]; unfold okV; simp_all <;> omega) | (rw [decide_eq_decide]; unfold okV; simp_all <;> omega), hK0⟩
   ·
    refine OI_eq [(1, pt b1), (19, .bool false)] (by first | simp [hg13] | rfl) ?_
    refine OI_static 14 [(2, .bool false)] (by kernel_rfl) ?_
    refine OI_end rfl ?_
    refine X_then ?_
    refine V_ret ?_
    refine X_ret_block ?_
    refine X_ret_then ?_
    exact X_return (.bool false) rfl ⟨by congr 2; first | (apply Eq.symm; simp only [decide_eq_true_eq, decide_eq_false_iff_not]; unfold okV; simp_all <;> omega) | (rw [decide_eq_decide]; unfold okV; simp_all <;> omega), hK0⟩
  ·
   refine V_seq ?_
   refine V_region ?_
   refine OI_static 2 [(1, pt b1), (13, nt x.kind), (29, .bool (decide (x.kind = 2)))] (by kernel_rfl) ?_
   refine OI_end rfl ?_
   refine X_then ?_
   refine V_if (x.kind = 2) (by kernel_rfl) (fun hc15 => ?_) (fun hc15 => ?_)
   ·
    refine V_seq ?_
    refine V_region ?_
    refine OI_static 1 [(1, pt b1), (31, .pointer (some ⟨b1, 1, none⟩))] (by kernel_rfl) ?_
    refine OI_cell 4 (.tmp 31) 1 (.bool x.aye) (some 32) (by kernel_rfl) (by kernel_rfl) hb1 (m := 1) (by kernel_rfl) rfl ?_
    refine OI_static 4 [(1, pt b1), (34, .bool (!x.aye))] (by kernel_rfl) ?_
    cases hg16 : (!x.aye)
    ·
     refine OI_eq [(1, pt b1), (34, .bool false)] (by first | rfl | rw [hg16]) ?_
     refine OI_static 14 [(2, .bool false)] (by kernel_rfl) ?_
     refine OI_end rfl ?_
     refine X_then ?_
     refine V_ret ?_
     refine X_ret_block ?_
     refine X_ret_then ?_
     exact X_return (.bool false) rfl ⟨by congr 2; first | (apply Eq.symm; simp only [decide_eq_true_eq, decide_eq_false_iff_not]; unfold okV; simp_all <;> omega) | (rw [decide_eq_decide]; unfold okV; simp_all <;> omega), hK0⟩
    ·
     refine OI_eq [(1, pt b1), (34, .bool true)] (by first | rfl | rw [hg16]) ?_
     refine OI_static 5 [(1, pt b1), (34, .bool true), (35, .pointer (some ⟨b1, 2, none⟩))] (by kernel_rfl) ?_
     refine OI_cell 3 (.tmp 35) 2 (nt x.level) (some 36) (by kernel_rfl) (by kernel_rfl) hb1 (m := 1) (by kernel_rfl) rfl ?_
     refine OI_static 9 [(1, pt b1), (39, .bool (decide (x.level = 0)))] (by kernel_rfl) ?_
     by_cases hg17 : x.level = 0
     ·
      refine OI_eq [(1, pt b1), (39, .bool true)] (by first | simp [hg17] | rfl) ?_
      refine OI_static 10 [(39, .bool true), (40, .pointer (some ⟨b1, 5, none⟩))] (by kernel_rfl) ?_
      refine OI_cell 3 (.tmp 40) 5 (nt x.s) (some 41) (by kernel_rfl) (by kernel_rfl) hb1 (m := 1) (by kernel_rfl) rfl ?_
      refine OI_static 14 [(2, .bool (decide (x.s = 0)))] (by kernel_rfl) ?_
      refine OI_end rfl ?_
      refine X_then ?_
      refine V_ret ?_
      refine X_ret_block ?_
      refine X_ret_then ?_
      exact X_return (.bool (decide (x.s = 0))) rfl ⟨by congr 2; first | (apply Eq.symm; simp only [decide_eq_true_eq, decide_eq_false_iff_not]; unfold okV; simp_all <;> omega) | (rw [decide_eq_decide]; unfold okV; simp_all <;> omega), hK0⟩
     ·
      refine OI_eq [(1, pt b1), (39, .bool false)] (by first | simp [hg17] | rfl) ?_
      refine OI_static 14 [(2, .bool false)] (by kernel_rfl) ?_
      refine OI_end rfl ?_
      refine X_then ?_
      refine V_ret ?_
      refine X_ret_block ?_
      refine X_ret_then ?_
      exact X_return (.bool false) rfl ⟨by congr 2; first | (apply Eq.symm; simp only [decide_eq_true_eq, decide_eq_false_iff_not]; unfold okV; simp_all <;> omega) | (rw [decide_eq_decide]; unfold okV; simp_all <;> omega), hK0⟩
   ·
    refine V_seq ?_
    refine V_region ?_
    refine OI_static 2 [(1, pt b1), (44, .bool (decide (x.kind = 3)))] (by kernel_rfl) ?_
    refine OI_end rfl ?_
    refine X_then ?_
    refine V_if (x.kind = 3) (by kernel_rfl) (fun hc18 => ?_) (fun hc18 => ?_)
    ·
     refine V_seq ?_
     refine V_region ?_
     refine OI_static 1 [(1, pt b1), (46, .pointer (some ⟨b1, 1, none⟩))] (by kernel_rfl) ?_
     refine OI_cell 4 (.tmp 46) 1 (.bool x.aye) (some 47) (by kernel_rfl) (by kernel_rfl) hb1 (m := 1) (by kernel_rfl) rfl ?_
     refine OI_static 4 [(1, pt b1), (49, .bool (!x.aye))] (by kernel_rfl) ?_
     cases hg19 : (!x.aye)
     ·
      refine OI_eq [(1, pt b1), (49, .bool false)] (by first | rfl | rw [hg19]) ?_
      refine OI_static 9 [(2, .bool false)] (by kernel_rfl) ?_
      refine OI_end rfl ?_
      refine X_then ?_
      refine V_ret ?_
      refine X_ret_block ?_
      refine X_ret_then ?_
      exact X_return (.bool false) rfl ⟨by congr 2; first | (apply Eq.symm; simp only [decide_eq_true_eq, decide_eq_false_iff_not]; unfold okV; simp_all <;> omega) | (rw [decide_eq_decide]; unfold okV; simp_all <;> omega), hK0⟩
     ·
      refine OI_eq [(1, pt b1), (49, .bool true)] (by first | rfl | rw [hg19]) ?_
      refine OI_static 5 [(49, .bool true), (50, .pointer (some ⟨b1, 2, none⟩))] (by kernel_rfl) ?_
      refine OI_cell 3 (.tmp 50) 2 (nt x.level) (some 51) (by kernel_rfl) (by kernel_rfl) hb1 (m := 1) (by kernel_rfl) rfl ?_
      refine OI_static 9 [(2, .bool (decide (x.level = 0)))] (by kernel_rfl) ?_
      refine OI_end rfl ?_
      refine X_then ?_
      refine V_ret ?_
      refine X_ret_block ?_
      refine X_ret_then ?_
      exact X_return (.bool (decide (x.level = 0))) rfl ⟨by congr 2; first | (apply Eq.symm; simp only [decide_eq_true_eq, decide_eq_false_iff_not]; unfold okV; simp_all <;> omega) | (rw [decide_eq_decide]; unfold okV; simp_all <;> omega), hK0⟩
    ·
     refine V_skip ?_
     refine X_block ?_
     refine X_then ?_
     refine V_seq ?_
     refine V_region ?_
     refine OI_static 1 [(2, .bool false)] (by kernel_rfl) ?_
     refine OI_end rfl ?_
     refine X_then ?_
     refine V_ret ?_
     exact X_return (.bool false) rfl ⟨by congr 2; first | (apply Eq.symm; simp only [decide_eq_true_eq, decide_eq_false_iff_not]; unfold okV; simp_all <;> omega) | (rw [decide_eq_decide]; unfold okV; simp_all <;> omega), hK0⟩

set_option maxRecDepth 10000 in
theorem cvCapital_spec (x : Vt) (w : World) : Calls Try.prog 28 #[.agg x.cells.toArray] w fun e w' => e = .returned (.int .i64 (capI x)) ∧ Keep none_ w w' := by
 have hK0 : Keep none_ w w := Keep.refl _ _
 have hzhK0 := Keep.size hK0
 refine enterV Try.func28 rfl [.agg (Vt.cells x).toArray] 11 rfl rfl rfl ?_
 refine V_pick [(0, .agg (Vt.cells x).toArray)] rfl ?_
 refine V_seq ?_
 refine V_region ?_
 refine OI_box 26 (.tmp 0) (.agg (Vt.cells x).toArray) (Vt.cells x) (some 1) (by kernel_rfl) (by kernel_rfl) rfl ?_
 intro b1 w1 e1 hb1 k1 z1
 have hsz2 := Keep.size k1
 replace hK0 := Keep.tr hK0 (Keep.ofNone k1)
 have hb1lt := hb1.lt
 refine OI_static 2 [(1, pt b1)] (by kernel_rfl) ?_
 refine OI_end rfl ?_
 refine X_then ?_
 refine V_seq ?_
 refine V_region ?_
 refine OI_static 1 [(1, pt b1), (3, .pointer (some ⟨b1, 3, none⟩))] (by kernel_rfl) ?_
 refine OI_cell 3 (.tmp 3) 3 (nt x.a) (some 4) (by kernel_rfl) (by kernel_rfl) hb1 (m := 1) (by kernel_rfl) rfl ?_
 refine OI_static 3 [(1, pt b1), (4, nt x.a), (5, .pointer (some ⟨b1, 4, none⟩))] (by kernel_rfl) ?_
 refine OI_cell 3 (.tmp 5) 4 (nt x.n) (some 6) (by kernel_rfl) (by kernel_rfl) hb1 (m := 1) (by kernel_rfl) rfl ?_
 refine OI_static 6 [(7, nt (IntKind.i64.wrap (x.a + x.n))), (8, .pointer (some ⟨b1, 5, none⟩))] (by kernel_rfl) ?_
 refine OI_cell 3 (.tmp 8) 5 (nt x.s) (some 9) (by kernel_rfl) (by kernel_rfl) hb1 (m := 1) (by kernel_rfl) rfl ?_
 refine OI_static 9 [(2, nt (IntKind.i64.wrap ((IntKind.i64.wrap (x.a + x.n)) + x.s)))] (by kernel_rfl) ?_
 refine OI_end rfl ?_
 refine X_then ?_
 refine V_ret ?_
 exact X_return (nt (IntKind.i64.wrap ((IntKind.i64.wrap (x.a + x.n)) + x.s))) rfl ⟨rfl, hK0⟩

set_option maxRecDepth 10000 in
theorem cvVotes_spec (n level : Int) (w : World) : Calls Try.prog 38 #[.int .i64 n, .int .i64 level] w fun e w' => e = .returned (.int .i64 (cvVotes n level)) ∧ w' = w := by
 refine enterV Try.func38 rfl [nt n, nt level] 12 rfl rfl rfl ?_
 refine V_pick [(0, nt n), (1, nt level)] rfl ?_
 refine V_seq ?_
 refine V_region ?_
 refine OI_static 1 [(0, nt n), (1, nt level)] (by kernel_rfl) ?_
 refine OI_end rfl ?_
 refine X_then ?_
 refine V_seq ?_
 refine V_seq ?_
 refine V_region ?_
 refine OI_static 2 [(0, nt n), (1, nt level), (6, .bool (decide (level = 0)))] (by kernel_rfl) ?_
 refine OI_end rfl ?_
 refine X_then ?_
 refine V_if (level = 0) (by kernel_rfl) (fun hc1 => ?_) (fun hc1 => ?_)
 ·
  refine V_seq ?_
  refine V_region ?_
  refine OI_static 3 [(4, nt (IntKind.i64.wrap (Int.tdiv n 10)))] (by kernel_rfl) ?_
  refine OI_end rfl ?_
  refine X_then ?_
  refine V_ret ?_
  refine X_ret_then ?_
  exact X_return (nt (IntKind.i64.wrap (Int.tdiv n 10))) rfl ⟨by unfold cvVotes; simp [*], rfl⟩
 ·
  refine V_skip ?_
  refine X_then ?_
  refine V_seq ?_
  refine V_region ?_
  refine OI_static 4 [(4, nt (IntKind.i64.wrap (n * level)))] (by kernel_rfl) ?_
  refine OI_end rfl ?_
  refine X_then ?_
  refine V_ret ?_
  exact X_return (nt (IntKind.i64.wrap (n * level))) rfl ⟨by unfold cvVotes; simp [*], rfl⟩

set_option maxRecDepth 10000 in
theorem cvGain_spec (x : Vt) (g : Wgt) (w : World) : Calls Try.prog 32 #[.agg x.cells.toArray, .agg g.cells.toArray] w fun e w' => e = .returned (.agg (gainT x g).cells.toArray) ∧ Keep none_ w w' := by
 have hK0 : Keep none_ w w := Keep.refl _ _
 have hzhK0 := Keep.size hK0
 refine enterM Try.func32 rfl [.agg (Vt.cells x).toArray, .agg (Wgt.cells g).toArray] 40 rfl rfl rfl ?_
 refine V_pick [(0, .agg (Vt.cells x).toArray), (1, .agg (Wgt.cells g).toArray)] rfl ?_
 refine V_seq ?_
 refine V_region ?_
 refine OI_box 26 (.tmp 0) (.agg (Vt.cells x).toArray) (Vt.cells x) (some 2) (by kernel_rfl) (by kernel_rfl) rfl ?_
 intro b1 w1 e1 hb1 k1 z1
 have hsz2 := Keep.size k1
 replace hK0 := Keep.tr hK0 (Keep.ofNone k1)
 have hb1lt := hb1.lt
 refine OI_box 74 (.tmp 1) (.agg (Wgt.cells g).toArray) (Wgt.cells g) (some 3) (by kernel_rfl) (by kernel_rfl) rfl ?_
 intro b3 w3 e3 hb3 k3 z3
 have hsz4 := Keep.size k3
 replace hb1 := hb1.keep k3 (fun f => f)
 replace hK0 := Keep.tr hK0 (Keep.ofNone k3)
 have hb3lt := hb3.lt
 refine OI_alloc 43 (.agg #[nt 0, nt 0, nt 0]) [nt 0, nt 0, nt 0] (some 4) (by kernel_rfl) (by kernel_rfl) (by kernel_rfl) ?_
 intro b5 w5 e5 hb5 k5 z5
 have hsz6 := Keep.size k5
 replace hb1 := hb1.keep k5 (fun f => f)
 replace hb3 := hb3.keep k5 (fun f => f)
 replace hK0 := Keep.tr hK0 (Keep.ofNone k5)
 have hb5lt := hb5.lt
 refine OI_end rfl ?_
 refine X_then ?_
 refine V_seq ?_
 refine V_seq ?_
 refine V_region ?_
 refine OI_static 1 [(2, pt b1), (3, pt b3), (4, pt b5), (6, pt b1)] (by kernel_rfl) ?_
 refine OI_cell 3 (.tmp 6) 0 (nt x.kind) (some 7) (by kernel_rfl) (by kernel_rfl) hb1 (m := 1) (by kernel_rfl) rfl ?_
 refine OI_static 3 [(2, pt b1), (3, pt b3), (4, pt b5), (8, .bool (!(decide (x.kind = 1))))] (by kernel_rfl) ?_
 refine OI_end rfl ?_
 refine X_then ?_
 refine V_not (x.kind = 1) (by kernel_rfl) (fun hc7 => ?_) (fun hc7 => ?_)
 ·
  refine V_seq ?_
  refine V_draws (acts [2, 5, 12]) none_ [[0, 1, 2, 3, 4, 5, 6, 7, 8, 9, 10, 11, 12]] (by kernel_rfl) (by repeat first | exact (by first | exact sure_postM | exact sure_rQ2 | exact sure_no) | refine sure_then ?_ | refine sure_block ?_ | refine sure_join ?_) (by kernel_rfl) ?_
  intro w9 hk8 he10 L hL11
  have hsz12 := Keep.size hk8
  replace hb1 := hb1.keep hk8 (fun f => f)
  replace hb3 := hb3.keep hk8 (fun f => f)
  replace hb5 := hb5.keep hk8 (fun f => f)
  replace hK0 := Keep.tr hK0 (Keep.ofNone hk8)
  have qhb1 := hb1
  have qhb3 := hb3
  have qhb5 := hb5
  have K13 : Keep none_ w9 w9 := Keep.refl _ _
  obtain rfl := List.mem_singleton.1 hL11
  refine GI_static [1, 2, 3, 4, 5, 6, 7, 8, 9, 10, 11, 12] [(2, pt b1), (4, pt b5), (9, .pointer (some ⟨b1, 3, none⟩))] (by kernel_rfl) ?_
  refine GI_cell 3 (.tmp 9) 3 (nt x.a) (some 10) (by kernel_rfl) (by kernel_rfl) (by kernel_rfl) qhb1 (fun f => f) (m := 1) (by kernel_rfl) rfl ?_
  refine GI_call { callee := (Callee.value (Operand.func 38)), args := #[(Operand.tmp 10), (Operand.const (Value.int IntKind.i64 0))], argTypes := #[3, 3] } 38 #[nt x.a, nt 0] (some 11) (by kernel_rfl) (by kernel_rfl) (by kernel_rfl) (by kernel_rfl) (cvVotes_spec x.a 0 _) ?_
  rintro _ w9 ⟨rfl, rfl⟩
  refine ⟨_, rfl, K13, ?_⟩
  refine GI_static [4, 5, 6, 7, 8, 9, 10, 11, 12] [(2, pt b1), (4, pt b5), (11, nt (cvVotes x.a 0)), (12, .pointer (some ⟨b1, 4, none⟩))] (by kernel_rfl) ?_
  refine GI_cell 3 (.tmp 12) 4 (nt x.n) (some 13) (by kernel_rfl) (by kernel_rfl) (by kernel_rfl) qhb1 (fun f => f) (m := 1) (by kernel_rfl) rfl ?_
  refine GI_call { callee := (Callee.value (Operand.func 38)), args := #[(Operand.tmp 13), (Operand.const (Value.int IntKind.i64 0))], argTypes := #[3, 3] } 38 #[nt x.n, nt 0] (some 14) (by kernel_rfl) (by kernel_rfl) (by kernel_rfl) (by kernel_rfl) (cvVotes_spec x.n 0 _) ?_
  rintro _ w9 ⟨rfl, rfl⟩
  refine ⟨_, rfl, K13, ?_⟩
  refine GI_static [7, 8, 9, 10, 11, 12] [(2, pt b1), (4, pt b5), (11, nt (cvVotes x.a 0)), (14, nt (cvVotes x.n 0)), (15, .pointer (some ⟨b1, 3, none⟩))] (by kernel_rfl) ?_
  refine GI_cell 3 (.tmp 15) 3 (nt x.a) (some 16) (by kernel_rfl) (by kernel_rfl) (by kernel_rfl) qhb1 (fun f => f) (m := 1) (by kernel_rfl) rfl ?_
  refine GI_static [9, 10, 11, 12] [(4, pt b5), (11, nt (cvVotes x.a 0)), (14, nt (cvVotes x.n 0)), (16, nt x.a), (17, .pointer (some ⟨b1, 5, none⟩))] (by kernel_rfl) ?_
  refine GI_cell 3 (.tmp 17) 5 (nt x.s) (some 18) (by kernel_rfl) (by kernel_rfl) (by kernel_rfl) qhb1 (fun f => f) (m := 1) (by kernel_rfl) rfl ?_
  refine GI_static [12] [(4, pt b5), (20, .agg #[nt (cvVotes x.a 0), nt (cvVotes x.n 0), nt (IntKind.i64.wrap (x.a + x.s))])] (by kernel_rfl) ?_
  refine GI_final 12 (by kernel_rfl) (by kernel_rfl) ?_
  refine OI_set (m := 3) (kd := true) 43 (.tmp 4) (.tmp 20) 0 (.agg #[nt (cvVotes x.a 0), nt (cvVotes x.n 0), nt (IntKind.i64.wrap (x.a + x.s))]) [nt (cvVotes x.a 0), nt (cvVotes x.n 0), nt (IntKind.i64.wrap (x.a + x.s))] none (by kernel_rfl) (by kernel_rfl) (by kernel_rfl) hb5 (by kernel_rfl) (by kernel_rfl) (by kernel_rfl) (Nat.le_of_ble_eq_true (by kernel_rfl)) (by simp [Value.oneCell']) ?_
  intro w20 hb5_23 hk21 hz22
  replace hb5_23 : Blk w20 b5 [nt (cvVotes x.a 0), nt (cvVotes x.n 0), nt (IntKind.i64.wrap (x.a + x.s))] 43 := hb5_23
  have hsz24 := Keep.size hk21
  replace hb1 := hb1.keep hk21 (by show ¬ (_ = _); omega)
  replace hb3 := hb3.keep hk21 (by show ¬ (_ = _); omega)
  replace hK0 := Keep.fresh hK0 hk21 (by intro i hi hs; first | exact hs | exact Or.inl hs | exact Or.inr hs | (exfalso; have hs2 : i = b5 := hs; omega))
  refine OI_end rfl ?_
  refine X_then ?_
  refine V_ret ?_
  refine X_ret_then ?_
  exact leave0 (.agg [nt (cvVotes x.a 0), nt (cvVotes x.n 0), nt (IntKind.i64.wrap (x.a + x.s))].toArray) (.inl rfl) (res_agg1 (m := 3) rfl rfl (by kernel_rfl) hb5_23 rfl) ⟨by unfold gainT; simp_all [Tly.cells], hK0⟩
 ·
  refine V_skip ?_
  refine X_then ?_
  refine V_seq ?_
  refine V_draws (acts [4]) none_ [[0, 1, 2, 3, 4, 5, 6, 7, 8]] (by kernel_rfl) (by repeat first | exact (by first | exact sure_postM | exact sure_rQ2 | exact sure_no) | refine sure_then ?_ | refine sure_block ?_ | refine sure_join ?_) (by kernel_rfl) ?_
  intro w26 hk25 he27 L hL28
  have hsz29 := Keep.size hk25
  replace hb1 := hb1.keep hk25 (fun f => f)
  replace hb3 := hb3.keep hk25 (fun f => f)
  replace hb5 := hb5.keep hk25 (fun f => f)
  replace hK0 := Keep.tr hK0 (Keep.ofNone hk25)
  have qhb1 := hb1
  have qhb3 := hb3
  have qhb5 := hb5
  have K30 : Keep none_ w26 w26 := Keep.refl _ _
  obtain rfl := List.mem_singleton.1 hL28
  refine GI_static [1, 2, 3, 4, 5, 6, 7, 8] [(2, pt b1), (3, pt b3), (4, pt b5), (21, .pointer (some ⟨b1, 3, none⟩))] (by kernel_rfl) ?_
  refine GI_cell 3 (.tmp 21) 3 (nt x.a) (some 22) (by kernel_rfl) (by kernel_rfl) (by kernel_rfl) qhb1 (fun f => f) (m := 1) (by kernel_rfl) rfl ?_
  refine GI_static [3, 4, 5, 6, 7, 8] [(2, pt b1), (3, pt b3), (4, pt b5), (22, nt x.a), (23, .pointer (some ⟨b1, 2, none⟩))] (by kernel_rfl) ?_
  refine GI_cell 3 (.tmp 23) 2 (nt x.level) (some 24) (by kernel_rfl) (by kernel_rfl) (by kernel_rfl) qhb1 (fun f => f) (m := 1) (by kernel_rfl) rfl ?_
  refine GI_call { callee := (Callee.value (Operand.func 38)), args := #[(Operand.tmp 22), (Operand.tmp 24)], argTypes := #[3, 3] } 38 #[nt x.a, nt x.level] (some 25) (by kernel_rfl) (by kernel_rfl) (by kernel_rfl) (by kernel_rfl) (cvVotes_spec x.a x.level _) ?_
  rintro _ w26 ⟨rfl, rfl⟩
  refine ⟨_, rfl, K30, ?_⟩
  refine GI_static [6, 7, 8] [(2, pt b1), (3, pt b3), (4, pt b5), (25, nt (cvVotes x.a x.level)), (26, pt b3)] (by kernel_rfl) ?_
  refine GI_cell 3 (.tmp 26) 0 (nt g.v) (some 27) (by kernel_rfl) (by kernel_rfl) (by kernel_rfl) qhb3 (fun f => f) (m := 1) (by kernel_rfl) rfl ?_
  refine GI_static [] [(2, pt b1), (3, pt b3), (4, pt b5), (5, nt (IntKind.i64.wrap ((cvVotes x.a x.level) + g.v)))] (by kernel_rfl) ?_
  refine GI_end ?_
  refine X_then ?_
  refine V_seq ?_
  refine V_seq ?_
  refine V_region ?_
  refine OI_static 1 [(2, pt b1), (3, pt b3), (4, pt b5), (5, nt (IntKind.i64.wrap ((cvVotes x.a x.level) + g.v))), (29, .pointer (some ⟨b1, 1, none⟩))] (by kernel_rfl) ?_
  refine OI_cell 4 (.tmp 29) 1 (.bool x.aye) (some 30) (by kernel_rfl) (by kernel_rfl) hb1 (m := 1) (by kernel_rfl) rfl ?_
  refine OI_end rfl ?_
  refine X_then ?_
  refine V_ifb (x.aye) (by kernel_rfl) (fun hc34 => ?_) (fun hc34 => ?_)
  ·
   refine V_seq ?_
   refine V_region ?_
   refine OI_static 2 [(3, pt b3), (4, pt b5), (31, nt (IntKind.i64.wrap ((cvVotes x.a x.level) + g.v))), (32, .pointer (some ⟨b1, 3, none⟩))] (by kernel_rfl) ?_
   refine OI_cell 3 (.tmp 32) 3 (nt x.a) (some 33) (by kernel_rfl) (by kernel_rfl) hb1 (m := 1) (by kernel_rfl) rfl ?_
   refine OI_static 4 [(4, pt b5), (31, nt (IntKind.i64.wrap ((cvVotes x.a x.level) + g.v))), (33, nt x.a), (34, .pointer (some ⟨b3, 1, none⟩))] (by kernel_rfl) ?_
   refine OI_cell 3 (.tmp 34) 1 (nt g.c) (some 35) (by kernel_rfl) (by kernel_rfl) hb3 (m := 1) (by kernel_rfl) rfl ?_
   refine OI_static 7 [(4, pt b5), (37, .agg #[nt (IntKind.i64.wrap ((cvVotes x.a x.level) + g.v)), nt 0, nt (IntKind.i64.wrap (x.a + g.c))])] (by kernel_rfl) ?_
   refine OI_set (m := 3) (kd := true) 43 (.tmp 4) (.tmp 37) 0 (.agg #[nt (IntKind.i64.wrap ((cvVotes x.a x.level) + g.v)), nt 0, nt (IntKind.i64.wrap (x.a + g.c))]) [nt (IntKind.i64.wrap ((cvVotes x.a x.level) + g.v)), nt 0, nt (IntKind.i64.wrap (x.a + g.c))] none (by kernel_rfl) (by kernel_rfl) (by kernel_rfl) hb5 (by kernel_rfl) (by kernel_rfl) (by kernel_rfl) (Nat.le_of_ble_eq_true (by kernel_rfl)) (by simp [Value.oneCell']) ?_
   intro w35 hb5_38 hk36 hz37
   replace hb5_38 : Blk w35 b5 [nt (IntKind.i64.wrap ((cvVotes x.a x.level) + g.v)), nt 0, nt (IntKind.i64.wrap (x.a + g.c))] 43 := hb5_38
   have hsz39 := Keep.size hk36
   replace hb1 := hb1.keep hk36 (by show ¬ (_ = _); omega)
   replace hb3 := hb3.keep hk36 (by show ¬ (_ = _); omega)
   replace hK0 := Keep.fresh hK0 hk36 (by intro i hi hs; first | exact hs | exact Or.inl hs | exact Or.inr hs | (exfalso; have hs2 : i = b5 := hs; omega))
   refine OI_end rfl ?_
   refine X_then ?_
   refine V_ret ?_
   refine X_ret_then ?_
   exact leave0 (.agg [nt (IntKind.i64.wrap ((cvVotes x.a x.level) + g.v)), nt 0, nt (IntKind.i64.wrap (x.a + g.c))].toArray) (.inl rfl) (res_agg1 (m := 3) rfl rfl (by kernel_rfl) hb5_38 rfl) ⟨by unfold gainT; simp_all [Tly.cells], hK0⟩
  ·
   refine V_skip ?_
   refine X_then ?_
   refine V_seq ?_
   refine V_region ?_
   refine OI_static 2 [(4, pt b5), (39, .agg #[nt 0, nt (IntKind.i64.wrap ((cvVotes x.a x.level) + g.v)), nt 0])] (by kernel_rfl) ?_
   refine OI_set (m := 3) (kd := true) 43 (.tmp 4) (.tmp 39) 0 (.agg #[nt 0, nt (IntKind.i64.wrap ((cvVotes x.a x.level) + g.v)), nt 0]) [nt 0, nt (IntKind.i64.wrap ((cvVotes x.a x.level) + g.v)), nt 0] none (by kernel_rfl) (by kernel_rfl) (by kernel_rfl) hb5 (by kernel_rfl) (by kernel_rfl) (by kernel_rfl) (Nat.le_of_ble_eq_true (by kernel_rfl)) (by simp [Value.oneCell']) ?_
   intro w40 hb5_43 hk41 hz42
   replace hb5_43 : Blk w40 b5 [nt 0, nt (IntKind.i64.wrap ((cvVotes x.a x.level) + g.v)), nt 0] 43 := hb5_43
   have hsz44 := Keep.size hk41
   replace hb1 := hb1.keep hk41 (by show ¬ (_ = _); omega)
   replace hb3 := hb3.keep hk41 (by show ¬ (_ = _); omega)
   replace hK0 := Keep.fresh hK0 hk41 (by intro i hi hs; first | exact hs | exact Or.inl hs | exact Or.inr hs | (exfalso; have hs2 : i = b5 := hs; omega))
   refine OI_end rfl ?_
   refine X_then ?_
   refine V_ret ?_
   exact leave0 (.agg [nt 0, nt (IntKind.i64.wrap ((cvVotes x.a x.level) + g.v)), nt 0].toArray) (.inl rfl) (res_agg1 (m := 3) rfl rfl (by kernel_rfl) hb5_43 rfl) ⟨by unfold gainT; simp_all [Tly.cells], hK0⟩

set_option maxRecDepth 10000 in
theorem cvAdd_spec (A : Option Addr) (cap : Nat) (t : Tly) (xs : List Tly) (w : World) (hA : SlT w 3 Tly.cells A cap xs) (hn : xs.length ≤ 1000) : Calls Try.prog 33 #[.agg t.cells.toArray, .slice A xs.length cap] w fun e w' => e = .returned (.agg (addL t xs).cells.toArray) ∧ Keep none_ w w' := by
 have hAlt := SlT.lt hA
 have hK0 : Keep none_ w w := Keep.refl _ _
 have hzhK0 := Keep.size hK0
 refine enterM Try.func33 rfl [.agg (Tly.cells t).toArray, .slice A xs.length cap] 33 rfl rfl rfl ?_
 refine V_pick [(0, .agg (Tly.cells t).toArray), (1, .slice A xs.length cap)] rfl ?_
 refine V_seq ?_
 refine V_region ?_
 refine OI_box 43 (.tmp 0) (.agg (Tly.cells t).toArray) (Tly.cells t) (some 2) (by kernel_rfl) (by kernel_rfl) rfl ?_
 intro b1 w1 e1 hb1 k1 z1
 have hsz2 := Keep.size k1
 replace hA := SlT.keep0 hA k1
 replace hK0 := Keep.tr hK0 (Keep.ofNone k1)
 have hb1lt := hb1.lt
 refine OI_alloc 43 (.agg #[nt 0, nt 0, nt 0]) [nt 0, nt 0, nt 0] (some 4) (by kernel_rfl) (by kernel_rfl) (by kernel_rfl) ?_
 intro b3 w3 e3 hb3 k3 z3
 have hsz4 := Keep.size k3
 replace hb1 := hb1.keep k3 (fun f => f)
 replace hA := SlT.keep0 hA k3
 replace hK0 := Keep.tr hK0 (Keep.ofNone k3)
 have hb3lt := hb3.lt
 refine OI_end rfl ?_
 refine X_then ?_
 refine V_seq ?_
 refine V_seq ?_
 refine V_region ?_
 refine OI_static 3 [(2, pt b1), (4, pt b3), (7, .slice A xs.length cap), (8, nt ((xs.length : Nat) : Int)), (9, nt 0)] (by kernel_rfl) ?_
 refine OI_end rfl ?_
 refine X_then ?_
 refine V_block ?_
 refine V_pick [(2, pt b1), (4, pt b3), (7, .slice A xs.length cap), (8, nt ((xs.length : Nat) : Int)), (9, nt 0)] rfl ?_
 refine V_loop (fun k wI e => ∃ i : Nat, (k + i = xs.length) ∧ (Blk wI b1 [nt ((addL t (xs.take i)).a), nt ((addL t (xs.take i)).n), nt ((addL t (xs.take i)).s)] 43) ∧ Keep (only b1) w3 wI ∧ e = [(2, pt b1), (4, pt b3), (7, .slice A xs.length cap), (8, nt ((xs.length : Nat) : Int)), (9, nt ((i : Nat) : Int))]) xs.length ⟨0, by omega, hb1, Keep.refl _ _, rfl⟩ ?_
 rintro k6 w5 _ ⟨i, hki, hb2, hk7, rfl⟩
 have hsz8 := Keep.size hk7
 replace hb3 := hb3.keep hk7 (by show ¬ (_ = _); omega)
 replace hA := SlT.keep hA hk7 (fun q hq hs => by have hs : q = b1 := hs; have g1 := hAlt q hq; omega)
 replace hK0 := Keep.fresh hK0 hk7 (by intro i hi hs; first | exact hs | exact Or.inl hs | exact Or.inr hs | (exfalso; have hs2 : i = b1 := hs; omega))
 have hzhk7 := Keep.size hk7
 have hb1lt := hb2.lt
 refine V_seq ?_
 refine V_region ?_
 refine OI_static 1 [(2, pt b1), (4, pt b3), (7, .slice A xs.length cap), (8, nt ((xs.length : Nat) : Int)), (9, nt ((i : Nat) : Int)), (10, .bool (decide (((i : Nat) : Int) < ((xs.length : Nat) : Int))))] (by kernel_rfl) ?_
 refine OI_end rfl ?_
 refine X_then ?_
 refine V_seq ?_
 refine V_if (((i : Nat) : Int) < ((xs.length : Nat) : Int)) (by kernel_rfl) (fun hc9 => ?_) (fun hc9 => ?_)
 ·
  refine V_skip ?_
  refine X_then ?_
  refine V_seq ?_
  refine V_block ?_
  refine V_seq ?_
  refine V_region ?_
  obtain ⟨b10, o10, L10, T10, rfl, hat10⟩ := SlT.open_ hA (by first | omega | (simp only [List.length_map]; omega) | (simp; done) | (simp; omega))
  have hb10lt := hat10.blk.lt
  have hob11 := hAlt b10 ⟨_, rfl, rfl⟩
  refine OI_pure (some 11) (.indexAddr 129 (.tmp 7) (.tmp 9)) (by kernel_rfl) (pure_idxN (b := b10) (o := o10) (len := xs.length) (cap := cap) (kd := .i64) (j := i) (E := 43) (sz := 3) (by_ := 24) (by kernel_rfl) (by kernel_rfl) (by kernel_rfl) (by omega)) ?_
  obtain ⟨x12, hx13⟩ : ∃ x, xs[i]? = some x := ⟨_, List.getElem?_eq_getElem (by first | omega | (simp only [List.length_map]; omega))⟩
  refine OI_agg 43 (.tmp 11) (o10 + i * 3) (Tly.cells x12) (some 12) (by kernel_rfl) (by kernel_rfl) hat10.blk (m := 3) (by kernel_rfl) (At.elem' hat10 (es_at hx13)) (At.len hat10 (es_at hx13)) ?_
  refine OI_alloc 43 (.agg #[nt 0, nt 0, nt 0]) [nt 0, nt 0, nt 0] (some 6) (by kernel_rfl) (by kernel_rfl) (by kernel_rfl) ?_
  intro b14 w14 e14 hb14 k14 z14
  have hsz15 := Keep.size k14
  replace hb2 := hb2.keep k14 (fun f => f)
  replace hb3 := hb3.keep k14 (fun f => f)
  replace hat10 := hat10.keep k14 (fun f => f)
  replace hK0 := Keep.tr hK0 (Keep.ofNone k14)
  replace hk7 := Keep.tr hk7 (Keep.ofNone k14)
  have hb14lt := hb14.lt
  refine OI_set (m := 3) (kd := true) 43 (.tmp 6) (.tmp 12) 0 (.agg (Tly.cells x12).toArray) (Tly.cells x12) none (by kernel_rfl) (by kernel_rfl) (by kernel_rfl) hb14 (by kernel_rfl) rfl (Tly.len _) (Nat.le_of_ble_eq_true (by kernel_rfl)) (Tly.one _) ?_
  intro w16 hb14_19 hk17 hz18
  replace hb14_19 : Blk w16 b14 (Tly.cells x12) 43 := (by rwa [over_whole (by rw [Tly.len]; rfl)] at hb14_19)
  have hsz20 := Keep.size hk17
  replace hb2 := hb2.keep hk17 (by show ¬ (_ = _); omega)
  replace hb3 := hb3.keep hk17 (by show ¬ (_ = _); omega)
  replace hat10 := hat10.keep hk17 (by show ¬ (_ = _); omega)
  replace hK0 := Keep.fresh hK0 hk17 (by intro i hi hs; first | exact hs | exact Or.inl hs | exact Or.inr hs | (exfalso; have hs2 : i = b14 := hs; omega))
  replace hk7 := Keep.fresh hk7 hk17 (by intro i hi hs; first | exact hs | exact Or.inl hs | exact Or.inr hs | (exfalso; have hs2 : i = b14 := hs; omega))
  refine OI_end rfl ?_
  refine X_then ?_
  refine V_seq ?_
  refine V_region ?_
  refine OI_static 1 [(2, pt b1), (4, pt b3), (6, pt b14), (7, .slice (some ⟨b10, o10, none⟩) xs.length cap), (8, nt ((xs.length : Nat) : Int)), (9, nt ((i : Nat) : Int)), (13, pt b1)] (by kernel_rfl) ?_
  refine OI_cell 3 (.tmp 13) 0 (nt ((addL t (xs.take i)).a)) (some 14) (by kernel_rfl) (by kernel_rfl) hb2 (m := 1) (by kernel_rfl) rfl ?_
  refine OI_static 3 [(2, pt b1), (4, pt b3), (6, pt b14), (7, .slice (some ⟨b10, o10, none⟩) xs.length cap), (8, nt ((xs.length : Nat) : Int)), (9, nt ((i : Nat) : Int)), (14, nt ((addL t (xs.take i)).a)), (15, pt b14)] (by kernel_rfl) ?_
  refine OI_cell 3 (.tmp 15) 0 (nt x12.a) (some 16) (by kernel_rfl) (by kernel_rfl) hb14_19 (m := 1) (by kernel_rfl) rfl ?_
  refine OI_static 6 [(2, pt b1), (4, pt b3), (6, pt b14), (7, .slice (some ⟨b10, o10, none⟩) xs.length cap), (8, nt ((xs.length : Nat) : Int)), (9, nt ((i : Nat) : Int)), (17, nt (IntKind.i64.wrap (((addL t (xs.take i)).a) + x12.a))), (18, pt b1)] (by kernel_rfl) ?_
  refine OI_set (m := 1) (kd := false) 3 (.tmp 18) (.tmp 17) 0 (nt (IntKind.i64.wrap (((addL t (xs.take i)).a) + x12.a))) [nt (IntKind.i64.wrap (((addL t (xs.take i)).a) + x12.a))] none (by kernel_rfl) (by kernel_rfl) (by kernel_rfl) hb2 (by kernel_rfl) (by kernel_rfl) (by kernel_rfl) (Nat.le_of_ble_eq_true (by kernel_rfl)) (by simp [Value.oneCell']) ?_
  intro w21 hb1_24 hk22 hz23
  replace hb1_24 : Blk w21 b1 [nt (IntKind.i64.wrap (((addL t (xs.take i)).a) + x12.a)), nt ((addL t (xs.take i)).n), nt ((addL t (xs.take i)).s)] 43 := hb1_24
  have hsz25 := Keep.size hk22
  replace hb3 := hb3.keep hk22 (by show ¬ (_ = _); omega)
  replace hb14_19 := hb14_19.keep hk22 (by show ¬ (_ = _); omega)
  replace hat10 := hat10.keep hk22 (by show ¬ (_ = _); omega)
  replace hK0 := Keep.fresh hK0 hk22 (by intro i hi hs; first | exact hs | exact Or.inl hs | exact Or.inr hs | (exfalso; have hs2 : i = b1 := hs; omega))
  replace hk7 := Keep.fresh hk7 hk22 (by intro i hi hs; first | exact hs | exact Or.inl hs | exact Or.inr hs | (exfalso; have hs2 : i = b1 := hs; omega))
  refine OI_end rfl ?_
  refine X_then ?_
  refine V_seq ?_
  refine V_region ?_
  refine OI_static 1 [(2, pt b1), (4, pt b3), (6, pt b14), (7, .slice (some ⟨b10, o10, none⟩) xs.length cap), (8, nt ((xs.length : Nat) : Int)), (9, nt ((i : Nat) : Int)), (19, .pointer (some ⟨b1, 1, none⟩))] (by kernel_rfl) ?_
  refine OI_cell 3 (.tmp 19) 1 (nt ((addL t (xs.take i)).n)) (some 20) (by kernel_rfl) (by kernel_rfl) hb1_24 (m := 1) (by kernel_rfl) rfl ?_
  refine OI_static 3 [(2, pt b1), (4, pt b3), (6, pt b14), (7, .slice (some ⟨b10, o10, none⟩) xs.length cap), (8, nt ((xs.length : Nat) : Int)), (9, nt ((i : Nat) : Int)), (20, nt ((addL t (xs.take i)).n)), (21, .pointer (some ⟨b14, 1, none⟩))] (by kernel_rfl) ?_
  refine OI_cell 3 (.tmp 21) 1 (nt x12.n) (some 22) (by kernel_rfl) (by kernel_rfl) hb14_19 (m := 1) (by kernel_rfl) rfl ?_
  refine OI_static 6 [(2, pt b1), (4, pt b3), (6, pt b14), (7, .slice (some ⟨b10, o10, none⟩) xs.length cap), (8, nt ((xs.length : Nat) : Int)), (9, nt ((i : Nat) : Int)), (23, nt (IntKind.i64.wrap (((addL t (xs.take i)).n) + x12.n))), (24, .pointer (some ⟨b1, 1, none⟩))] (by kernel_rfl) ?_
  refine OI_set (m := 1) (kd := false) 3 (.tmp 24) (.tmp 23) 1 (nt (IntKind.i64.wrap (((addL t (xs.take i)).n) + x12.n))) [nt (IntKind.i64.wrap (((addL t (xs.take i)).n) + x12.n))] none (by kernel_rfl) (by kernel_rfl) (by kernel_rfl) hb1_24 (by kernel_rfl) (by kernel_rfl) (by kernel_rfl) (Nat.le_of_ble_eq_true (by kernel_rfl)) (by simp [Value.oneCell']) ?_
  intro w26 hb1_29 hk27 hz28
  replace hb1_29 : Blk w26 b1 [nt (IntKind.i64.wrap (((addL t (xs.take i)).a) + x12.a)), nt (IntKind.i64.wrap (((addL t (xs.take i)).n) + x12.n)), nt ((addL t (xs.take i)).s)] 43 := hb1_29
  have hsz30 := Keep.size hk27
  replace hb3 := hb3.keep hk27 (by show ¬ (_ = _); omega)
  replace hb14_19 := hb14_19.keep hk27 (by show ¬ (_ = _); omega)
  replace hat10 := hat10.keep hk27 (by show ¬ (_ = _); omega)
  replace hK0 := Keep.fresh hK0 hk27 (by intro i hi hs; first | exact hs | exact Or.inl hs | exact Or.inr hs | (exfalso; have hs2 : i = b1 := hs; omega))
  replace hk7 := Keep.fresh hk7 hk27 (by intro i hi hs; first | exact hs | exact Or.inl hs | exact Or.inr hs | (exfalso; have hs2 : i = b1 := hs; omega))
  refine OI_end rfl ?_
  refine X_then ?_
  refine V_region ?_
  refine OI_static 1 [(2, pt b1), (4, pt b3), (6, pt b14), (7, .slice (some ⟨b10, o10, none⟩) xs.length cap), (8, nt ((xs.length : Nat) : Int)), (9, nt ((i : Nat) : Int)), (25, .pointer (some ⟨b1, 2, none⟩))] (by kernel_rfl) ?_
  refine OI_cell 3 (.tmp 25) 2 (nt ((addL t (xs.take i)).s)) (some 26) (by kernel_rfl) (by kernel_rfl) hb1_29 (m := 1) (by kernel_rfl) rfl ?_
  refine OI_static 3 [(2, pt b1), (4, pt b3), (7, .slice (some ⟨b10, o10, none⟩) xs.length cap), (8, nt ((xs.length : Nat) : Int)), (9, nt ((i : Nat) : Int)), (26, nt ((addL t (xs.take i)).s)), (27, .pointer (some ⟨b14, 2, none⟩))] (by kernel_rfl) ?_
  refine OI_cell 3 (.tmp 27) 2 (nt x12.s) (some 28) (by kernel_rfl) (by kernel_rfl) hb14_19 (m := 1) (by kernel_rfl) rfl ?_
  refine OI_static 6 [(2, pt b1), (4, pt b3), (7, .slice (some ⟨b10, o10, none⟩) xs.length cap), (8, nt ((xs.length : Nat) : Int)), (9, nt ((i : Nat) : Int)), (29, nt (IntKind.i64.wrap (((addL t (xs.take i)).s) + x12.s))), (30, .pointer (some ⟨b1, 2, none⟩))] (by kernel_rfl) ?_
  refine OI_set (m := 1) (kd := false) 3 (.tmp 30) (.tmp 29) 2 (nt (IntKind.i64.wrap (((addL t (xs.take i)).s) + x12.s))) [nt (IntKind.i64.wrap (((addL t (xs.take i)).s) + x12.s))] none (by kernel_rfl) (by kernel_rfl) (by kernel_rfl) hb1_29 (by kernel_rfl) (by kernel_rfl) (by kernel_rfl) (Nat.le_of_ble_eq_true (by kernel_rfl)) (by simp [Value.oneCell']) ?_
  intro w31 hb1_34 hk32 hz33
  replace hb1_34 : Blk w31 b1 [nt (IntKind.i64.wrap (((addL t (xs.take i)).a) + x12.a)), nt (IntKind.i64.wrap (((addL t (xs.take i)).n) + x12.n)), nt (IntKind.i64.wrap (((addL t (xs.take i)).s) + x12.s))] 43 := hb1_34
  have hsz35 := Keep.size hk32
  replace hb3 := hb3.keep hk32 (by show ¬ (_ = _); omega)
  replace hb14_19 := hb14_19.keep hk32 (by show ¬ (_ = _); omega)
  replace hat10 := hat10.keep hk32 (by show ¬ (_ = _); omega)
  replace hK0 := Keep.fresh hK0 hk32 (by intro i hi hs; first | exact hs | exact Or.inl hs | exact Or.inr hs | (exfalso; have hs2 : i = b1 := hs; omega))
  replace hk7 := Keep.fresh hk7 hk32 (by intro i hi hs; first | exact hs | exact Or.inl hs | exact Or.inr hs | (exfalso; have hs2 : i = b1 := hs; omega))
  refine OI_end rfl ?_
  refine X_block ?_
  refine X_then ?_
  refine V_region ?_
  have hw36 : IntKind.i64.wrap (((i : Nat) : Int) + 1) = ((i + 1 : Nat) : Int) := (wrap64_id (by omega) (by omega)).trans (by omega)
  refine OI_static 1 [(2, pt b1), (4, pt b3), (7, .slice (some ⟨b10, o10, none⟩) xs.length cap), (8, nt ((xs.length : Nat) : Int)), (31, nt (IntKind.i64.wrap (((i : Nat) : Int) + 1)))] (by kernel_rfl) ?_
  refine OI_eq [(2, pt b1), (4, pt b3), (7, .slice (some ⟨b10, o10, none⟩) xs.length cap), (8, nt ((xs.length : Nat) : Int)), (31, nt ((i + 1 : Nat) : Int))] (by rw [hw36]) ?_
  refine OI_static 2 [(2, pt b1), (4, pt b3), (7, .slice (some ⟨b10, o10, none⟩) xs.length cap), (8, nt ((xs.length : Nat) : Int)), (9, nt ((i + 1 : Nat) : Int))] (by kernel_rfl) ?_
  refine OI_end rfl ?_
  exact V_again (k6 - 1) (by omega) [(2, pt b1), (4, pt b3), (7, .slice (some ⟨b10, o10, none⟩) xs.length cap), (8, nt ((xs.length : Nat) : Int)), (9, nt ((i + 1 : Nat) : Int))] rfl ⟨i + 1, by omega, by rw [addL_step hx13]; exact hb1_34, hk7, rfl⟩
 ·
  refine V_exit ?_
  refine X_exit_then ?_
  refine X_exit_then ?_
  refine X_exit_here ?_
  refine X_then ?_
  refine V_seq ?_
  refine V_region ?_
  refine OI_agg 43 (.tmp 2) 0 [nt ((addL t (xs.take i)).a), nt ((addL t (xs.take i)).n), nt ((addL t (xs.take i)).s)] (some 32) (by kernel_rfl) (by kernel_rfl) hb2 (m := 3) (by kernel_rfl) rfl rfl ?_
  refine OI_set (m := 3) (kd := true) 43 (.tmp 4) (.tmp 32) 0 (.agg #[nt ((addL t (xs.take i)).a), nt ((addL t (xs.take i)).n), nt ((addL t (xs.take i)).s)]) [nt ((addL t (xs.take i)).a), nt ((addL t (xs.take i)).n), nt ((addL t (xs.take i)).s)] none (by kernel_rfl) (by kernel_rfl) (by kernel_rfl) hb3 (by kernel_rfl) (by kernel_rfl) (by kernel_rfl) (Nat.le_of_ble_eq_true (by kernel_rfl)) (by simp [Value.oneCell']) ?_
  intro w37 hb3_40 hk38 hz39
  replace hb3_40 : Blk w37 b3 [nt ((addL t (xs.take i)).a), nt ((addL t (xs.take i)).n), nt ((addL t (xs.take i)).s)] 43 := hb3_40
  have hsz41 := Keep.size hk38
  replace hb2 := hb2.keep hk38 (by show ¬ (_ = _); omega)
  replace hA := SlT.keep hA hk38 (fun q hq hs => by have hs : q = b3 := hs; have g1 := hAlt q hq; omega)
  replace hK0 := Keep.fresh hK0 hk38 (by intro i hi hs; first | exact hs | exact Or.inl hs | exact Or.inr hs | (exfalso; have hs2 : i = b3 := hs; omega))
  refine OI_end rfl ?_
  refine X_then ?_
  refine V_ret ?_
  have he : i = xs.length := by omega
  exact leave0 (.agg [nt ((addL t (xs.take i)).a), nt ((addL t (xs.take i)).n), nt ((addL t (xs.take i)).s)].toArray) (.inl rfl) (res_agg1 (m := 3) rfl rfl (by kernel_rfl) hb3_40 rfl) ⟨by rw [he, List.take_length]; rfl, hK0⟩

theorem cvAdd1 (b : Nat) (t g : Tly) (T : TypeId) (w : World) (hb : Blk w b g.cells T) : Calls Try.prog 33 #[.agg t.cells.toArray, .slice (some ⟨b, 0, none⟩) 1 1] w fun e w' => e = .returned (.agg (addT t g).cells.toArray) ∧ Keep none_ w w' := cvAdd_spec _ 1 t [g] w (slt_blk hb (fun _ => rfl) rfl) (by simp)

set_option maxRecDepth 10000 in
theorem cvSub_spec (t g : Tly) (w : World) : Calls Try.prog 31 #[.agg t.cells.toArray, .agg g.cells.toArray] w fun e w' => e = .returned (.agg (subT t g).cells.toArray) ∧ Keep none_ w w' := by
 have hK0 : Keep none_ w w := Keep.refl _ _
 have hzhK0 := Keep.size hK0
 refine enterM Try.func31 rfl [.agg (Tly.cells t).toArray, .agg (Tly.cells g).toArray] 18 rfl rfl rfl ?_
 refine V_pick [(0, .agg (Tly.cells t).toArray), (1, .agg (Tly.cells g).toArray)] rfl ?_
 refine V_seq ?_
 refine V_region ?_
 refine OI_box 43 (.tmp 0) (.agg (Tly.cells t).toArray) (Tly.cells t) (some 2) (by kernel_rfl) (by kernel_rfl) rfl ?_
 intro b1 w1 e1 hb1 k1 z1
 have hsz2 := Keep.size k1
 replace hK0 := Keep.tr hK0 (Keep.ofNone k1)
 have hb1lt := hb1.lt
 refine OI_box 43 (.tmp 1) (.agg (Tly.cells g).toArray) (Tly.cells g) (some 3) (by kernel_rfl) (by kernel_rfl) rfl ?_
 intro b3 w3 e3 hb3 k3 z3
 have hsz4 := Keep.size k3
 replace hb1 := hb1.keep k3 (fun f => f)
 replace hK0 := Keep.tr hK0 (Keep.ofNone k3)
 have hb3lt := hb3.lt
 refine OI_alloc 43 (.agg #[nt 0, nt 0, nt 0]) [nt 0, nt 0, nt 0] (some 4) (by kernel_rfl) (by kernel_rfl) (by kernel_rfl) ?_
 intro b5 w5 e5 hb5 k5 z5
 have hsz6 := Keep.size k5
 replace hb1 := hb1.keep k5 (fun f => f)
 replace hb3 := hb3.keep k5 (fun f => f)
 replace hK0 := Keep.tr hK0 (Keep.ofNone k5)
 have hb5lt := hb5.lt
 refine OI_end rfl ?_
 refine X_then ?_
 refine V_seq ?_
 refine V_region ?_
 refine OI_agg 43 (.tmp 2) 0 (Tly.cells t) (some 5) (by kernel_rfl) (by kernel_rfl) hb1 (m := 3) (by kernel_rfl) (take_all (Tly.len _)) (Tly.len _) ?_
 refine OI_static 2 [(3, pt b3), (4, pt b5), (5, .agg (Tly.cells t).toArray), (6, pt b3)] (by kernel_rfl) ?_
 refine OI_cell 3 (.tmp 6) 0 (nt g.a) (some 7) (by kernel_rfl) (by kernel_rfl) hb3 (m := 1) (by kernel_rfl) rfl ?_
 refine OI_static 5 [(3, pt b3), (4, pt b5), (5, .agg (Tly.cells t).toArray), (8, nt (IntKind.i64.wrap (0 - g.a))), (9, .pointer (some ⟨b3, 1, none⟩))] (by kernel_rfl) ?_
 refine OI_cell 3 (.tmp 9) 1 (nt g.n) (some 10) (by kernel_rfl) (by kernel_rfl) hb3 (m := 1) (by kernel_rfl) rfl ?_
 refine OI_static 8 [(4, pt b5), (5, .agg (Tly.cells t).toArray), (8, nt (IntKind.i64.wrap (0 - g.a))), (11, nt (IntKind.i64.wrap (0 - g.n))), (12, .pointer (some ⟨b3, 2, none⟩))] (by kernel_rfl) ?_
 refine OI_cell 3 (.tmp 12) 2 (nt g.s) (some 13) (by kernel_rfl) (by kernel_rfl) hb3 (m := 1) (by kernel_rfl) rfl ?_
 refine OI_static 11 [(4, pt b5), (5, .agg (Tly.cells t).toArray), (15, .agg #[nt (IntKind.i64.wrap (0 - g.a)), nt (IntKind.i64.wrap (0 - g.n)), nt (IntKind.i64.wrap (0 - g.s))])] (by kernel_rfl) ?_
 refine OI_slit (E := 43) (zv := .agg #[nt 0, nt 0, nt 0]) (sz := 3) (by_ := 24) 129 1 #[(0, (Operand.tmp 15))] [.agg #[nt (IntKind.i64.wrap (0 - g.a)), nt (IntKind.i64.wrap (0 - g.n)), nt (IntKind.i64.wrap (0 - g.s))]] [nt (IntKind.i64.wrap (0 - g.a)), nt (IntKind.i64.wrap (0 - g.n)), nt (IntKind.i64.wrap (0 - g.s))] (some 16) (by kernel_rfl) (by kernel_rfl) (by kernel_rfl) (by omega) rfl (by omega) (by intro v hv; simp only [List.mem_cons, List.not_mem_nil, or_false] at hv; rcases hv with rfl <;> rfl) (by kernel_rfl) rfl ?_
 intro b7 w7 e7 hb7 k7 z7
 have hsz8 := Keep.size k7
 replace hb1 := hb1.keep k7 (fun f => f)
 replace hb3 := hb3.keep k7 (fun f => f)
 replace hb5 := hb5.keep k7 (fun f => f)
 replace hK0 := Keep.tr hK0 (Keep.ofNone k7)
 have hb7lt := hb7.lt
 refine OI_call { callee := (Callee.value (Operand.func 33)), args := #[(Operand.tmp 5), (Operand.tmp 16)], argTypes := #[43, 129] } 33 #[.agg (Tly.cells t).toArray, .slice (some ⟨b7, 0, none⟩) 1 1] (some 17) (by kernel_rfl) (by kernel_rfl) (by kernel_rfl) (cvAdd1 b7 t (Tly.mk (IntKind.i64.wrap (0 - g.a)) (IntKind.i64.wrap (0 - g.n)) (IntKind.i64.wrap (0 - g.s))) _ _ hb7) ?_
 rintro _ w9 ⟨rfl, hk10⟩
 refine ⟨_, rfl, ?_⟩
 have hsz11 := Keep.size hk10
 replace hb1 := hb1.keep hk10 (fun f => f)
 replace hb3 := hb3.keep hk10 (fun f => f)
 replace hb5 := hb5.keep hk10 (fun f => f)
 replace hb7 := hb7.keep hk10 (fun f => f)
 replace hK0 := Keep.tr hK0 (Keep.ofNone hk10)
 refine OI_set (m := 3) (kd := true) 43 (.tmp 4) (.tmp 17) 0 (.agg (Tly.cells (addT t (Tly.mk (IntKind.i64.wrap (0 - g.a)) (IntKind.i64.wrap (0 - g.n)) (IntKind.i64.wrap (0 - g.s))))).toArray) (Tly.cells (addT t (Tly.mk (IntKind.i64.wrap (0 - g.a)) (IntKind.i64.wrap (0 - g.n)) (IntKind.i64.wrap (0 - g.s))))) none (by kernel_rfl) (by kernel_rfl) (by kernel_rfl) hb5 (by kernel_rfl) rfl (Tly.len _) (Nat.le_of_ble_eq_true (by kernel_rfl)) (Tly.one _) ?_
 intro w12 hb5_15 hk13 hz14
 replace hb5_15 : Blk w12 b5 (Tly.cells (addT t (Tly.mk (IntKind.i64.wrap (0 - g.a)) (IntKind.i64.wrap (0 - g.n)) (IntKind.i64.wrap (0 - g.s))))) 43 := (by rwa [over_whole (by rw [Tly.len]; rfl)] at hb5_15)
 have hsz16 := Keep.size hk13
 replace hb1 := hb1.keep hk13 (by show ¬ (_ = _); omega)
 replace hb3 := hb3.keep hk13 (by show ¬ (_ = _); omega)
 replace hb7 := hb7.keep hk13 (by show ¬ (_ = _); omega)
 replace hK0 := Keep.fresh hK0 hk13 (by intro i hi hs; first | exact hs | exact Or.inl hs | exact Or.inr hs | (exfalso; have hs2 : i = b5 := hs; omega))
 refine OI_end rfl ?_
 refine X_then ?_
 refine V_ret ?_
 exact leave0 (.agg (Tly.cells (addT t (Tly.mk (IntKind.i64.wrap (0 - g.a)) (IntKind.i64.wrap (0 - g.n)) (IntKind.i64.wrap (0 - g.s))))).toArray) (.inl rfl) (res_agg1 (m := 3) rfl rfl (by kernel_rfl) hb5_15 rfl) ⟨rfl, hK0⟩
end Go.Al


namespace Go.Al
open Go Go.RowKit Go.Proofs
/-! ### Polls, records -/
theorem Blk.ne {w : World} {a b : Nat} {L L' : List Value} {t t' : TypeId} (h : Blk w a L t) (h' : Blk w b L' t') (ht : t ≠ t') : a ≠ b := fun e => ht (by subst e; exact (h.inj h').2)
structure PollS where
  track : Int
  t : Tly
  state : Int
  stop : Int
def PollS.cells (p : PollS) : List Value := [.int .i64 p.track, .int .i64 p.t.a, .int .i64 p.t.n, .int .i64 p.t.s, .int .i64 p.state, .int .i64 p.stop]
structure DelS where
  to : Int
  level : Int
  n : Int
def DelS.cells (d : DelS) : List Value := [.int .i64 d.to, .int .i64 d.level, .int .i64 d.n]
structure RecS where
  d : Option DelS
  got : Wgt
  till : Int
  n : Int
def RecS.zero : RecS := ⟨none, ⟨0, 0⟩, 0, 0⟩
def RecS.cells (dp : Option Addr) (r : RecS) : List Value := [.pointer dp, .int .i64 r.got.v, .int .i64 r.got.c, .int .i64 r.till, .int .i64 r.n]
structure VS where
  ps : List (Option PollS)
  cs : List GV.Ci
  rc : Int → Int → RecS
structure VP where
  gv : Nat
  gr : Nat
  pp : List (Option Addr)
  rs : List GR.Ci
def okD (r : RecS) : Prop := ∀ d, r.d = some d → (0 ≤ d.to ∧ d.to < 10) ∧ (0 ≤ d.level ∧ d.level ≤ 6) ∧ (0 ≤ d.n ∧ d.n ≤ 1073741824)
structure VS.Inv (s : VS) : Prop where
  len : s.ps.length = 12
  votes : ∀ c ∈ s.cs, (0 ≤ c.a ∧ c.a < 10) ∧ (0 ≤ c.b ∧ c.b < 12) ∧ okV c.v ∧ ∃ p, s.ps[c.b.toNat]? = some (some p)
  dels : ∀ a t, okD (s.rc a t)
def updR (rc : Int → Int → RecS) (a t : Int) (r : RecS) : Int → Int → RecS := fun x y => if x = a ∧ y = t then r else rc x y
def VS.setP (s : VS) (i : Nat) (p : PollS) : VS := { s with ps := s.ps.set i (some p) }
def VS.setR (s : VS) (a t : Int) (r : RecS) : VS := { s with rc := updR s.rc a t r }
def RecB (M : Nat → Prop) (w : World) (q : Nat) (r : RecS) : Prop := ∃ dp, Blk w q (RecS.cells dp r) 76 ∧ (r.d = none → dp = none) ∧ (∀ d, r.d = some d → ∃ b, dp = some ⟨b, 0, none⟩ ∧ Blk w b d.cells 89 ∧ M b)
structure VotX (F1 F2 M : Nat → Prop) (w : World) (v : Nat) (P : VP) (s : VS) : Prop where
  inv : s.Inv
  gv : GV.Grd F1 w P.gv s.cs
  gr : GR.Grd F2 w P.gr P.rs
  mv : M v
  lt : ∀ q, M q → q < w.heap.size
  d12 : ∀ q, F1 q → ¬ F2 q
  d1 : ∀ q, F1 q → ¬ M q
  d2 : ∀ q, F2 q → ¬ M q
  len : P.pp.length = 12
  blk : Blk w v (P.pp.map Value.pointer ++ [.pointer (some ⟨P.gv, 0, none⟩), .pointer (some ⟨P.gr, 0, none⟩)]) 66
  polls : ∀ i : Nat, i < 12 → (P.pp[i]? = some none ∧ s.ps[i]? = some none) ∨ ∃ b p, P.pp[i]? = some (some ⟨b, 0, none⟩) ∧ s.ps[i]? = some (some p) ∧ Blk w b p.cells 61 ∧ M b
  pinj : ∀ (i j b : Nat), P.pp[i]? = some (some ⟨b, 0, none⟩) → P.pp[j]? = some (some ⟨b, 0, none⟩) → i = j
  keys : ∀ c ∈ P.rs, (0 ≤ c.a ∧ c.a < 10) ∧ (0 ≤ c.b ∧ c.b < 4)
  recs : ∀ a t, (GR.getC a t P.rs = none ∧ s.rc a t = RecS.zero) ∨ ∃ q, GR.getC a t P.rs = some (some ⟨q, 0, none⟩) ∧ RecB M w q (s.rc a t) ∧ M q
  rinj : ∀ (a t a' t' : Int) (q : Nat), GR.getC a t P.rs = some (some ⟨q, 0, none⟩) → GR.getC a' t' P.rs = some (some ⟨q, 0, none⟩) → a = a' ∧ t = t'
/-- The voting at v, its parts at P, holds s; all of its blocks lie in F. -/
def Vot (F : Nat → Prop) (w : World) (v : Nat) (P : VP) (s : VS) : Prop := ∃ F1 F2 M, VotX F1 F2 M w v P s ∧ (∀ q, F1 q → F q) ∧ (∀ q, F2 q → F q) ∧ (∀ q, M q → F q) ∧ (∀ q, F q → q < w.heap.size)
theorem Vot.lt {F : Nat → Prop} {w : World} {v : Nat} {P : VP} {s : VS} (h : Vot F w v P s) : ∀ q, F q → q < w.heap.size := by
  obtain ⟨_, _, _, _, _, _, _, h⟩ := h; exact h
theorem Vot.at_ {F : Nat → Prop} {w : World} {v : Nat} {P : VP} {s : VS} (h : Vot F w v P s) : F v := by
  obtain ⟨_, _, _, h, _, _, h3, _⟩ := h; exact h3 _ h.mv
theorem Vot.inv {F : Nat → Prop} {w : World} {v : Nat} {P : VP} {s : VS} (h : Vot F w v P s) : s.Inv := by
  obtain ⟨_, _, _, h, _⟩ := h; exact h.inv
theorem RecB.keep {S M : Nat → Prop} {w w' : World} {q : Nat} {r : RecS} (h : RecB M w q r) (k : Keep S w w') (h1 : ¬ S q) (h2 : ∀ b, M b → ¬ S b) : RecB M w' q r := by
  obtain ⟨dp, hb, hn, hs⟩ := h
  refine ⟨dp, hb.keep k h1, hn, fun d hd => ?_⟩
  obtain ⟨b, e, hb', hM⟩ := hs d hd
  exact ⟨b, e, hb'.keep k (h2 b hM), hM⟩
theorem RecB.quiet {M : Nat → Prop} {N : Nat} {w w' : World} {q : Nat} {r : RecS} (h : RecB M w q r) (k : Keep (lb N w) w w') : RecB M w' q r := by
  obtain ⟨dp, hb, hn, hs⟩ := h
  refine ⟨dp, hb.quiet k, hn, fun d hd => ?_⟩
  obtain ⟨b, e, hb', hM⟩ := hs d hd
  exact ⟨b, e, hb'.quiet k, hM⟩
theorem RecB.mono {M M' : Nat → Prop} {w : World} {q : Nat} {r : RecS} (h : RecB M w q r) (hM : ∀ b, M b → M' b) : RecB M' w q r := by
  obtain ⟨dp, hb, hn, hs⟩ := h
  refine ⟨dp, hb, hn, fun d hd => ?_⟩
  obtain ⟨b, e, hb', h⟩ := hs d hd
  exact ⟨b, e, hb', hM b h⟩
/-- One block of another kind, or another record, has changed. -/
theorem RecB.keep1 {M : Nat → Prop} {w w' : World} {q b : Nat} {r : RecS} (h : RecB M w q r) (k : Keep (only b) w w') {L : List Value} {t : TypeId} (hb : Blk w b L t) (hq : q ≠ b) (ht : t ≠ 89) : RecB M w' q r := by
  obtain ⟨dp, hb', hn, hs⟩ := h
  refine ⟨dp, hb'.keep k hq, hn, fun d hd => ?_⟩
  obtain ⟨c, e, hc, hM⟩ := hs d hd
  exact ⟨c, e, hc.keep k (Blk.ne hc hb (fun e => ht e.symm)), hM⟩
theorem VotX.keepM {F1 F2 M F1' F2' M' : Nat → Prop} {w w' : World} {v : Nat} {P : VP} {s : VS} (h : VotX F1 F2 M w v P s) (S : Nat → Prop) (k : Keep S w w') (hS : ∀ q, M q → ¬ S q) {cs : List GV.Ci} (hi : ({ s with cs := cs } : VS).Inv) (hM : ∀ q, M q → M' q) (hlt : ∀ q, M' q → q < w'.heap.size)
    (h1 : GV.Grd F1' w' P.gv cs) (h2 : GR.Grd F2' w' P.gr P.rs) (d12 : ∀ q, F1' q → ¬ F2' q) (d1 : ∀ q, F1' q → ¬ M' q) (d2 : ∀ q, F2' q → ¬ M' q) : VotX F1' F2' M' w' v P { s with cs := cs } where
  inv := hi
  gv := h1
  gr := h2
  mv := hM _ h.mv
  lt := hlt
  d12 := d12
  d1 := d1
  d2 := d2
  len := h.len
  blk := h.blk.keep k (hS _ h.mv)
  polls := fun i hi => by
    rcases h.polls i hi with h | ⟨b, p, e1, e2, hb, hm⟩
    · exact .inl h
    · exact .inr ⟨b, p, e1, e2, hb.keep k (hS _ hm), hM _ hm⟩
  pinj := h.pinj
  keys := h.keys
  recs := fun a t => by
    rcases h.recs a t with h | ⟨q, e, hr, hm⟩
    · exact .inl h
    · exact .inr ⟨q, e, (hr.keep k (hS _ hm) hS).mono hM, hM _ hm⟩
  rinj := h.rinj
theorem Vot.keep {S F : Nat → Prop} {w w' : World} {v : Nat} {P : VP} {s : VS} (h : Vot F w v P s) (k : Keep S w w') (hS : ∀ q, F q → ¬ S q) : Vot F w' v P s := by
  obtain ⟨F1, F2, M, h, h1, h2, h3, h4⟩ := h
  exact ⟨F1, F2, M, h.keepM S k (fun q hq => hS q (h3 q hq)) h.inv (fun _ h => h) (fun q hq => Nat.lt_of_lt_of_le (h.lt q hq) k.size) (h.gv.keep k (fun q hq => hS q (h1 q hq))) (h.gr.keep k (fun q hq => hS q (h2 q hq))) h.d12 h.d1 h.d2, h1, h2, h3, fun q hq => Nat.lt_of_lt_of_le (h4 q hq) k.size⟩
theorem Vot.quiet {N : Nat} {F : Nat → Prop} {w w' : World} {v : Nat} {P : VP} {s : VS} (h : Vot F w v P s) (k : Keep (lb N w) w w') : Vot F w' v P s := by
  obtain ⟨F1, F2, M, h, h1, h2, h3, h4⟩ := h
  refine ⟨F1, F2, M, ⟨h.inv, h.gv.quiet k, h.gr.quiet k, h.mv, fun q hq => Nat.lt_of_lt_of_le (h.lt q hq) k.size, h.d12, h.d1, h.d2, h.len, h.blk.quiet k, fun i hi => ?_, h.pinj, h.keys, fun a t => ?_, h.rinj⟩, h1, h2, h3, fun q hq => Nat.lt_of_lt_of_le (h4 q hq) k.size⟩
  · rcases h.polls i hi with h | ⟨b, p, e1, e2, hb, hm⟩
    · exact .inl h
    · exact .inr ⟨b, p, e1, e2, hb.quiet k, hm⟩
  · rcases h.recs a t with h | ⟨q, e, hr, hm⟩
    · exact .inl h
    · exact .inr ⟨q, e, hr.quiet k, hm⟩
/-- A poll that is there. -/
theorem Vot.poll {F : Nat → Prop} {w : World} {v : Nat} {P : VP} {s : VS} (h : Vot F w v P s) {i : Nat} {b : Nat} (e : P.pp[i]? = some (some ⟨b, 0, none⟩)) : ∃ p, s.ps[i]? = some (some p) ∧ Blk w b p.cells 61 ∧ F b := by
  obtain ⟨F1, F2, M, h, h1, h2, h3, h4⟩ := h
  have hi : i < 12 := by rw [← h.len]; exact (List.getElem?_eq_some_iff.1 e).1
  rcases h.polls i hi with ⟨e1, _⟩ | ⟨b', p, e1, e2, hb, hm⟩
  · rw [e] at e1; cases e1
  · rw [e] at e1; cases e1; exact ⟨p, e2, hb, h3 _ hm⟩
theorem Vot.pollB {F : Nat → Prop} {w : World} {v : Nat} {P : VP} {s : VS} (h : Vot F w v P s) {i b : Nat} {p : PollS} (e : P.pp[i]? = some (some ⟨b, 0, none⟩)) (e2 : s.ps[i]? = some (some p)) : Blk w b p.cells 61 ∧ F b := by
  obtain ⟨p', h1, h2⟩ := h.poll e
  rw [e2] at h1; cases h1; exact h2
theorem Vot.recB {F : Nat → Prop} {w : World} {v : Nat} {P : VP} {s : VS} (h : Vot F w v P s) {a t : Int} {q : Nat} (e : GR.getC a t P.rs = some (some ⟨q, 0, none⟩)) : RecB F w q (s.rc a t) ∧ F q := by
  obtain ⟨F1, F2, M, h, h1, h2, h3, h4⟩ := h
  rcases h.recs a t with ⟨e1, _⟩ | ⟨q', e1, hr, hm⟩
  · rw [e] at e1; cases e1
  · rw [e] at e1; cases e1; exact ⟨hr.mono h3, h3 _ hm⟩
theorem Vot.vblk {F : Nat → Prop} {w : World} {v : Nat} {P : VP} {s : VS} (h : Vot F w v P s) : P.pp.length = 12 ∧ Blk w v (P.pp.map Value.pointer ++ [.pointer (some ⟨P.gv, 0, none⟩), .pointer (some ⟨P.gr, 0, none⟩)]) 66 := by
  obtain ⟨_, _, _, h, _⟩ := h; exact ⟨h.len, h.blk⟩
/-- A poll has become another. -/
theorem VotX.setPoll {F1 F2 M : Nat → Prop} {w w' : World} {v : Nat} {P : VP} {s : VS} (h : VotX F1 F2 M w v P s) {i b : Nat} {p p' : PollS} (e : P.pp[i]? = some (some ⟨b, 0, none⟩)) (e2 : s.ps[i]? = some (some p)) (k : Keep (only b) w w') (hb' : Blk w' b p'.cells 61) : VotX F1 F2 M w' v P (s.setP i p') ∧ M b := by
  have hi : i < 12 := by rw [← h.len]; exact (List.getElem?_eq_some_iff.1 e).1
  have hMb : M b ∧ Blk w b p.cells 61 := by
    rcases h.polls i hi with ⟨e1, _⟩ | ⟨b', p, e1, e3, hb, hm⟩
    · rw [e] at e1; cases e1
    · rw [e] at e1; cases e1; rw [e2] at e3; cases e3; exact ⟨hm, hb⟩
  obtain ⟨hM, hB⟩ := hMb
  have hil : i < s.ps.length := (List.getElem?_eq_some_iff.1 e2).1
  refine ⟨⟨⟨by show (s.ps.set i (some p')).length = 12; rw [List.length_set]; exact h.inv.len, fun c hc => ?_, h.inv.dels⟩, h.gv.keep k (fun q hq hs => h.d1 q hq (by rw [show q = b from hs]; exact hM)), h.gr.keep k (fun q hq hs => h.d2 q hq (by rw [show q = b from hs]; exact hM)), h.mv, fun q hq => Nat.lt_of_lt_of_le (h.lt q hq) k.size, h.d12, h.d1, h.d2, h.len, h.blk.keep k (Blk.ne h.blk hB (by decide)), fun j hj => ?_, h.pinj, h.keys, fun a t => ?_, h.rinj⟩, hM⟩
  · obtain ⟨g1, g2, g3, p0, g4⟩ := h.inv.votes c hc
    refine ⟨g1, g2, g3, ?_⟩
    show ∃ p, (s.ps.set i (some p'))[c.b.toNat]? = some (some p)
    by_cases he : i = c.b.toNat
    · exact ⟨p', by rw [← he, List.getElem?_set_self hil]⟩
    · exact ⟨p0, by rw [List.getElem?_set_ne he]; exact g4⟩
  · show (P.pp[j]? = some none ∧ (s.ps.set i (some p'))[j]? = some none) ∨ ∃ b p, P.pp[j]? = some (some ⟨b, 0, none⟩) ∧ (s.ps.set i (some p'))[j]? = some (some p) ∧ Blk w' b p.cells 61 ∧ M b
    by_cases he : i = j
    · subst he
      exact .inr ⟨b, p', e, by rw [List.getElem?_set_self hil], hb', hM⟩
    · rw [List.getElem?_set_ne he]
      rcases h.polls j hj with hh | ⟨b2, p2, f1, f2, hb2, hm2⟩
      · exact .inl hh
      · exact .inr ⟨b2, p2, f1, f2, hb2.keep k (fun hs => he (h.pinj i j b e (by rw [f1, show b2 = b from hs]))), hm2⟩
  · rcases h.recs a t with hh | ⟨q, e1, hr, hm⟩
    · exact .inl hh
    · refine .inr ⟨q, e1, hr.keep1 k hB ?_ (by decide), hm⟩
      obtain ⟨_, hq, _⟩ := hr
      exact Blk.ne hq hB (by decide)
theorem Vot.setPoll {F : Nat → Prop} {w w' : World} {v : Nat} {P : VP} {s : VS} (h : Vot F w v P s) {i b : Nat} {p p' : PollS} (e : P.pp[i]? = some (some ⟨b, 0, none⟩)) (e2 : s.ps[i]? = some (some p)) (k : Keep (only b) w w') (hb' : Blk w' b p'.cells 61) : Vot F w' v P (s.setP i p') := by
  obtain ⟨F1, F2, M, h, h1, h2, h3, h4⟩ := h
  exact ⟨F1, F2, M, (h.setPoll e e2 k hb').1, h1, h2, h3, fun q hq => Nat.lt_of_lt_of_le (h4 q hq) k.size⟩
theorem VotX.newR {F1 F2 M M' : Nat → Prop} {w w' : World} {v : Nat} {P : VP} {s : VS} (h : VotX F1 F2 M w v P s) {a t : Int} {q : Nat} {r' : RecS} {L : List Value} (e : GR.getC a t P.rs = some (some ⟨q, 0, none⟩)) (hbq : Blk w q L 76) (k : Keep (only q) w w') (hr : RecB M' w' q r') (hd : okD r')
    (hM : ∀ x, M x → M' x) (hlt : ∀ x, M' x → x < w'.heap.size) (d1 : ∀ x, F1 x → ¬ M' x) (d2 : ∀ x, F2 x → ¬ M' x) : VotX F1 F2 M' w' v P (s.setR a t r') := by
  have hq : M q := by
    rcases h.recs a t with ⟨e1, _⟩ | ⟨q', e1, _, hm⟩
    · rw [e] at e1; cases e1
    · rw [e] at e1; cases e1; exact hm
  refine ⟨⟨h.inv.len, h.inv.votes, fun x y => ?_⟩, h.gv.keep k (fun x hx hs => h.d1 x hx (by rw [show x = q from hs]; exact hq)), h.gr.keep k (fun x hx hs => h.d2 x hx (by rw [show x = q from hs]; exact hq)), hM _ h.mv, hlt, h.d12, d1, d2, h.len, h.blk.keep k (Blk.ne h.blk hbq (by decide)), fun i hi => ?_, h.pinj, h.keys, fun x y => ?_, h.rinj⟩
  · show okD (updR s.rc a t r' x y)
    unfold updR
    split
    · exact hd
    · exact h.inv.dels x y
  · rcases h.polls i hi with hh | ⟨b2, p2, f1, f2, hb2, hm2⟩
    · exact .inl hh
    · exact .inr ⟨b2, p2, f1, f2, hb2.keep k (Blk.ne hb2 hbq (by decide)), hM _ hm2⟩
  · show (GR.getC x y P.rs = none ∧ updR s.rc a t r' x y = RecS.zero) ∨ ∃ q, GR.getC x y P.rs = some (some ⟨q, 0, none⟩) ∧ RecB _ w' q (updR s.rc a t r' x y) ∧ _
    unfold updR
    by_cases he : x = a ∧ y = t
    · rw [if_pos he]
      exact .inr ⟨q, by rw [he.1, he.2]; exact e, hr, hM _ hq⟩
    · rw [if_neg he]
      rcases h.recs x y with hh | ⟨q2, e1, hr2, hm⟩
      · exact .inl hh
      · exact .inr ⟨q2, e1, (hr2.keep1 k hbq (fun hs => he (h.rinj x y a t q (by rw [e1, hs]) e)) (by decide)).mono hM, hM _ hm⟩
/-- A record has become another; its delegation stays, or goes. -/
theorem Vot.setRec {F : Nat → Prop} {w w' : World} {v : Nat} {P : VP} {s : VS} (h : Vot F w v P s) {a t : Int} {q : Nat} {r' : RecS} {dp dp' : Option Addr} (e : GR.getC a t P.rs = some (some ⟨q, 0, none⟩)) (hb : Blk w q (RecS.cells dp (s.rc a t)) 76) (k : Keep (only q) w w') (hb' : Blk w' q (RecS.cells dp' r') 76)
    (hd : (dp' = dp ∧ r'.d = (s.rc a t).d) ∨ (dp' = none ∧ r'.d = none)) : Vot F w' v P (s.setR a t r') := by
  obtain ⟨F1, F2, M, h, h1, h2, h3, h4⟩ := h
  have hr : RecB M w q (s.rc a t) := by
    rcases h.recs a t with ⟨e1, _⟩ | ⟨q', e1, hr, hm⟩
    · rw [e] at e1; cases e1
    · rw [e] at e1; cases e1; exact hr
  refine ⟨F1, F2, M, h.newR e hb k ?_ ?_ (fun _ h => h) (fun x hx => Nat.lt_of_lt_of_le (h.lt x hx) k.size) h.d1 h.d2, h1, h2, h3, fun x hx => Nat.lt_of_lt_of_le (h4 x hx) k.size⟩
  · rcases hd with ⟨rfl, hd⟩ | ⟨rfl, hd⟩
    · obtain ⟨dp0, g1, g2, g3⟩ := hr
      obtain rfl : dp0 = dp' := by
        have := (g1.inj hb).1
        simp only [RecS.cells, List.cons.injEq, Value.pointer.injEq] at this
        exact this.1
      refine ⟨dp0, hb', fun hn => g2 (by rw [← hd]; exact hn), fun d hd2 => ?_⟩
      obtain ⟨b, e1, e2, e3⟩ := g3 d (by rw [← hd]; exact hd2)
      exact ⟨b, e1, e2.keep k (Blk.ne e2 hb (by decide)), e3⟩
    · exact ⟨none, hb', fun _ => rfl, fun d hd2 => by rw [hd] at hd2; cases hd2⟩
  · rcases hd with ⟨_, hd⟩ | ⟨_, hd⟩
    · intro d hd2; exact h.inv.dels a t d (by rw [← hd]; exact hd2)
    · intro d hd2; rw [hd] at hd2; cases hd2
/-- A record has a delegation, newly laid. -/
theorem Vot.setDel {F : Nat → Prop} {w w' : World} {v : Nat} {P : VP} {s : VS} (h : Vot F w v P s) {a t : Int} {q b0 : Nat} {r' : RecS} {d : DelS} {L : List Value} (e : GR.getC a t P.rs = some (some ⟨q, 0, none⟩)) (hb : Blk w q L 76) (hb0 : Blk w b0 d.cells 89) (hF0 : ¬ F b0) (k : Keep (only q) w w') (hb' : Blk w' q (RecS.cells (some ⟨b0, 0, none⟩) r') 76)
    (hd : r'.d = some d) (hok : okD r') : Vot (fun x => F x ∨ x = b0) w' v P (s.setR a t r') := by
  obtain ⟨F1, F2, M, h, h1, h2, h3, h4⟩ := h
  have hb1 := hb0.keep k (Blk.ne hb0 hb (by decide))
  refine ⟨F1, F2, fun x => M x ∨ x = b0, h.newR e hb k ⟨_, hb', (fun hn => by rw [hd] at hn; cases hn), fun d2 hd2 => ?_⟩ hok (fun _ h => .inl h) ?_ ?_ ?_, fun x hx => .inl (h1 x hx), fun x hx => .inl (h2 x hx), ?_, ?_⟩
  · rw [hd] at hd2; cases hd2
    exact ⟨b0, rfl, hb1, .inr rfl⟩
  · rintro x (hx | rfl)
    · exact Nat.lt_of_lt_of_le (h.lt x hx) k.size
    · exact hb1.lt
  · rintro x hx (hm | rfl)
    · exact h.d1 x hx hm
    · exact hF0 (h1 _ hx)
  · rintro x hx (hm | rfl)
    · exact h.d2 x hx hm
    · exact hF0 (h2 _ hx)
  · rintro x (hx | hx)
    · exact .inl (h3 x hx)
    · exact .inr hx
  · rintro x (hx | rfl)
    · exact Nat.lt_of_lt_of_le (h4 x hx) k.size
    · exact hb1.lt
theorem Vot.recX {F : Nat → Prop} {w : World} {v : Nat} {P : VP} {s : VS} (h : Vot F w v P s) {a t : Int} {q : Nat} (e : GR.getC a t P.rs = some (some ⟨q, 0, none⟩)) : F q ∧ ((s.rc a t).d = none ∧ Blk w q (RecS.cells none (s.rc a t)) 76 ∨ ∃ d b, (s.rc a t).d = some d ∧ Blk w q (RecS.cells (some ⟨b, 0, none⟩) (s.rc a t)) 76 ∧ Blk w b d.cells 89 ∧ F b) := by
  obtain ⟨⟨dp, g1, g2, g3⟩, hF⟩ := h.recB e
  refine ⟨hF, ?_⟩
  cases hd : (s.rc a t).d with
  | none => rw [g2 hd] at g1; exact .inl ⟨rfl, g1⟩
  | some d =>
    obtain ⟨b, rfl, e2, e3⟩ := g3 d hd
    exact .inr ⟨d, b, rfl, g1, e2, e3⟩
def pollAt (s : VS) (ref : Int) : Option PollS := if 0 ≤ ref ∧ ref < 12 then (s.ps[ref.toNat]?).join else none
theorem Vot.pollcase {F : Nat → Prop} {w : World} {v : Nat} {P : VP} {s : VS} (h : Vot F w v P s) (ref : Int) : (pollAt s ref = none ∧ (¬ (0 ≤ ref ∧ ref < 12) ∨ ∃ i : Nat, ref = (i : Int) ∧ i < 12 ∧ P.pp[i]? = some none)) ∨ ∃ (i b : Nat) (p : PollS), ref = (i : Int) ∧ i < 12 ∧ P.pp[i]? = some (some ⟨b, 0, none⟩) ∧ s.ps[i]? = some (some p) ∧ pollAt s ref = some p := by
  obtain ⟨F1, F2, M, h, _⟩ := h
  by_cases hr : 0 ≤ ref ∧ ref < 12
  · obtain ⟨i, rfl⟩ : ∃ i : Nat, ref = i := ⟨ref.toNat, by omega⟩
    rcases h.polls i (by omega) with ⟨e1, e2⟩ | ⟨b, p, e1, e2, _⟩
    · exact .inl ⟨by unfold pollAt; rw [if_pos hr, Int.toNat_natCast, e2]; rfl, .inr ⟨i, rfl, by omega, e1⟩⟩
    · exact .inr ⟨i, b, p, rfl, by omega, e1, e2, by unfold pollAt; rw [if_pos hr, Int.toNat_natCast, e2]; rfl⟩
  · exact .inl ⟨by unfold pollAt; rw [if_neg hr], .inl hr⟩
/-- A new poll. -/
theorem over_pp {pp : List (Option Addr)} {tl : List Value} {i : Nat} {x : Option Addr} (hi : i < pp.length) : over (pp.map Value.pointer ++ tl) (0 + i * 1) [.pointer x] = (pp.set i x).map Value.pointer ++ tl := by
  have e : 0 + i * 1 = ([] : List Value).length + i := by simp
  have h1 := over_mid (X := []) (Y := pp.map Value.pointer) (Z := tl) (k := i) (v := .pointer x) (by simpa using hi)
  rw [e]
  simp only [List.nil_append] at h1 ⊢
  rw [h1]
  congr 1
  unfold over
  rw [List.map_set, List.set_eq_take_append_cons_drop, if_pos (by simpa using hi)]
  simp
theorem Vot.addPoll {F : Nat → Prop} {w w' : World} {v : Nat} {P : VP} {s : VS} (h : Vot F w v P s) {i b : Nat} {p : PollS} (hi : i < 12) (e : P.pp[i]? = some none) (k : Keep (only v) w w') (hv : Blk w' v ((P.pp.set i (some ⟨b, 0, none⟩)).map Value.pointer ++ [.pointer (some ⟨P.gv, 0, none⟩), .pointer (some ⟨P.gr, 0, none⟩)]) 66) (hb : Blk w' b p.cells 61) (hge : w.heap.size ≤ b) :
    ∃ F', Vot F' w' v { P with pp := P.pp.set i (some ⟨b, 0, none⟩) } (s.setP i p) ∧ ∀ q, F' q → F q ∨ w.heap.size ≤ q := by
  obtain ⟨F1, F2, M, h, h1, h2, h3, h4⟩ := h
  have hsz := k.size
  have hbv := hb.lt
  have hil : i < s.ps.length := by rw [h.inv.len]; exact hi
  have hpl : i < P.pp.length := by rw [h.len]; exact hi
  have kS : ∀ x, x < w.heap.size → x ≠ v → ¬ only v x := fun x _ hx hs => hx hs
  refine ⟨fun x => F x ∨ x = b, ⟨F1, F2, fun x => M x ∨ x = b, ⟨⟨by show (s.ps.set i (some p)).length = 12; rw [List.length_set]; exact h.inv.len, fun c hc => ?_, h.inv.dels⟩, h.gv.keep k (fun x hx hs => h.d1 x hx (by rw [show x = v from hs]; exact h.mv)), h.gr.keep k (fun x hx hs => h.d2 x hx (by rw [show x = v from hs]; exact h.mv)), .inl h.mv, ?_, h.d12, ?_, ?_, by show (P.pp.set i _).length = 12; rw [List.length_set]; exact h.len, hv, fun j hj => ?_, ?_, h.keys, fun a t => ?_, h.rinj⟩, fun x hx => .inl (h1 x hx), fun x hx => .inl (h2 x hx), fun x hx => hx.imp (h3 x) id, ?_⟩, fun q hq => hq.imp id (fun e => by rw [e]; exact hge)⟩
  · obtain ⟨g1, g2, g3, p0, g4⟩ := h.inv.votes c hc
    refine ⟨g1, g2, g3, ?_⟩
    show ∃ p', (s.ps.set i (some p))[c.b.toNat]? = some (some p')
    by_cases he : i = c.b.toNat
    · exact ⟨p, by rw [← he, List.getElem?_set_self hil]⟩
    · exact ⟨p0, by rw [List.getElem?_set_ne he]; exact g4⟩
  · rintro x (hx | rfl)
    · exact Nat.lt_of_lt_of_le (h.lt x hx) hsz
    · exact hbv
  · rintro x hx (hm | rfl)
    · exact h.d1 x hx hm
    · have := h.gv.lt _ hx; omega
  · rintro x hx (hm | rfl)
    · exact h.d2 x hx hm
    · have := h.gr.lt _ hx; omega
  · show ((P.pp.set i (some ⟨b, 0, none⟩))[j]? = some none ∧ (s.ps.set i (some p))[j]? = some none) ∨ ∃ b' p', (P.pp.set i (some ⟨b, 0, none⟩))[j]? = some (some ⟨b', 0, none⟩) ∧ (s.ps.set i (some p))[j]? = some (some p') ∧ Blk w' b' p'.cells 61 ∧ (M b' ∨ b' = b)
    by_cases he : i = j
    · subst he
      exact .inr ⟨b, p, by rw [List.getElem?_set_self hpl], by rw [List.getElem?_set_self hil], hb, .inr rfl⟩
    · rw [List.getElem?_set_ne he, List.getElem?_set_ne he]
      rcases h.polls j hj with hh | ⟨b2, p2, f1, f2, hb2, hm2⟩
      · exact .inl hh
      · exact .inr ⟨b2, p2, f1, f2, hb2.keep k (Blk.ne hb2 h.blk (by decide)), .inl hm2⟩
  · show ∀ (j j' c : Nat), (P.pp.set i (some ⟨b, 0, none⟩))[j]? = some (some ⟨c, 0, none⟩) → (P.pp.set i (some ⟨b, 0, none⟩))[j']? = some (some ⟨c, 0, none⟩) → j = j'
    have hold : ∀ (j c : Nat), P.pp[j]? = some (some ⟨c, 0, none⟩) → c < w.heap.size := by
      intro j c hjc
      have hj : j < 12 := by rw [← h.len]; exact (List.getElem?_eq_some_iff.1 hjc).1
      rcases h.polls j hj with ⟨f1, _⟩ | ⟨b2, p2, f1, f2, hb2, hm2⟩
      · rw [hjc] at f1; cases f1
      · rw [hjc] at f1; cases f1; exact hb2.lt
    intro j j' c hj hj'
    by_cases e1 : i = j <;> by_cases e2 : i = j'
    · exact e1.symm.trans e2
    · subst e1
      rw [List.getElem?_set_self hpl] at hj; cases hj
      rw [List.getElem?_set_ne e2] at hj'
      have := hold _ _ hj'; omega
    · subst e2
      rw [List.getElem?_set_self hpl] at hj'; cases hj'
      rw [List.getElem?_set_ne e1] at hj
      have := hold _ _ hj; omega
    · rw [List.getElem?_set_ne e1] at hj
      rw [List.getElem?_set_ne e2] at hj'
      exact h.pinj _ _ _ hj hj'
  · rcases h.recs a t with hh | ⟨q, e1, hr, hm⟩
    · exact .inl hh
    · refine .inr ⟨q, e1, (hr.keep1 k h.blk ?_ (by decide)).mono (fun _ h => .inl h), .inl hm⟩
      obtain ⟨_, hq, _⟩ := hr
      exact Blk.ne hq h.blk (by decide)
  · rintro x (hx | rfl)
    · exact Nat.lt_of_lt_of_le (h4 x hx) hsz
    · exact hbv
theorem GR.getC_set (a b : Int) (x : Option Addr) : ∀ (cs : List GR.Ci), GR.Srt cs → ∀ a' b', GR.getC a' b' (GR.setC a b x cs) = if a' = a ∧ b' = b then some x else GR.getC a' b' cs
  | [], _, a', b' => by
    simp only [GR.setC, GR.getC]
    by_cases h : a' = a ∧ b' = b
    · rw [if_pos ⟨h.1.symm, h.2.symm⟩, if_pos h]
    · rw [if_neg (fun e => h ⟨e.1.symm, e.2.symm⟩), if_neg h]
  | c :: l, hs, a', b' => by
    have hs2 := List.pairwise_cons.1 hs
    have ih := GR.getC_set a b x l hs2.2 a' b'
    simp only [GR.setC]
    split
    · rename_i he
      simp only [GR.getC]
      by_cases h : a' = a ∧ b' = b
      · rw [if_pos ⟨h.1.symm, h.2.symm⟩, if_pos h]
      · rw [if_neg (fun e => h ⟨e.1.symm, e.2.symm⟩), if_neg h, if_neg (fun e => h ⟨by omega, by omega⟩)]
    · rename_i he
      split
      · simp only [GR.getC]
        rw [ih]
        by_cases h : a' = a ∧ b' = b
        · rw [if_pos h, if_pos h, if_neg (fun e => he ⟨by omega, by omega⟩)]
        · rw [if_neg h, if_neg h]
      · simp only [GR.getC]
        by_cases h : a' = a ∧ b' = b
        · rw [if_pos ⟨h.1.symm, h.2.symm⟩, if_pos h]
        · rw [if_neg (fun e => h ⟨e.1.symm, e.2.symm⟩), if_neg h]
/-- A new record. -/
theorem Vot.addRec {F F2 F2' M F1 : Nat → Prop} {w w' : World} {v b : Nat} {P : VP} {s : VS} (h : VotX F1 F2 M w v P s) (h1 : ∀ q, F1 q → F q) (h2 : ∀ q, F2 q → F q) (h3 : ∀ q, M q → F q) (h4 : ∀ q, F q → q < w.heap.size) {a t : Int} (ha : 0 ≤ a ∧ a < 10) (ht : 0 ≤ t ∧ t < 4) (e : GR.getC a t P.rs = none) (k : Keep F2 w w')
    (hG : GR.Grd F2' w' P.gr (GR.setC a t (some ⟨b, 0, none⟩) P.rs)) (hfr : ∀ q, F2' q → F2 q ∨ w.heap.size ≤ q) (hb : Blk w' b (RecS.cells none RecS.zero) 76) (hge : w.heap.size ≤ b) (hbF : ¬ F2' b) :
    ∃ F', Vot F' w' v { P with rs := GR.setC a t (some ⟨b, 0, none⟩) P.rs } s ∧ (∀ q, F' q → F q ∨ w.heap.size ≤ q) := by
  have hsz := k.size
  have hkM : ∀ x, M x → ¬ F2 x := fun x hx hf => h.d2 x hf hx
  have hset := GR.getC_set a t (some ⟨b, 0, none⟩) P.rs h.gr.1
  have hz : s.rc a t = RecS.zero := by
    rcases h.recs a t with hh | ⟨q, e1, _⟩
    · exact hh.2
    · rw [e] at e1; cases e1
  refine ⟨fun x => F x ∨ F2' x ∨ x = b, ⟨F1, F2', fun x => M x ∨ x = b, ⟨h.inv, h.gv.keep k (fun x hx hs => h.d12 x hx hs), hG, .inl h.mv, ?_, ?_, ?_, ?_, h.len, h.blk.keep k (hkM _ h.mv), fun j hj => ?_, h.pinj, ?_, fun x y => ?_, ?_⟩, fun x hx => .inl (h1 x hx), fun x hx => .inr (.inl hx), fun x hx => hx.elim (fun hx => .inl (h3 x hx)) (fun hx => .inr (.inr hx)), ?_⟩, ?_⟩
  · rintro x (hx | rfl)
    · exact Nat.lt_of_lt_of_le (h.lt x hx) hsz
    · exact hb.lt
  · intro x hx hx2
    rcases hfr x hx2 with hh | hh
    · exact h.d12 x hx hh
    · have := h.gv.lt x hx; omega
  · rintro x hx (hm | rfl)
    · exact h.d1 x hx hm
    · have := h.gv.lt _ hx; omega
  · rintro x hx (hm | rfl)
    · rcases hfr x hx with hh | hh
      · exact h.d2 x hh hm
      · have := h.lt x hm; omega
    · exact hbF hx
  · rcases h.polls j hj with hh | ⟨b2, p2, f1, f2, hb2, hm2⟩
    · exact .inl hh
    · exact .inr ⟨b2, p2, f1, f2, hb2.keep k (hkM _ hm2), .inl hm2⟩
  · intro c hc
    rcases GR.setC_mem hc with hh | hh
    · rw [hh.1, hh.2]; exact ⟨ha, ht⟩
    · exact h.keys c hh
  · show (GR.getC x y (GR.setC a t (some ⟨b, 0, none⟩) P.rs) = none ∧ _) ∨ ∃ q, GR.getC x y (GR.setC a t (some ⟨b, 0, none⟩) P.rs) = some (some ⟨q, 0, none⟩) ∧ RecB _ w' q (s.rc x y) ∧ _
    rw [hset]
    by_cases he : x = a ∧ y = t
    · rw [if_pos he, he.1, he.2, hz]
      exact .inr ⟨b, rfl, ⟨none, hb, fun _ => rfl, fun d hd => by cases hd⟩, .inr rfl⟩
    · rw [if_neg he]
      rcases h.recs x y with hh | ⟨q, e1, hr, hm⟩
      · exact .inl hh
      · exact .inr ⟨q, e1, (hr.keep k (hkM _ hm) hkM).mono (fun _ h => .inl h), .inl hm⟩
  · show ∀ (x y x' y' : Int) (q : Nat), GR.getC x y (GR.setC a t (some ⟨b, 0, none⟩) P.rs) = some (some ⟨q, 0, none⟩) → GR.getC x' y' (GR.setC a t (some ⟨b, 0, none⟩) P.rs) = some (some ⟨q, 0, none⟩) → x = x' ∧ y = y'
    have hold : ∀ (x y : Int) (q : Nat), GR.getC x y P.rs = some (some ⟨q, 0, none⟩) → q < w.heap.size := by
      intro x y q hq
      rcases h.recs x y with ⟨f1, _⟩ | ⟨q2, f1, hr, hm⟩
      · rw [hq] at f1; cases f1
      · rw [hq] at f1; cases f1; exact h.lt _ hm
    intro x y x' y' q
    rw [hset, hset]
    by_cases e1 : x = a ∧ y = t <;> by_cases e2 : x' = a ∧ y' = t
    · intro _ _; exact ⟨by omega, by omega⟩
    · rw [if_pos e1, if_neg e2]
      intro hq hq'; cases hq
      have := hold _ _ _ hq'; omega
    · rw [if_neg e1, if_pos e2]
      intro hq hq'; cases hq'
      have := hold _ _ _ hq; omega
    · rw [if_neg e1, if_neg e2]
      exact h.rinj x y x' y' q
  · rintro x (hx | hx | rfl)
    · exact Nat.lt_of_lt_of_le (h4 x hx) hsz
    · exact hG.lt x hx
    · exact hb.lt
  · rintro x (hx | hx | rfl)
    · exact .inl hx
    · exact (hfr x hx).imp (h2 x) id
    · exact .inr hge
/-- The votes have become others. -/
theorem Vot.setCs {F F1 F2 M F1' : Nat → Prop} {w w' : World} {v : Nat} {P : VP} {s : VS} {cs : List GV.Ci} (h : VotX F1 F2 M w v P s) (h1 : ∀ q, F1 q → F q) (h2 : ∀ q, F2 q → F q) (h3 : ∀ q, M q → F q) (h4 : ∀ q, F q → q < w.heap.size) (k : Keep F1 w w') (hG : GV.Grd F1' w' P.gv cs) (hfr : ∀ q, F1' q → F1 q ∨ w.heap.size ≤ q) (hi : ({ s with cs := cs } : VS).Inv) :
    ∃ F', Vot F' w' v P { s with cs := cs } ∧ (∀ q, F' q → F q ∨ w.heap.size ≤ q) := by
  have hsz := k.size
  refine ⟨fun x => F x ∨ F1' x, ⟨F1', F2, M, h.keepM F1 k (fun x hx hf => h.d1 x hf hx) hi (fun _ h => h) (fun x hx => Nat.lt_of_lt_of_le (h.lt x hx) hsz) hG (h.gr.keep k (fun x hx hf => h.d12 x hf hx)) ?_ ?_ h.d2, fun x hx => .inr hx, fun x hx => .inl (h2 x hx), fun x hx => .inl (h3 x hx), ?_⟩, ?_⟩
  · intro x hx hx2
    rcases hfr x hx with hh | hh
    · exact h.d12 x hh hx2
    · have := h.gr.lt x hx2; omega
  · intro x hx hm
    rcases hfr x hx with hh | hh
    · exact h.d1 x hh hm
    · have := h.lt x hm; omega
  · rintro x (hx | hx)
    · exact Nat.lt_of_lt_of_le (h4 x hx) hsz
    · exact hG.lt x hx
  · rintro x (hx | hx)
    · exact .inl hx
    · exact (hfr x hx).imp (h1 x) id
end Go.Al


namespace Go.Al
open Go Go.RowKit Go.Proofs
set_option maxRecDepth 10000 in
theorem vIn_spec (n lo hi : Int) (w : World) : Calls Try.prog 21 #[.int .i64 n, .int .i64 lo, .int .i64 hi] w fun e w' => e = .returned (.bool (decide (lo ≤ n ∧ n ≤ hi))) ∧ w' = w := by
 refine enterV Try.func21 rfl [nt n, nt lo, nt hi] 15 rfl rfl rfl ?_
 refine V_pick [(0, nt n), (1, nt lo), (2, nt hi)] rfl ?_
 refine V_seq ?_
 refine V_region ?_
 refine OI_static 1 [(0, nt n), (1, nt lo), (2, nt hi)] (by kernel_rfl) ?_
 refine OI_end rfl ?_
 refine X_then ?_
 refine V_seq ?_
 refine V_region ?_
 refine OI_static 4 [(0, nt n), (2, nt hi), (10, .bool (decide (n ≥ lo)))] (by kernel_rfl) ?_
 by_cases hg1 : n ≥ lo
 ·
  refine OI_eq [(0, nt n), (2, nt hi), (10, .bool true)] (by first | simp [hg1] | rfl) ?_
  refine OI_static 9 [(6, .bool (decide (n ≤ hi)))] (by kernel_rfl) ?_
  refine OI_end rfl ?_
  refine X_then ?_
  refine V_ret ?_
  exact X_return (.bool (decide (n ≤ hi))) rfl ⟨by congr 2; simp only [Bool.decide_and]; by_cases h1 : lo ≤ n <;> simp [h1] <;> omega, rfl⟩
 ·
  refine OI_eq [(0, nt n), (2, nt hi), (10, .bool false)] (by first | simp [hg1] | rfl) ?_
  refine OI_static 9 [(6, .bool false)] (by kernel_rfl) ?_
  refine OI_end rfl ?_
  refine X_then ?_
  refine V_ret ?_
  exact X_return (.bool false) rfl ⟨by congr 2; simp only [Bool.decide_and]; by_cases h1 : lo ≤ n <;> simp [h1] <;> omega, rfl⟩

set_option maxRecDepth 10000 in
theorem isAcc_spec (n : Int) (w : World) : Calls Try.prog 24 #[.int .i64 n] w fun e w' => e = .returned (.bool (decide (0 ≤ n ∧ n ≤ 9))) ∧ w' = w := by
 refine enterV Try.func24 rfl [nt n] 5 rfl rfl rfl ?_
 refine V_pick [(0, nt n)] rfl ?_
 refine V_seq ?_
 refine V_region ?_
 refine OI_static 1 [(0, nt n)] (by kernel_rfl) ?_
 refine OI_end rfl ?_
 refine X_then ?_
 refine V_seq ?_
 refine V_region ?_
 refine OI_static 1 [(3, nt n)] (by kernel_rfl) ?_
 refine OI_call { callee := (Callee.value (Operand.func 21)), args := #[(Operand.tmp 3), (Operand.const (Value.int IntKind.i64 0)), (Operand.const (Value.int IntKind.i64 9))], argTypes := #[3, 3, 3] } 21 #[nt n, nt 0, nt 9] (some 4) (by kernel_rfl) (by kernel_rfl) (by kernel_rfl) (vIn_spec n 0 9 _) ?_
 rintro _ w ⟨rfl, rfl⟩
 refine ⟨_, rfl, ?_⟩
 refine OI_static 3 [(2, .bool (decide ((0 : Int) ≤ n ∧ n ≤ 9)))] (by kernel_rfl) ?_
 refine OI_end rfl ?_
 refine X_then ?_
 refine V_ret ?_
 exact X_return (.bool (decide ((0 : Int) ≤ n ∧ n ≤ 9))) rfl ⟨rfl, rfl⟩

set_option maxRecDepth 10000 in
theorem isTrk_spec (n : Int) (w : World) : Calls Try.prog 22 #[.int .i64 n] w fun e w' => e = .returned (.bool (decide (0 ≤ n ∧ n ≤ 3))) ∧ w' = w := by
 refine enterV Try.func22 rfl [nt n] 5 rfl rfl rfl ?_
 refine V_pick [(0, nt n)] rfl ?_
 refine V_seq ?_
 refine V_region ?_
 refine OI_static 1 [(0, nt n)] (by kernel_rfl) ?_
 refine OI_end rfl ?_
 refine X_then ?_
 refine V_seq ?_
 refine V_region ?_
 refine OI_static 1 [(3, nt n)] (by kernel_rfl) ?_
 refine OI_call { callee := (Callee.value (Operand.func 21)), args := #[(Operand.tmp 3), (Operand.const (Value.int IntKind.i64 0)), (Operand.const (Value.int IntKind.i64 3))], argTypes := #[3, 3, 3] } 21 #[nt n, nt 0, nt 3] (some 4) (by kernel_rfl) (by kernel_rfl) (by kernel_rfl) (vIn_spec n 0 3 _) ?_
 rintro _ w ⟨rfl, rfl⟩
 refine ⟨_, rfl, ?_⟩
 refine OI_static 3 [(2, .bool (decide ((0 : Int) ≤ n ∧ n ≤ 3)))] (by kernel_rfl) ?_
 refine OI_end rfl ?_
 refine X_then ?_
 refine V_ret ?_
 exact X_return (.bool (decide ((0 : Int) ≤ n ∧ n ≤ 3))) rfl ⟨rfl, rfl⟩

set_option maxRecDepth 10000 in
theorem pollfn_at (v gv gr i : Nat) (pp : List (Option Addr)) (x : Option Addr) (w : World) (hv : Blk w v (pp.map Value.pointer ++ [.pointer (some ⟨gv, 0, none⟩), .pointer (some ⟨gr, 0, none⟩)]) 66) (hlen : pp.length = 12) (hi : i < 12) (hx : pp[i]? = some x) : Calls Try.prog 23 #[.pointer (some ⟨v, 0, none⟩), .int .i64 (i : Int)] w fun e w' => e = .returned (.pointer x) ∧ Keep none_ w w' := by
 have hK0 : Keep none_ w w := Keep.refl _ _
 have hzhK0 := Keep.size hK0
 refine enterV Try.func23 rfl [pt v, nt ((i : Nat) : Int)] 18 rfl rfl rfl ?_
 refine V_pick [(0, pt v), (1, nt ((i : Nat) : Int))] rfl ?_
 refine V_seq ?_
 refine V_region ?_
 refine OI_static 1 [(0, pt v), (1, nt ((i : Nat) : Int))] (by kernel_rfl) ?_
 refine OI_end rfl ?_
 refine X_then ?_
 refine V_seq ?_
 refine V_seq ?_
 refine V_region ?_
 refine OI_static 4 [(0, pt v), (1, nt ((i : Nat) : Int)), (7, .bool false), (8, nt ((i : Nat) : Int))] (by kernel_rfl) ?_
 refine OI_call { callee := (Callee.value (Operand.func 21)), args := #[(Operand.tmp 8), (Operand.const (Value.int IntKind.i64 0)), (Operand.const (Value.int IntKind.i64 11))], argTypes := #[3, 3, 3] } 21 #[nt ((i : Nat) : Int), nt 0, nt 11] (some 9) (by kernel_rfl) (by kernel_rfl) (by kernel_rfl) (vIn_spec ((i : Nat) : Int) 0 11 _) ?_
 rintro _ w ⟨rfl, rfl⟩
 refine ⟨_, rfl, ?_⟩
 refine OI_static 7 [(0, pt v), (1, nt ((i : Nat) : Int)), (11, .bool (!(decide ((0 : Int) ≤ ((i : Nat) : Int) ∧ ((i : Nat) : Int) ≤ 11))))] (by kernel_rfl) ?_
 refine OI_end rfl ?_
 refine X_then ?_
 refine V_eq [(0, pt v), (1, nt ((i : Nat) : Int)), (11, .bool false)] (by rw [decide_eq_true (by omega : (0 : Int) ≤ ((i : Nat) : Int) ∧ ((i : Nat) : Int) ≤ 11)]; rfl) ?_
 refine V_false rfl ?_
 refine V_skip ?_
 refine X_then ?_
 refine V_seq ?_
 refine V_region ?_
 refine OI_static 4 [(13, nt ((i : Nat) : Int)), (15, pt v)] (by kernel_rfl) ?_
 refine OI_pure (some 16) (.indexAddr 62 (.tmp 15) (.tmp 13)) (by kernel_rfl) (pure_idxArr (b := v) (o := 0) (m := 12) (kd := .i64) (j := i) (E := 58) (sz := 1) (by kernel_rfl) (by kernel_rfl) (by kernel_rfl) (by omega)) ?_
 refine OI_cell 58 (.tmp 16) (0 + i * 1) (.pointer x) (some 17) (by kernel_rfl) (by kernel_rfl) hv (m := 1) (by kernel_rfl) (by rw [show 0 + i * 1 = i by omega, List.getElem?_append_left (by rw [List.length_map]; omega), List.getElem?_map, hx]; rfl) ?_
 refine OI_static 7 [(4, .pointer x)] (by kernel_rfl) ?_
 refine OI_end rfl ?_
 refine X_then ?_
 refine V_ret ?_
 exact X_return (.pointer x) rfl ⟨rfl, hK0⟩

set_option maxRecDepth 10000 in
theorem pollfn_out (v : Nat) (ref : Int) (w : World) (hr : ¬ (0 ≤ ref ∧ ref < 12)) : Calls Try.prog 23 #[.pointer (some ⟨v, 0, none⟩), .int .i64 ref] w fun e w' => e = .returned (.pointer none) ∧ Keep none_ w w' := by
 have hK0 : Keep none_ w w := Keep.refl _ _
 have hzhK0 := Keep.size hK0
 refine enterV Try.func23 rfl [pt v, nt ref] 18 rfl rfl rfl ?_
 refine V_pick [(0, pt v), (1, nt ref)] rfl ?_
 refine V_seq ?_
 refine V_region ?_
 refine OI_static 1 [(0, pt v), (1, nt ref)] (by kernel_rfl) ?_
 refine OI_end rfl ?_
 refine X_then ?_
 refine V_seq ?_
 refine V_seq ?_
 refine V_region ?_
 refine OI_static 4 [(0, pt v), (1, nt ref), (7, .bool false), (8, nt ref)] (by kernel_rfl) ?_
 refine OI_call { callee := (Callee.value (Operand.func 21)), args := #[(Operand.tmp 8), (Operand.const (Value.int IntKind.i64 0)), (Operand.const (Value.int IntKind.i64 11))], argTypes := #[3, 3, 3] } 21 #[nt ref, nt 0, nt 11] (some 9) (by kernel_rfl) (by kernel_rfl) (by kernel_rfl) (vIn_spec ref 0 11 _) ?_
 rintro _ w ⟨rfl, rfl⟩
 refine ⟨_, rfl, ?_⟩
 refine OI_static 7 [(0, pt v), (1, nt ref), (11, .bool (!(decide ((0 : Int) ≤ ref ∧ ref ≤ 11))))] (by kernel_rfl) ?_
 refine OI_end rfl ?_
 refine X_then ?_
 refine V_eq [(0, pt v), (1, nt ref), (11, .bool true)] (by rw [decide_eq_false (by omega : ¬ ((0 : Int) ≤ ref ∧ ref ≤ 11))]; rfl) ?_
 refine V_true rfl ?_
 refine V_seq ?_
 refine V_region ?_
 refine OI_static 1 [(4, .pointer none)] (by kernel_rfl) ?_
 refine OI_end rfl ?_
 refine X_then ?_
 refine V_ret ?_
 refine X_ret_then ?_
 exact X_return (.pointer none) rfl ⟨rfl, hK0⟩

theorem poll_some (F : Nat → Prop) (v : Nat) (P : VP) (s : VS) (i b : Nat) (w : World) (h : Vot F w v P s) (hi : i < 12) (e : P.pp[i]? = some (some ⟨b, 0, none⟩)) : Calls Try.prog 23 #[.pointer (some ⟨v, 0, none⟩), .int .i64 (i : Int)] w fun e w' => e = .returned (.pointer (some ⟨b, 0, none⟩)) ∧ Keep none_ w w' := pollfn_at v P.gv P.gr i P.pp _ w h.vblk.2 h.vblk.1 hi e

theorem poll_none (F : Nat → Prop) (v : Nat) (P : VP) (s : VS) (ref : Int) (w : World) (h : Vot F w v P s) (hc : ¬ (0 ≤ ref ∧ ref < 12) ∨ ∃ i : Nat, ref = (i : Int) ∧ i < 12 ∧ P.pp[i]? = some none) : Calls Try.prog 23 #[.pointer (some ⟨v, 0, none⟩), .int .i64 ref] w fun e w' => e = .returned (.pointer none) ∧ Keep none_ w w' := by
  rcases hc with hc | ⟨i, rfl, hi, e⟩
  · exact pollfn_out v ref w hc
  · exact pollfn_at v P.gv P.gr i P.pp none w h.vblk.2 h.vblk.1 hi e

theorem grid_get_some {F : Nat → Prop} {g : Nat} {cs : List GR.Ci} {a b : Int} {x : Option Addr} {w : World} (h : GR.Grd F w g cs) (e : GR.getC a b cs = some x) : Calls Try.prog 49 #[.pointer (some ⟨g, 0, none⟩), .int .i64 a, .int .i64 b] w fun e w' => e = .returned (.tuple #[.pointer x, .bool true]) ∧ Keep none_ w w' :=
  (GR.get_spec F g cs a b w h.gr).mono (by rintro e' w' ⟨rfl, hk⟩; exact ⟨by rw [e]; rfl, hk⟩)
theorem grid_get_none {F : Nat → Prop} {g : Nat} {cs : List GR.Ci} {a b : Int} {w : World} (h : GR.Grd F w g cs) (e : GR.getC a b cs = none) : Calls Try.prog 49 #[.pointer (some ⟨g, 0, none⟩), .int .i64 a, .int .i64 b] w fun e w' => e = .returned (.tuple #[.pointer none, .bool false]) ∧ Keep none_ w w' :=
  (GR.get_spec F g cs a b w h.gr).mono (by rintro e' w' ⟨rfl, hk⟩; exact ⟨by rw [e]; rfl, hk⟩)
theorem sorted_len {l : List Int} {N : Nat} (hs : l.Pairwise (· < ·)) (hb : ∀ x ∈ l, 0 ≤ x ∧ x < N) : l.length ≤ N := by
  have key : ∀ (l : List Int) (lo : Int), l.Pairwise (· < ·) → (∀ x ∈ l, lo ≤ x ∧ x < N) → lo ≤ N → (l.length : Int) ≤ N - lo := by
    intro l
    induction l with
    | nil => intro lo _ _ h; simp; omega
    | cons x l ih =>
      intro lo hs hb hlo
      have h1 := hb x (List.mem_cons_self ..)
      have h2 := List.pairwise_cons.1 hs
      have h3 := ih (x + 1) h2.2 (fun y hy => ⟨by have := h2.1 y hy; omega, (hb y (List.mem_cons_of_mem _ hy)).2⟩) (by omega)
      simp only [List.length_cons]; omega
  have := key l 0 hs hb (by omega)
  omega
theorem GR.len40 {cs : List GR.Ci} (hs : GR.Srt cs) (hb : ∀ c ∈ cs, (0 ≤ c.a ∧ c.a < 10) ∧ (0 ≤ c.b ∧ c.b < 4)) : cs.length ≤ 40 := by
  have h1 : (cs.map fun c => c.a * 4 + c.b).length ≤ 40 := sorted_len (by
    rw [List.pairwise_map]
    refine List.Pairwise.imp_of_mem ?_ hs
    intro x y hx hy hxy
    have := hb x hx; have := hb y hy
    rcases hxy with h | h <;> omega) (by
    intro z hz
    obtain ⟨c, hc, rfl⟩ := List.mem_map.1 hz
    have := hb c hc; omega)
  simpa using h1
theorem GV.len120 {cs : List GV.Ci} (hs : GV.Srt cs) (hb : ∀ c ∈ cs, (0 ≤ c.a ∧ c.a < 10) ∧ (0 ≤ c.b ∧ c.b < 12)) : cs.length ≤ 120 := by
  have h1 : (cs.map fun c => c.a * 12 + c.b).length ≤ 120 := sorted_len (by
    rw [List.pairwise_map]
    refine List.Pairwise.imp_of_mem ?_ hs
    intro x y hx hy hxy
    have := hb x hx; have := hb y hy
    rcases hxy with h | h <;> omega) (by
    intro z hz
    obtain ⟨c, hc, rfl⟩ := List.mem_map.1 hz
    have := hb c hc; omega)
  simpa using h1

theorem set_grdO {F : Nat → Prop} {g : Nat} {cs : List GR.Ci} {a b : Int} {x : Option Addr} {w : World} (h : GR.Grd F w g cs) (hmax : cs.length < 100000) : Calls Try.prog 50 #[.pointer (some ⟨g, 0, none⟩), .int .i64 a, .int .i64 b, .pointer x] w fun e w' => e = .returned (.tuple #[]) ∧ (∃ F', GR.Grd F' w' g (GR.setC a b x cs) ∧ (∀ q, F' q → F q ∨ w.heap.size ≤ q)) ∧ Keep (only g) w w' :=
  (GR.set_spec (fun q => F q ∨ w.heap.size ≤ q) g cs a b x w (h.gr.mono (fun _ h => .inl h)) (fun _ h => .inr h) hmax).mono (by
    rintro e w' ⟨rfl, h1, h2⟩
    exact ⟨rfl, ⟨GR.more F w w', GR.Grd.of h1 (.inl h.at_) (fun q hq hD => hD.imp id (fun h => ⟨h, hq⟩)) (fun q hq => by rcases hq with hq | hq; exact Nat.lt_of_lt_of_le (h.lt q hq) h2.size; exact hq.2), fun q hq => hq.imp id (·.1)⟩, h2⟩)
theorem GR.Grd.ne {F : Nat → Prop} {g : Nat} {cs : List GR.Ci} {w : World} (h : GR.Grd F w g cs) {x : Nat} {L : List Value} {t : TypeId} (hx : Blk w x L t) (ht : t ≠ 139) : x ≠ g := by
  obtain ⟨_, _, _, _, A, cap, h5, _⟩ := h
  exact Blk.ne hx h5.blk ht

set_option maxRecDepth 10000 in
theorem record_has (v gv gr : Nat) (pp : List (Option Addr)) (rs : List GR.Ci) (F2 : Nat → Prop) (a t : Int) (q : Nat) (w : World) (hv : Blk w v (pp.map Value.pointer ++ [.pointer (some ⟨gv, 0, none⟩), .pointer (some ⟨gr, 0, none⟩)]) 66) (hlen : pp.length = 12) (hG : GR.Grd F2 w gr rs) (ha : 0 ≤ a ∧ a < 10) (ht : 0 ≤ t ∧ t < 4) (e : GR.getC a t rs = some (some ⟨q, 0, none⟩)) : Calls Try.prog 26 #[.pointer (some ⟨v, 0, none⟩), .int .i64 a, .int .i64 t] w fun e w' => e = .returned (.pointer (some ⟨q, 0, none⟩)) ∧ Keep none_ w w' := by
 have hK0 : Keep none_ w w := Keep.refl _ _
 have hzhK0 := Keep.size hK0
 refine enterV Try.func26 rfl [pt v, nt a, nt t] 46 rfl rfl rfl ?_
 refine V_pick [(0, pt v), (1, nt a), (2, nt t)] rfl ?_
 refine V_seq ?_
 refine V_region ?_
 refine OI_static 1 [(0, pt v), (1, nt a), (2, nt t)] (by kernel_rfl) ?_
 refine OI_end rfl ?_
 refine X_then ?_
 refine V_seq ?_
 refine V_seq ?_
 refine V_region ?_
 refine OI_static 4 [(0, pt v), (1, nt a), (2, nt t), (11, .bool false), (12, nt a)] (by kernel_rfl) ?_
 refine OI_call { callee := (Callee.value (Operand.func 24)), args := #[(Operand.tmp 12)], argTypes := #[3] } 24 #[nt a] (some 13) (by kernel_rfl) (by kernel_rfl) (by kernel_rfl) (isAcc_spec a _) ?_
 rintro _ w ⟨rfl, rfl⟩
 refine ⟨_, rfl, ?_⟩
 refine OI_static 8 [(0, pt v), (1, nt a), (2, nt t), (16, .bool (!(decide (0 ≤ a ∧ a ≤ 9))))] (by kernel_rfl) ?_
 refine OI_eq [(0, pt v), (1, nt a), (2, nt t), (16, .bool false)] (by rw [decide_eq_true (by omega : 0 ≤ a ∧ a ≤ 9)]; rfl) ?_
 refine OI_static 9 [(0, pt v), (1, nt a), (2, nt t), (16, .bool false), (17, nt t)] (by kernel_rfl) ?_
 refine OI_call { callee := (Callee.value (Operand.func 22)), args := #[(Operand.tmp 17)], argTypes := #[3] } 22 #[nt t] (some 18) (by kernel_rfl) (by kernel_rfl) (by kernel_rfl) (isTrk_spec t _) ?_
 rintro _ w ⟨rfl, rfl⟩
 refine ⟨_, rfl, ?_⟩
 refine OI_static 12 [(0, pt v), (1, nt a), (2, nt t), (20, .bool (!(decide (0 ≤ t ∧ t ≤ 3))))] (by kernel_rfl) ?_
 refine OI_end rfl ?_
 refine X_then ?_
 refine V_eq [(0, pt v), (1, nt a), (2, nt t), (20, .bool false)] (by rw [decide_eq_true (by omega : 0 ≤ t ∧ t ≤ 3)]; rfl) ?_
 refine V_false rfl ?_
 refine V_skip ?_
 refine X_then ?_
 refine V_seq ?_
 refine V_region ?_
 refine OI_static 3 [(0, pt v), (1, nt a), (2, nt t), (26, .pointer (some ⟨v, 13, none⟩))] (by kernel_rfl) ?_
 refine OI_cell 64 (.tmp 26) 13 (pt gr) (some 27) (by kernel_rfl) (by kernel_rfl) hv (m := 1) (by kernel_rfl) (by rw [List.getElem?_append_right (by rw [List.length_map]; omega), List.length_map, hlen]; rfl) ?_
 refine OI_static 6 [(0, pt v), (1, nt a), (2, nt t), (27, pt gr), (28, nt a), (29, nt t)] (by kernel_rfl) ?_
 refine OI_call { callee := (Callee.value (Operand.func 49)), args := #[(Operand.tmp 27), (Operand.tmp 28), (Operand.tmp 29)], argTypes := #[64, 3, 3] } 49 #[pt gr, nt a, nt t] (some 30) (by kernel_rfl) (by kernel_rfl) (by kernel_rfl) (grid_get_some hG e) ?_
 rintro _ w9 ⟨rfl, hk10⟩
 refine ⟨_, rfl, ?_⟩
 have hsz11 := Keep.size hk10
 replace hv := hv.keep hk10 (fun f => f)
 replace hK0 := Keep.tr hK0 (Keep.ofNone hk10)
 refine OI_static 12 [(0, pt v), (1, nt a), (2, nt t), (7, pt q), (8, .bool true)] (by kernel_rfl) ?_
 refine OI_end rfl ?_
 refine X_then ?_
 refine V_seq ?_
 refine V_seq ?_
 refine V_region ?_
 refine OI_static 2 [(0, pt v), (1, nt a), (2, nt t), (7, pt q), (34, .bool false)] (by kernel_rfl) ?_
 refine OI_end rfl ?_
 refine X_then ?_
 refine V_false rfl ?_
 refine V_skip ?_
 refine X_then ?_
 refine V_seq ?_
 refine V_region ?_
 refine OI_static 2 [(6, pt q)] (by kernel_rfl) ?_
 refine OI_end rfl ?_
 refine X_then ?_
 refine V_ret ?_
 exact X_return (pt q) rfl ⟨rfl, hK0⟩

set_option maxRecDepth 10000 in
theorem record_new (v gv gr : Nat) (pp : List (Option Addr)) (rs : List GR.Ci) (F2 : Nat → Prop) (a t : Int) (w : World) (hv : Blk w v (pp.map Value.pointer ++ [.pointer (some ⟨gv, 0, none⟩), .pointer (some ⟨gr, 0, none⟩)]) 66) (hlen : pp.length = 12) (hG : GR.Grd F2 w gr rs) (ha : 0 ≤ a ∧ a < 10) (ht : 0 ≤ t ∧ t < 4) (e : GR.getC a t rs = none) (hmax : rs.length < 100000) (hF2v : ∀ q, F2 q → q ≠ v) : Calls Try.prog 26 #[.pointer (some ⟨v, 0, none⟩), .int .i64 a, .int .i64 t] w fun e w' => ∃ (b : Nat) (F2' : Nat → Prop), e = .returned (.pointer (some ⟨b, 0, none⟩)) ∧ w.heap.size ≤ b ∧ Blk w' b (RecS.cells none RecS.zero) 76 ∧ GR.Grd F2' w' gr (GR.setC a t (some ⟨b, 0, none⟩) rs) ∧ (∀ q, F2' q → F2 q ∨ w.heap.size ≤ q) ∧ ¬ F2' b ∧ Keep (only gr) w w' := by
 have hF2lt := GR.Grd.lt hG
 have hgrlt := hF2lt _ (GR.Grd.at_ hG)
 have hvlt := hv.lt
 have hgrv := hF2v _ (GR.Grd.at_ hG)
 have hK0 : Keep (only gr) w w := Keep.refl _ _
 have hzhK0 := Keep.size hK0
 refine enterV Try.func26 rfl [pt v, nt a, nt t] 46 rfl rfl rfl ?_
 refine V_pick [(0, pt v), (1, nt a), (2, nt t)] rfl ?_
 refine V_seq ?_
 refine V_region ?_
 refine OI_static 1 [(0, pt v), (1, nt a), (2, nt t)] (by kernel_rfl) ?_
 refine OI_end rfl ?_
 refine X_then ?_
 refine V_seq ?_
 refine V_seq ?_
 refine V_region ?_
 refine OI_static 4 [(0, pt v), (1, nt a), (2, nt t), (11, .bool false), (12, nt a)] (by kernel_rfl) ?_
 refine OI_call { callee := (Callee.value (Operand.func 24)), args := #[(Operand.tmp 12)], argTypes := #[3] } 24 #[nt a] (some 13) (by kernel_rfl) (by kernel_rfl) (by kernel_rfl) (isAcc_spec a _) ?_
 rintro _ w ⟨rfl, rfl⟩
 refine ⟨_, rfl, ?_⟩
 refine OI_static 8 [(0, pt v), (1, nt a), (2, nt t), (16, .bool (!(decide (0 ≤ a ∧ a ≤ 9))))] (by kernel_rfl) ?_
 refine OI_eq [(0, pt v), (1, nt a), (2, nt t), (16, .bool false)] (by rw [decide_eq_true (by omega : 0 ≤ a ∧ a ≤ 9)]; rfl) ?_
 refine OI_static 9 [(0, pt v), (1, nt a), (2, nt t), (16, .bool false), (17, nt t)] (by kernel_rfl) ?_
 refine OI_call { callee := (Callee.value (Operand.func 22)), args := #[(Operand.tmp 17)], argTypes := #[3] } 22 #[nt t] (some 18) (by kernel_rfl) (by kernel_rfl) (by kernel_rfl) (isTrk_spec t _) ?_
 rintro _ w ⟨rfl, rfl⟩
 refine ⟨_, rfl, ?_⟩
 refine OI_static 12 [(0, pt v), (1, nt a), (2, nt t), (20, .bool (!(decide (0 ≤ t ∧ t ≤ 3))))] (by kernel_rfl) ?_
 refine OI_end rfl ?_
 refine X_then ?_
 refine V_eq [(0, pt v), (1, nt a), (2, nt t), (20, .bool false)] (by rw [decide_eq_true (by omega : 0 ≤ t ∧ t ≤ 3)]; rfl) ?_
 refine V_false rfl ?_
 refine V_skip ?_
 refine X_then ?_
 refine V_seq ?_
 refine V_region ?_
 refine OI_static 3 [(0, pt v), (1, nt a), (2, nt t), (26, .pointer (some ⟨v, 13, none⟩))] (by kernel_rfl) ?_
 refine OI_cell 64 (.tmp 26) 13 (pt gr) (some 27) (by kernel_rfl) (by kernel_rfl) hv (m := 1) (by kernel_rfl) (by rw [List.getElem?_append_right (by rw [List.length_map]; omega), List.length_map, hlen]; rfl) ?_
 refine OI_static 6 [(0, pt v), (1, nt a), (2, nt t), (27, pt gr), (28, nt a), (29, nt t)] (by kernel_rfl) ?_
 refine OI_call { callee := (Callee.value (Operand.func 49)), args := #[(Operand.tmp 27), (Operand.tmp 28), (Operand.tmp 29)], argTypes := #[64, 3, 3] } 49 #[pt gr, nt a, nt t] (some 30) (by kernel_rfl) (by kernel_rfl) (by kernel_rfl) (grid_get_none hG e) ?_
 rintro _ w9 ⟨rfl, hk10⟩
 refine ⟨_, rfl, ?_⟩
 have hsz11 := Keep.size hk10
 replace hv := hv.keep hk10 (fun f => f)
 replace hG := GR.Grd.keep hG hk10 (fun _ _ f => f)
 replace hK0 := Keep.tr hK0 (Keep.ofNone hk10)
 refine OI_static 12 [(0, pt v), (1, nt a), (2, nt t), (7, .pointer none), (8, .bool false)] (by kernel_rfl) ?_
 refine OI_end rfl ?_
 refine X_then ?_
 refine V_seq ?_
 refine V_seq ?_
 refine V_region ?_
 refine OI_static 2 [(0, pt v), (1, nt a), (2, nt t), (7, .pointer none), (34, .bool true)] (by kernel_rfl) ?_
 refine OI_end rfl ?_
 refine X_then ?_
 refine V_true rfl ?_
 refine V_seq ?_
 refine V_region ?_
 refine OI_static 1 [(0, pt v), (1, nt a), (2, nt t), (35, .agg #[.pointer none, nt 0, nt 0, nt 0, nt 0])] (by kernel_rfl) ?_
 refine OI_box 76 (.tmp 35) (.agg #[.pointer none, nt 0, nt 0, nt 0, nt 0]) [.pointer none, nt 0, nt 0, nt 0, nt 0] (some 36) (by kernel_rfl) (by kernel_rfl) (by kernel_rfl) ?_
 intro b12 w12 e12 hb12 k12 z12
 have hsz13 := Keep.size k12
 replace hv := hv.keep k12 (fun f => f)
 replace hG := GR.Grd.keep hG k12 (fun _ _ f => f)
 replace hK0 := Keep.tr hK0 (Keep.ofNone k12)
 have hb12lt := hb12.lt
 refine OI_static 3 [(0, pt v), (1, nt a), (2, nt t), (7, pt b12)] (by kernel_rfl) ?_
 refine OI_end rfl ?_
 refine X_then ?_
 refine V_region ?_
 refine OI_static 3 [(1, nt a), (2, nt t), (7, pt b12), (39, .pointer (some ⟨v, 13, none⟩))] (by kernel_rfl) ?_
 refine OI_cell 64 (.tmp 39) 13 (pt gr) (some 40) (by kernel_rfl) (by kernel_rfl) hv (m := 1) (by kernel_rfl) (by rw [List.getElem?_append_right (by rw [List.length_map]; omega), List.length_map, hlen]; rfl) ?_
 refine OI_static 7 [(7, pt b12), (40, pt gr), (41, nt a), (42, nt t), (43, pt b12)] (by kernel_rfl) ?_
 refine OI_call { callee := (Callee.value (Operand.func 50)), args := #[(Operand.tmp 40), (Operand.tmp 41), (Operand.tmp 42), (Operand.tmp 43)], argTypes := #[64, 3, 3, 68] } 50 #[pt gr, nt a, nt t, pt b12] (some 44) (by kernel_rfl) (by kernel_rfl) (by kernel_rfl) (set_grdO (a := a) (b := t) (x := (some ⟨b12, 0, none⟩)) hG hmax) ?_
 rintro _ w16 ⟨rfl, ⟨F18, ho19, hfr20⟩, hk17⟩
 refine ⟨_, rfl, ?_⟩
 have hsz21 := Keep.size hk17
 replace hv := hv.keep hk17 (by show ¬ (_ = _); omega)
 replace hb12 := hb12.keep hk17 (by show ¬ (_ = _); omega)
 replace hK0 := Keep.fresh hK0 hk17 (by intro i hi hs; first | exact hs | exact Or.inl hs | exact Or.inr hs | (exfalso; have hs2 : i = gr := hs; omega))
 have own23 : ∀ q, F18 q → q ≠ v ∧ q ≠ v ∧ q ≠ b12 := fun q hq => by rcases hfr20 q hq with h | h; (have h1 := hF2v q h; have h2 := hF2lt q h; omega); omega
 have lt22 := GR.Grd.lt ho19
 refine OI_end rfl ?_
 refine X_then ?_
 refine V_seq ?_
 refine V_region ?_
 refine OI_static 2 [(6, pt b12)] (by kernel_rfl) ?_
 refine OI_end rfl ?_
 refine X_then ?_
 refine V_ret ?_
 exact X_return (pt b12) rfl ⟨b12, F18, rfl, by omega, hb12, ho19, (fun x hx => by rcases hfr20 x hx with h | h; exact .inl h; exact .inr (by omega)), (fun hx => by have h1 := own23 _ hx; omega), hK0⟩

theorem record_spec (F : Nat → Prop) (v : Nat) (P : VP) (s : VS) (a t : Int) (w : World) (h : Vot F w v P s) (ha : 0 ≤ a ∧ a < 10) (ht : 0 ≤ t ∧ t < 4) : Calls Try.prog 26 #[.pointer (some ⟨v, 0, none⟩), .int .i64 a, .int .i64 t] w fun e w' => ∃ (b : Nat) (P' : VP), e = .returned (.pointer (some ⟨b, 0, none⟩)) ∧ GR.getC a t P'.rs = some (some ⟨b, 0, none⟩) ∧ P'.pp = P.pp ∧ P'.gv = P.gv ∧ (∀ x y z, GR.getC x y P.rs = some z → GR.getC x y P'.rs = some z) ∧ (∀ x L, Blk w x L 89 → Blk w' x L 89) ∧ (∃ F', Vot F' w' v P' s ∧ (∀ q, F' q → F q ∨ w.heap.size ≤ q)) ∧ Keep F w w' := by
  obtain ⟨F1, F2, M, hX, h1, h2, h3, h4⟩ := h
  rcases hX.recs a t with ⟨e, _⟩ | ⟨q, e, _⟩
  · have hl := GR.len40 hX.gr.1 hX.keys
    refine (record_new v P.gv P.gr P.pp P.rs F2 a t w hX.blk hX.len hX.gr ha ht e (by omega) (fun q hq he => hX.d2 q hq (he ▸ hX.mv))).mono ?_
    rintro e' w' ⟨b, F2', rfl, hge, hb, hG, hfr, hnb, hk⟩
    have hk2 : Keep F2 w w' := hk.mono (fun q _ hq => by rw [show q = P.gr from hq]; exact hX.gr.at_)
    refine ⟨b, { P with rs := GR.setC a t (some ⟨b, 0, none⟩) P.rs }, rfl, ?_, rfl, rfl, ?_, fun x L hx => hx.keep hk (hX.gr.ne hx (by decide)), Vot.addRec hX h1 h2 h3 h4 ha ht e hk2 hG hfr hb hge hnb, hk2.mono (fun q _ hq => h2 q hq)⟩
    · show GR.getC a t (GR.setC a t _ P.rs) = _
      rw [GR.getC_set a t _ _ hX.gr.1, if_pos ⟨rfl, rfl⟩]
    · intro x y z hz
      show GR.getC x y (GR.setC a t _ P.rs) = _
      rw [GR.getC_set a t _ _ hX.gr.1]
      by_cases he : x = a ∧ y = t
      · rw [he.1, he.2, e] at hz; cases hz
      · rw [if_neg he]; exact hz
  · refine (record_has v P.gv P.gr P.pp P.rs F2 a t q w hX.blk hX.len hX.gr ha ht e).mono ?_
    rintro e' w' ⟨rfl, hk⟩
    exact ⟨q, P, rfl, e, rfl, rfl, fun _ _ _ h => h, fun x L hx => hx.keep hk (fun f => f), ⟨F, Vot.keep ⟨F1, F2, M, hX, h1, h2, h3, h4⟩ hk (fun _ _ f => f), fun _ h => .inl h⟩, hk.ofNone⟩
end Go.Al

