/-
  Walks of the laws of the agenda.
-/
import Derived.Test.YtbfecgncndaodaaAg3
namespace Go.Al
open Go Go.RowKit Go.Proofs
theorem put_is (D : Nat → Prop) (g : Nat) (ts : List Tk) (t : Tk) (c : Int) (ts' : List Tk) (w : World) (h : Ag D w g ts) (hD : ∀ k, w.heap.size ≤ k → D k) (hp : putR t ts = (c, ts')) : Calls Try.prog 12 #[.pointer (some ⟨g, 0, none⟩), .agg t.cells.toArray] w fun e w' => e = .returned (.int .i64 c) ∧ Ag D w' g ts' ∧ Keep (only g) w w' := by
  have := put_spec D g ts t w h hD
  rw [hp] at this
  exact this
def tk0 (nm at_ : Int) : Tk := ⟨nm, at_, 0, [.int .u8 0, .int .u8 0, .int .u8 0, .int .u8 0, .int .u8 0, .int .u8 0, .int .u8 0, .int .u8 0, .int .u8 0, .int .u8 0, .int .u8 0, .int .u8 0, .int .u8 0, .int .u8 0, .int .u8 0, .int .u8 0, .int .u8 0, .int .u8 0, .int .u8 0, .int .u8 0, .int .u8 0, .int .u8 0, .int .u8 0, .int .u8 0, .int .u8 0, .int .u8 0, .int .u8 0, .int .u8 0, .int .u8 0, .int .u8 0, .int .u8 0, .int .u8 0, .int .i64 0], rfl, one_all' (by decide)⟩
abbrev any_ : Nat → Prop := fun _ => True

theorem cancel_is (D : Nat → Prop) (g : Nat) (ts : List Tk) (nm : Int) (b : Bool) (ts' : List Tk) (w : World) (h : Ag D w g ts) (hD : ∀ k, w.heap.size ≤ k → D k) (hp : ts.any (named nm) = b ∧ del nm ts = ts') : Calls Try.prog 18 #[.pointer (some ⟨g, 0, none⟩), .int .i64 nm] w fun e w' => e = .returned (.bool b) ∧ Ag D w' g ts' ∧ Keep (only g) w w' := by
  have := cancel_spec D g ts nm w h hD
  rw [hp.1, hp.2] at this
  exact this
theorem due_is (D : Nat → Prop) (g : Nat) (ts : List Tk) (now most : Int) (n : Nat) (l ts' : List Tk) (w : World) (h : Ag D w g ts) (hp : dueN now most ts = n ∧ ts.take n = l ∧ ts.drop n = ts') : Calls Try.prog 13 #[.pointer (some ⟨g, 0, none⟩), .int .i64 now, .int .i64 most] w fun e w' => ∃ A' cap', e = .returned (.slice A' l.length cap') ∧ SlT w' 36 Tk.cells A' cap' l ∧ Ag D w' g ts' ∧ Keep (only g) w w' ∧ (∀ k, inA A' k → w.heap.size ≤ k) := by
  have := due_spec D g ts now most w h
  rw [hp.1, hp.2.1, hp.2.2] at this
  exact this

theorem known_spec (w : World) : Calls Try.prog 15 #[] w fun e w' => e = .returned (.bool true) ∧ Keep none_ w w' := by
  have hK0 : Keep none_ w w := Keep.refl _ _
  have hzhK0 := Keep.size hK0
  refine enterV Try.func15 rfl [] 35 rfl rfl rfl ?_
  refine V_pick [] rfl ?_
  refine V_seq ?_
  refine V_region ?_
  refine OI_static 1 [] (by kernel_rfl) ?_
  refine OI_end rfl ?_
  refine X_then ?_
  refine V_seq ?_
  refine V_region ?_
  refine OI_call { callee := (Callee.value (Operand.func 11)), args := #[], argTypes := #[] } 11 #[] (some 3) (by kernel_rfl) (by kernel_rfl) (by kernel_rfl) (new_spec any_ _) ?_
  rintro _ w1 ⟨g3, rfl, hag4, hk2, hgeg3⟩
  refine ⟨_, rfl, ?_⟩
  replace hK0 := Keep.tr hK0 (Keep.ofNone hk2); have hzhK0 := Keep.size hK0
  have hltg3 := Ag.lt hag4
  refine OI_static 2 [(1, .pointer (some ⟨g3, 0, none⟩))] (by kernel_rfl) ?_
  refine OI_end rfl ?_
  refine X_then ?_
  refine V_seq ?_
  refine V_seq ?_
  refine V_region ?_
  refine OI_static 5 [(1, .pointer (some ⟨g3, 0, none⟩)), (6, .bool false), (7, .pointer (some ⟨g3, 0, none⟩)), (8, .agg (Tk.cells (tk0 1 5)).toArray)] (by kernel_rfl) ?_
  refine OI_call { callee := (Callee.value (Operand.func 12)), args := #[(Operand.tmp 7), (Operand.tmp 8)], argTypes := #[23, 28] } 12 #[.pointer (some ⟨g3, 0, none⟩), .agg (Tk.cells (tk0 1 5)).toArray] (some 9) (by kernel_rfl) (by kernel_rfl) (by kernel_rfl) (put_is any_ g3 [] (tk0 1 5) 0 [tk0 1 5] _ hag4 (fun _ _ => trivial) (by kernel_rfl)) ?_
  rintro _ w5 ⟨rfl, hag7, hk6⟩
  refine ⟨_, rfl, ?_⟩
  replace hK0 := Keep.fresh hK0 hk6 (by intro i hi hs; first | exact hs | exact Or.inl hs | exact Or.inr hs | (exfalso; have hs2 : i = g3 := hs; omega)); have hzhK0 := Keep.size hK0
  skip
  have hltg3 := Ag.lt hag7
  refine OI_static 11 [(1, .pointer (some ⟨g3, 0, none⟩)), (12, .bool false), (13, .pointer (some ⟨g3, 0, none⟩)), (14, .agg (Tk.cells (tk0 2 3)).toArray)] (by kernel_rfl) ?_
  refine OI_call { callee := (Callee.value (Operand.func 12)), args := #[(Operand.tmp 13), (Operand.tmp 14)], argTypes := #[23, 28] } 12 #[.pointer (some ⟨g3, 0, none⟩), .agg (Tk.cells (tk0 2 3)).toArray] (some 15) (by kernel_rfl) (by kernel_rfl) (by kernel_rfl) (put_is any_ g3 [tk0 1 5] (tk0 2 3) 0 [tk0 2 3, tk0 1 5] _ hag7 (fun _ _ => trivial) (by kernel_rfl)) ?_
  rintro _ w8 ⟨rfl, hag10, hk9⟩
  refine ⟨_, rfl, ?_⟩
  replace hK0 := Keep.fresh hK0 hk9 (by intro i hi hs; first | exact hs | exact Or.inl hs | exact Or.inr hs | (exfalso; have hs2 : i = g3 := hs; omega)); have hzhK0 := Keep.size hK0
  skip
  have hltg3 := Ag.lt hag10
  refine OI_static 14 [(1, .pointer (some ⟨g3, 0, none⟩)), (17, .bool false)] (by kernel_rfl) ?_
  refine OI_end rfl ?_
  refine X_then ?_
  refine V_false rfl ?_
  refine V_skip ?_
  refine X_then ?_
  refine V_seq ?_
  refine V_region ?_
  refine OI_static 1 [(1, .pointer (some ⟨g3, 0, none⟩)), (18, .pointer (some ⟨g3, 0, none⟩))] (by kernel_rfl) ?_
  refine OI_call { callee := (Callee.value (Operand.func 13)), args := #[(Operand.tmp 18), (Operand.const (Value.int IntKind.i64 9)), (Operand.const (Value.int IntKind.i64 1))], argTypes := #[23, 3, 3] } 13 #[.pointer (some ⟨g3, 0, none⟩), .int .i64 9, .int .i64 1] (some 19) (by kernel_rfl) (by kernel_rfl) (by kernel_rfl) (due_is any_ g3 [tk0 2 3, tk0 1 5] 9 1 1 [tk0 2 3] [tk0 1 5] _ hag10 ⟨by kernel_rfl, rfl, rfl⟩) ?_
  rintro _ w11 ⟨A9, cap9, rfl, h9, hag13, hk12, hown9⟩
  refine ⟨_, rfl, ?_⟩
  replace hK0 := Keep.fresh hK0 hk12 (by intro i hi hs; first | exact hs | exact Or.inl hs | exact Or.inr hs | (exfalso; have hs2 : i = g3 := hs; omega)); have hzhK0 := Keep.size hK0
  skip
  have hltg3 := Ag.lt hag13
  refine OI_static 3 [(1, .pointer (some ⟨g3, 0, none⟩)), (2, .slice A9 1 cap9)] (by kernel_rfl) ?_
  refine OI_end rfl ?_
  refine X_then ?_
  refine V_seq ?_
  refine V_region ?_
  refine OI_static 5 [(1, .pointer (some ⟨g3, 0, none⟩)), (23, .bool true), (24, .slice A9 1 cap9)] (by kernel_rfl) ?_
  obtain ⟨b14, o14, L14, T14, rfl, hat14⟩ := SlT.open_ h9 (by first | omega | simp | (simp; omega))
  have hb14lt := hat14.blk.lt
  refine OI_pure (some 25) (.indexAddr 31 (.tmp 24) (.const (Value.int IntKind.i64 0))) (by kernel_rfl) (pure_idxN (b := b14) (o := o14) (len := 1) (cap := cap9) (kd := .i64) (j := 0) (E := 28) (sz := 36) (by_ := 64) (by kernel_rfl) (by kernel_rfl) (by kernel_rfl) (by omega)) ?_
  refine OI_static 7 [(1, .pointer (some ⟨g3, 0, none⟩)), (23, .bool true), (26, .pointer (some ⟨b14, o14 + 0 * 36, none⟩))] (by kernel_rfl) ?_
  refine OI_cell 3 (.tmp 26) (o14 + 0 * 36) (.int .i64 2) (some 27) (by kernel_rfl) (by kernel_rfl) hat14.blk (m := 1) (by kernel_rfl) (At.cell0 hat14 (es_at (rfl : [tk0 2 3][0]? = some (tk0 2 3))) rfl) ?_
  refine OI_static 12 [(30, .bool true), (31, .pointer (some ⟨g3, 0, none⟩))] (by kernel_rfl) ?_
  refine OI_call { callee := (Callee.value (Operand.func 14)), args := #[(Operand.tmp 31)], argTypes := #[23] } 14 #[.pointer (some ⟨g3, 0, none⟩)] (some 32) (by kernel_rfl) (by kernel_rfl) (by kernel_rfl) (len_spec any_ g3 [tk0 1 5] _ hag13) ?_
  rintro _ w11 ⟨rfl, rfl⟩
  refine ⟨_, rfl, ?_⟩
  refine OI_static 16 [(0, .bool true)] (by kernel_rfl) ?_
  refine OI_end rfl ?_
  refine X_then ?_
  refine V_ret ?_
  exact X_return (.bool true) rfl ⟨rfl, hK0⟩

theorem put0 {nm at_ : Int} {ts : List Tk} (h1 : 0 ≤ nm) (h2 : 0 ≤ at_) (h3 : ts.any (named nm) = false) (h4 : ts.length < 12) : putR (tk0 nm at_) ts = (0, ins (tk0 nm at_) ts) := by
  unfold putR
  rw [if_neg (by simp only [tk0]; omega), if_neg (by simp only [tk0, h3]; decide), if_neg (by omega)]
theorem put5 {nm at_ : Int} {ts : List Tk} (h1 : 0 ≤ nm) (h2 : 0 ≤ at_) (h3 : ts.any (named nm) = true) : putR (tk0 nm at_) ts = (5, ts) := by
  unfold putR
  rw [if_neg (by simp only [tk0]; omega), if_pos (by simp only [tk0, h3])]
theorem put3 {nm at_ : Int} {ts : List Tk} (h1 : 0 ≤ nm) (h2 : 0 ≤ at_) (h3 : ts.any (named nm) = false) (h4 : 12 ≤ ts.length) : putR (tk0 nm at_) ts = (3, ts) := by
  unfold putR
  rw [if_neg (by simp only [tk0]; omega), if_neg (by simp only [tk0, h3]; decide), if_pos h4]
theorem put1 {t : Tk} {ts : List Tk} (h : t.name < 0 ∨ t.at_ < 0 ∨ t.pr < 0) : putR t ts = (1, ts) := if_pos h

theorem walk_AgendaNames (nm at1 other : Int) (w : World) : Calls Try.prog 7 #[.int .i64 nm, .int .i64 at1, .int .i64 other] w fun e w' => e = .returned (.bool true) ∧ Keep none_ w w' := by
  have hK0 : Keep none_ w w := Keep.refl _ _
  have hzhK0 := Keep.size hK0
  refine enterV Try.func7 rfl [.int .i64 nm, .int .i64 at1, .int .i64 other] 73 rfl rfl rfl ?_
  refine V_pick [(0, .int .i64 nm), (1, .int .i64 at1), (2, .int .i64 other)] rfl ?_
  refine V_seq ?_
  refine V_region ?_
  refine OI_static 1 [(0, .int .i64 nm), (1, .int .i64 at1), (2, .int .i64 other)] (by kernel_rfl) ?_
  refine OI_end rfl ?_
  refine X_then ?_
  refine V_seq ?_
  refine V_seq ?_
  refine V_region ?_
  refine OI_static 3 [(0, .int .i64 nm), (1, .int .i64 at1), (2, .int .i64 other), (13, .bool (decide (nm < 0)))] (by kernel_rfl) ?_
  by_cases hg1 : nm < 0
  · skip
    refine OI_eq [(0, .int .i64 nm), (1, .int .i64 at1), (2, .int .i64 other), (13, .bool true)] (by simp [hg1]) ?_
    refine OI_static 10 [(0, .int .i64 nm), (1, .int .i64 at1), (2, .int .i64 other), (20, .bool true)] (by kernel_rfl) ?_
    refine OI_end rfl ?_
    refine X_then ?_
    refine V_true rfl ?_
    refine V_seq ?_
    refine V_region ?_
    refine OI_static 1 [(6, .bool true)] (by kernel_rfl) ?_
    refine OI_end rfl ?_
    refine X_then ?_
    refine V_ret ?_
    refine X_ret_then ?_
    exact X_return (.bool true) rfl ⟨rfl, hK0⟩
  · skip
    refine OI_eq [(0, .int .i64 nm), (1, .int .i64 at1), (2, .int .i64 other), (13, .bool false)] (by simp [hg1]) ?_
    refine OI_static 7 [(0, .int .i64 nm), (1, .int .i64 at1), (2, .int .i64 other), (17, .bool (decide (at1 < 0)))] (by kernel_rfl) ?_
    by_cases hg2 : at1 < 0
    · skip
      refine OI_eq [(0, .int .i64 nm), (1, .int .i64 at1), (2, .int .i64 other), (17, .bool true)] (by simp [hg2]) ?_
      refine OI_static 10 [(0, .int .i64 nm), (1, .int .i64 at1), (2, .int .i64 other), (20, .bool true)] (by kernel_rfl) ?_
      refine OI_end rfl ?_
      refine X_then ?_
      refine V_true rfl ?_
      refine V_seq ?_
      refine V_region ?_
      refine OI_static 1 [(6, .bool true)] (by kernel_rfl) ?_
      refine OI_end rfl ?_
      refine X_then ?_
      refine V_ret ?_
      refine X_ret_then ?_
      exact X_return (.bool true) rfl ⟨rfl, hK0⟩
    · skip
      refine OI_eq [(0, .int .i64 nm), (1, .int .i64 at1), (2, .int .i64 other), (17, .bool false)] (by simp [hg2]) ?_
      refine OI_static 10 [(0, .int .i64 nm), (1, .int .i64 at1), (2, .int .i64 other), (20, .bool (decide (other < 0)))] (by kernel_rfl) ?_
      refine OI_end rfl ?_
      refine X_then ?_
      refine V_if (other < 0) (by kernel_rfl) (fun hc3 => ?_) (fun hc3 => ?_)
      · skip
        refine V_seq ?_
        refine V_region ?_
        refine OI_static 1 [(6, .bool true)] (by kernel_rfl) ?_
        refine OI_end rfl ?_
        refine X_then ?_
        refine V_ret ?_
        refine X_ret_then ?_
        exact X_return (.bool true) rfl ⟨rfl, hK0⟩
      · skip
        refine V_skip ?_
        refine X_then ?_
        refine V_seq ?_
        refine V_region ?_
        refine OI_call { callee := (Callee.value (Operand.func 11)), args := #[], argTypes := #[] } 11 #[] (some 21) (by kernel_rfl) (by kernel_rfl) (by kernel_rfl) (new_spec any_ _) ?_
        rintro _ w4 ⟨g6, rfl, hag7, hk5, hgeg6⟩
        refine ⟨_, rfl, ?_⟩
        replace hK0 := Keep.tr hK0 (Keep.ofNone hk5); have hzhK0 := Keep.size hK0
        have hltg6 := Ag.lt hag7
        refine OI_static 2 [(0, .int .i64 nm), (1, .int .i64 at1), (2, .int .i64 other), (7, .pointer (some ⟨g6, 0, none⟩))] (by kernel_rfl) ?_
        refine OI_end rfl ?_
        refine X_then ?_
        refine V_seq ?_
        refine V_seq ?_
        refine V_region ?_
        refine OI_static 5 [(0, .int .i64 nm), (1, .int .i64 at1), (2, .int .i64 other), (7, .pointer (some ⟨g6, 0, none⟩)), (24, .bool false), (25, .pointer (some ⟨g6, 0, none⟩)), (26, .int .i64 nm)] (by kernel_rfl) ?_
        refine OI_call { callee := (Callee.value (Operand.func 18)), args := #[(Operand.tmp 25), (Operand.tmp 26)], argTypes := #[23, 3] } 18 #[.pointer (some ⟨g6, 0, none⟩), .int .i64 nm] (some 27) (by kernel_rfl) (by kernel_rfl) (by kernel_rfl) (cancel_is any_ g6 [] nm false [] _ hag7 (fun _ _ => trivial) ⟨rfl, rfl⟩) ?_
        rintro _ w8 ⟨rfl, hag10, hk9⟩
        refine ⟨_, rfl, ?_⟩
        replace hK0 := Keep.fresh hK0 hk9 (by intro i hi hs; first | exact hs | exact Or.inl hs | exact Or.inr hs | (exfalso; have hs2 : i = g6 := hs; omega)); have hzhK0 := Keep.size hK0
        skip
        have hltg6 := Ag.lt hag10
        refine OI_static 12 [(0, .int .i64 nm), (2, .int .i64 other), (7, .pointer (some ⟨g6, 0, none⟩)), (29, .bool false), (30, .pointer (some ⟨g6, 0, none⟩)), (33, .agg (Tk.cells (tk0 nm at1)).toArray)] (by kernel_rfl) ?_
        refine OI_call { callee := (Callee.value (Operand.func 12)), args := #[(Operand.tmp 30), (Operand.tmp 33)], argTypes := #[23, 28] } 12 #[.pointer (some ⟨g6, 0, none⟩), .agg (Tk.cells (tk0 nm at1)).toArray] (some 34) (by kernel_rfl) (by kernel_rfl) (by kernel_rfl) (put_is any_ g6 [] (tk0 nm at1) 0 [(tk0 nm at1)] _ hag10 (fun _ _ => trivial) (put0 (by omega) (by omega) rfl (by simp))) ?_
        rintro _ w11 ⟨rfl, hag13, hk12⟩
        refine ⟨_, rfl, ?_⟩
        replace hK0 := Keep.fresh hK0 hk12 (by intro i hi hs; first | exact hs | exact Or.inl hs | exact Or.inr hs | (exfalso; have hs2 : i = g6 := hs; omega)); have hzhK0 := Keep.size hK0
        skip
        have hltg6 := Ag.lt hag13
        refine OI_static 15 [(0, .int .i64 nm), (2, .int .i64 other), (7, .pointer (some ⟨g6, 0, none⟩)), (36, .bool false)] (by kernel_rfl) ?_
        refine OI_end rfl ?_
        refine X_then ?_
        refine V_false rfl ?_
        refine V_skip ?_
        refine X_then ?_
        refine V_seq ?_
        refine V_region ?_
        refine OI_static 4 [(0, .int .i64 nm), (2, .int .i64 other), (7, .pointer (some ⟨g6, 0, none⟩)), (37, .pointer (some ⟨g6, 0, none⟩)), (40, .agg (Tk.cells (tk0 nm other)).toArray)] (by kernel_rfl) ?_
        refine OI_call { callee := (Callee.value (Operand.func 12)), args := #[(Operand.tmp 37), (Operand.tmp 40)], argTypes := #[23, 28] } 12 #[.pointer (some ⟨g6, 0, none⟩), .agg (Tk.cells (tk0 nm other)).toArray] (some 41) (by kernel_rfl) (by kernel_rfl) (by kernel_rfl) (put_is any_ g6 [(tk0 nm at1)] (tk0 nm other) 5 [(tk0 nm at1)] _ hag13 (fun _ _ => trivial) (put5 (by omega) (by omega) (by simp [named, tk0]))) ?_
        rintro _ w14 ⟨rfl, hag16, hk15⟩
        refine ⟨_, rfl, ?_⟩
        replace hK0 := Keep.fresh hK0 hk15 (by intro i hi hs; first | exact hs | exact Or.inl hs | exact Or.inr hs | (exfalso; have hs2 : i = g6 := hs; omega)); have hzhK0 := Keep.size hK0
        skip
        have hltg6 := Ag.lt hag16
        refine OI_static 6 [(0, .int .i64 nm), (2, .int .i64 other), (7, .pointer (some ⟨g6, 0, none⟩)), (8, .int .i64 5)] (by kernel_rfl) ?_
        refine OI_end rfl ?_
        refine X_then ?_
        refine V_seq ?_
        refine V_region ?_
        refine OI_static 2 [(0, .int .i64 nm), (2, .int .i64 other), (7, .pointer (some ⟨g6, 0, none⟩)), (8, .int .i64 5), (42, .pointer (some ⟨g6, 0, none⟩)), (43, .int .i64 nm)] (by kernel_rfl) ?_
        refine OI_call { callee := (Callee.value (Operand.func 18)), args := #[(Operand.tmp 42), (Operand.tmp 43)], argTypes := #[23, 3] } 18 #[.pointer (some ⟨g6, 0, none⟩), .int .i64 nm] (some 44) (by kernel_rfl) (by kernel_rfl) (by kernel_rfl) (cancel_is any_ g6 [(tk0 nm at1)] nm true [] _ hag16 (fun _ _ => trivial) (by simp [named, tk0, del])) ?_
        rintro _ w17 ⟨rfl, hag19, hk18⟩
        refine ⟨_, rfl, ?_⟩
        replace hK0 := Keep.fresh hK0 hk18 (by intro i hi hs; first | exact hs | exact Or.inl hs | exact Or.inr hs | (exfalso; have hs2 : i = g6 := hs; omega)); have hzhK0 := Keep.size hK0
        skip
        have hltg6 := Ag.lt hag19
        refine OI_static 4 [(0, .int .i64 nm), (2, .int .i64 other), (7, .pointer (some ⟨g6, 0, none⟩)), (8, .int .i64 5), (9, .bool true)] (by kernel_rfl) ?_
        refine OI_end rfl ?_
        refine X_then ?_
        refine V_seq ?_
        refine V_region ?_
        refine OI_static 2 [(0, .int .i64 nm), (2, .int .i64 other), (7, .pointer (some ⟨g6, 0, none⟩)), (8, .int .i64 5), (9, .bool true), (45, .pointer (some ⟨g6, 0, none⟩)), (46, .int .i64 nm)] (by kernel_rfl) ?_
        refine OI_call { callee := (Callee.value (Operand.func 18)), args := #[(Operand.tmp 45), (Operand.tmp 46)], argTypes := #[23, 3] } 18 #[.pointer (some ⟨g6, 0, none⟩), .int .i64 nm] (some 47) (by kernel_rfl) (by kernel_rfl) (by kernel_rfl) (cancel_is any_ g6 [] nm false [] _ hag19 (fun _ _ => trivial) ⟨rfl, rfl⟩) ?_
        rintro _ w20 ⟨rfl, hag22, hk21⟩
        refine ⟨_, rfl, ?_⟩
        replace hK0 := Keep.fresh hK0 hk21 (by intro i hi hs; first | exact hs | exact Or.inl hs | exact Or.inr hs | (exfalso; have hs2 : i = g6 := hs; omega)); have hzhK0 := Keep.size hK0
        skip
        have hltg6 := Ag.lt hag22
        refine OI_static 4 [(0, .int .i64 nm), (2, .int .i64 other), (7, .pointer (some ⟨g6, 0, none⟩)), (8, .int .i64 5), (9, .bool true), (10, .bool false)] (by kernel_rfl) ?_
        refine OI_end rfl ?_
        refine X_then ?_
        refine V_seq ?_
        refine V_region ?_
        refine OI_static 11 [(0, .int .i64 nm), (2, .int .i64 other), (7, .pointer (some ⟨g6, 0, none⟩)), (57, .bool true), (58, .pointer (some ⟨g6, 0, none⟩))] (by kernel_rfl) ?_
        refine OI_call { callee := (Callee.value (Operand.func 14)), args := #[(Operand.tmp 58)], argTypes := #[23] } 14 #[.pointer (some ⟨g6, 0, none⟩)] (some 59) (by kernel_rfl) (by kernel_rfl) (by kernel_rfl) (len_spec any_ g6 [] _ hag22) ?_
        rintro _ w20 ⟨rfl, rfl⟩
        refine ⟨_, rfl, ?_⟩
        refine OI_static 19 [(62, .bool true), (63, .pointer (some ⟨g6, 0, none⟩)), (66, .agg (Tk.cells (tk0 nm other)).toArray)] (by kernel_rfl) ?_
        refine OI_call { callee := (Callee.value (Operand.func 12)), args := #[(Operand.tmp 63), (Operand.tmp 66)], argTypes := #[23, 28] } 12 #[.pointer (some ⟨g6, 0, none⟩), .agg (Tk.cells (tk0 nm other)).toArray] (some 67) (by kernel_rfl) (by kernel_rfl) (by kernel_rfl) (put_is any_ g6 [] (tk0 nm other) 0 [(tk0 nm other)] _ hag22 (fun _ _ => trivial) (put0 (by omega) (by omega) rfl (by simp))) ?_
        rintro _ w27 ⟨rfl, hag29, hk28⟩
        refine ⟨_, rfl, ?_⟩
        replace hK0 := Keep.fresh hK0 hk28 (by intro i hi hs; first | exact hs | exact Or.inl hs | exact Or.inr hs | (exfalso; have hs2 : i = g6 := hs; omega)); have hzhK0 := Keep.size hK0
        skip
        have hltg6 := Ag.lt hag29
        refine OI_static 23 [(70, .bool true)] (by kernel_rfl) ?_
        refine OI_call { callee := (Callee.value (Operand.func 15)), args := #[], argTypes := #[] } 15 #[] (some 71) (by kernel_rfl) (by kernel_rfl) (by kernel_rfl) (known_spec _) ?_
        rintro _ w30 ⟨rfl, hk31⟩
        refine ⟨_, rfl, ?_⟩
        replace hK0 := Keep.tr hK0 (Keep.ofNone hk31); have hzhK0 := Keep.size hK0
        replace hag29 := Ag.keep0 hag29 hk31
        refine OI_static 26 [(6, .bool true)] (by kernel_rfl) ?_
        refine OI_end rfl ?_
        refine X_then ?_
        refine V_ret ?_
        exact X_return (.bool true) rfl ⟨rfl, hK0⟩
end Go.Al
