/-
  Walks of package agenda: the agenda.
-/
import Derived.Test.YtbfecgncndaodaaAg2
namespace Go.Al
open Go Go.RowKit Go.Proofs
/-! ### The agenda -/
def ltT (a b : Tk) : Prop := a.at_ < b.at_ ∨ (a.at_ = b.at_ ∧ (a.pr < b.pr ∨ (a.pr = b.pr ∧ a.name < b.name)))
instance (a b : Tk) : Decidable (ltT a b) := by unfold ltT; infer_instance
theorem ordI_neg (a b : Tk) : ordI a b < 0 ↔ ltT a b := by
  unfold ordI ltT
  simp only [orI, cmpI]
  rcases Int.lt_trichotomy a.at_ b.at_ with h1 | h1 | h1 <;> rcases Int.lt_trichotomy a.pr b.pr with h2 | h2 | h2 <;> rcases Int.lt_trichotomy a.name b.name with h3 | h3 | h3 <;>
    simp_all <;> (repeat' split) <;> omega
theorem ltT_trans {a b c : Tk} (h : ltT a b) (k : ltT b c) : ltT a c := by unfold ltT at *; omega
theorem ltT_total {a b : Tk} (h : ¬ ltT a b) (hn : a.name ≠ b.name) : ltT b a := by unfold ltT at *; omega
def Srt (ts : List Tk) : Prop := ts.Pairwise ltT
/-- Where a task goes. -/
def ins (t : Tk) : List Tk → List Tk
  | [] => [t]
  | x :: l => if ltT x t then x :: ins t l else t :: x :: l
def putR (t : Tk) (ts : List Tk) : Int × List Tk :=
  if t.name < 0 ∨ t.at_ < 0 ∨ t.pr < 0 then (1, ts) else if ts.any (named t.name) then (5, ts) else if 12 ≤ ts.length then (3, ts) else (0, ins t ts)
/-- The agenda at g holds the tasks ts, in order; its array lies in a block of D. -/
def Ag (D : Nat → Prop) (w : World) (g : Nat) (ts : List Tk) : Prop := Srt ts ∧ ts.length ≤ 12 ∧ ∃ A cap, AgAt w g A cap ts ∧ ∀ k, inA A k → D k
theorem Ag.keep0 {D : Nat → Prop} {w w' : World} {g : Nat} {ts : List Tk} (h : Ag D w g ts) (k : Keep none_ w w') : Ag D w' g ts := by
  obtain ⟨h0, h1, A, cap, h2, h3⟩ := h
  exact ⟨h0, h1, A, cap, h2.keep0 k, h3⟩
theorem Ag.keep {D S : Nat → Prop} {w w' : World} {g : Nat} {ts : List Tk} (h : Ag D w g ts) (k : Keep S w w') (hg : ¬ S g) (hD : ∀ k, D k → ¬ S k) : Ag D w' g ts := by
  obtain ⟨h0, h1, A, cap, h2, h3⟩ := h
  exact ⟨h0, h1, A, cap, ⟨h2.blk.keep k hg, h2.sl.keep k (fun k hk => hD k (h3 k hk)), h2.off⟩, h3⟩
theorem Ag.mono {D D' : Nat → Prop} {w : World} {g : Nat} {ts : List Tk} (h : Ag D w g ts) (hD : ∀ k, D k → D' k) : Ag D' w g ts := by
  obtain ⟨h0, h1, A, cap, h2, h3⟩ := h
  exact ⟨h0, h1, A, cap, h2, fun k hk => hD k (h3 k hk)⟩
theorem Ag.fresh {D : Nat → Prop} {w w' : World} {g : Nat} {ts : List Tk} (h : Ag D w g ts) (k : Keep none_ w w') (b : Nat) (hb : w.heap.size ≤ b) : Ag (fun k => D k ∧ k ≠ b) w' g ts := by
  obtain ⟨h0, h1, A, cap, h2, h3⟩ := h
  exact ⟨h0, h1, A, cap, h2.keep0 k, fun q hq => ⟨h3 q hq, by have := SlT.lt h2.sl q hq; omega⟩⟩
theorem Ag.lt {D : Nat → Prop} {w : World} {g : Nat} {ts : List Tk} (h : Ag D w g ts) : g < w.heap.size := by
  obtain ⟨h0, h1, A, cap, h2, h3⟩ := h
  exact h2.blk.lt
theorem ins_at : ∀ (ts : List Tk) (t : Tk) (i : Nat), i ≤ ts.length → (∀ (j : Nat) y, j < i → ts[j]? = some y → ltT y t) → (∀ (j : Nat) y, i ≤ j → ts[j]? = some y → ¬ ltT y t) → ts.take i ++ t :: ts.drop i = ins t ts
  | [], t, i, hi, _, _ => by simp [ins]
  | x :: l, t, 0, _, _, h2 => by simp [ins, h2 0 x (Nat.le_refl _) rfl]
  | x :: l, t, i + 1, hi, h1, h2 => by
    simp only [ins, h1 0 x (Nat.succ_pos _) rfl, if_true, List.take_succ_cons, List.drop_succ_cons, List.cons_append]
    rw [ins_at l t i (by simpa using hi) (fun j y hj hy => h1 (j + 1) y (by omega) (by simpa using hy)) (fun j y hj hy => h2 (j + 1) y (by omega) (by simpa using hy))]
theorem ins_mem {t x : Tk} : ∀ {ts : List Tk}, x ∈ ins t ts ↔ x = t ∨ x ∈ ts
  | [] => by simp [ins]
  | y :: l => by
    simp only [ins]
    split
    · simp only [List.mem_cons, ins_mem]; exact ⟨by rintro (h | h | h) <;> simp [h], by rintro (h | h | h) <;> simp [h]⟩
    · simp
theorem ins_len (t : Tk) : ∀ ts : List Tk, (ins t ts).length = ts.length + 1
  | [] => rfl
  | y :: l => by simp only [ins]; split <;> simp [ins_len t l]
theorem ins_srt {t : Tk} : ∀ {ts : List Tk}, Srt ts → (∀ x ∈ ts, x.name ≠ t.name) → Srt (ins t ts)
  | [], _, _ => by simp [ins, Srt]
  | y :: l, h, hn => by
    have h := List.pairwise_cons.1 h
    simp only [ins]
    split
    · rename_i hy
      refine List.pairwise_cons.2 ⟨fun x hx => ?_, ins_srt h.2 (fun x hx => hn x (List.mem_cons_of_mem _ hx))⟩
      rcases ins_mem.1 hx with rfl | hx
      · exact hy
      · exact h.1 x hx
    · rename_i hy
      have hty := ltT_total hy (hn y (List.mem_cons_self ..))
      refine List.pairwise_cons.2 ⟨fun x hx => ?_, List.pairwise_cons.2 h⟩
      rcases List.mem_cons.1 hx with rfl | hx
      · exact hty
      · exact ltT_trans hty (h.1 x hx)
theorem idxFrom_nonneg {α : Type} (p : α → Bool) : ∀ (ts : List α) (i : Nat), (0 ≤ idxFrom p ts i) ↔ ts.any p = true
  | [], i => by simp [idxFrom]
  | x :: l, i => by
    simp only [idxFrom, List.any_cons, Bool.or_eq_true]
    split
    · rename_i h; simp [h]
    · rename_i h; rw [idxFrom_nonneg p l (i + 1)]; simp [h]
theorem Srt.mono {ts : List Tk} (h : Srt ts) (t : Tk) (i j : Nat) (x y : Tk) (hij : i ≤ j) (hx : ts[i]? = some x) (hy : ts[j]? = some y) (hlt : ordI y t < 0) : ordI x t < 0 := by
  rw [ordI_neg] at *
  rcases Nat.lt_or_eq_of_le hij with hij | rfl
  · obtain ⟨h1, rfl⟩ := List.getElem?_eq_some_iff.1 hx
    obtain ⟨h2, rfl⟩ := List.getElem?_eq_some_iff.1 hy
    exact ltT_trans (List.pairwise_iff_getElem.1 h i j h1 h2 hij) hlt
  · rw [hx] at hy; cases hy; exact hlt

theorem new_spec (D : Nat → Prop) (w : World) : Calls Try.prog 11 #[] w fun e w' => ∃ g, e = .returned (.pointer (some ⟨g, 0, none⟩)) ∧ Ag D w' g [] ∧ Keep none_ w w' ∧ w.heap.size ≤ g := by
  have hK0 : Keep none_ w w := Keep.refl _ _
  have hzhK0 := Keep.size hK0
  refine enterV Try.func11 rfl [] 3 rfl rfl rfl ?_
  refine V_pick [] rfl ?_
  refine V_seq ?_
  refine V_region ?_
  refine OI_static 1 [] (by kernel_rfl) ?_
  refine OI_end rfl ?_
  refine X_then ?_
  refine V_seq ?_
  refine V_region ?_
  refine OI_static 1 [(1, .agg #[.slice none 0 0])] (by kernel_rfl) ?_
  refine OI_box 57 (.tmp 1) (.agg #[.slice none 0 0]) [.slice none 0 0] (some 2) (by kernel_rfl) (by kernel_rfl) (by kernel_rfl) ?_
  intro b1 w1 e1 hb1 k1 z1
  replace hK0 := Keep.tr hK0 (Keep.ofNone k1); have hzhK0 := Keep.size hK0
  have hb1lt := hb1.lt
  refine OI_static 3 [(0, .pointer (some ⟨b1, 0, none⟩))] (by kernel_rfl) ?_
  refine OI_end rfl ?_
  refine X_then ?_
  refine V_ret ?_
  exact X_return _ rfl ⟨_, rfl, ⟨List.Pairwise.nil, by simp, none, 0, ⟨hb1, SlT.nil _ _ _, fun h => inA_none h⟩, fun k hk => (inA_none hk).elim⟩, hK0, by omega⟩

theorem len_spec (D : Nat → Prop) (g : Nat) (ts : List Tk) (w : World) (h : Ag D w g ts) : Calls Try.prog 14 #[.pointer (some ⟨g, 0, none⟩)] w fun e w' => e = .returned (.int .i64 (ts.length : Int)) ∧ w' = w := by
  obtain ⟨_, _, A, cap, h, _⟩ := h
  have hg := h.blk
  have hA := h.sl
  have hglt := hg.lt
  refine enterV Try.func14 rfl [.pointer (some ⟨g, 0, none⟩)] 10 rfl rfl rfl ?_
  refine V_pick [(0, .pointer (some ⟨g, 0, none⟩))] rfl ?_
  refine V_seq ?_
  refine V_region ?_
  refine OI_static 1 [(0, .pointer (some ⟨g, 0, none⟩))] (by kernel_rfl) ?_
  refine OI_end rfl ?_
  refine X_then ?_
  refine V_seq ?_
  refine V_seq ?_
  refine V_region ?_
  refine OI_static 2 [(0, .pointer (some ⟨g, 0, none⟩)), (4, .bool false)] (by kernel_rfl) ?_
  refine OI_end rfl ?_
  refine X_then ?_
  refine V_false rfl ?_
  refine V_skip ?_
  refine X_then ?_
  refine V_seq ?_
  refine V_region ?_
  refine OI_static 3 [(7, .pointer (some ⟨g, 0, none⟩))] (by kernel_rfl) ?_
  refine OI_cell 31 (.tmp 7) 0 (.slice A ts.length cap) (some 8) (by kernel_rfl) (by kernel_rfl) hg (m := 1) (by kernel_rfl) rfl ?_
  refine OI_static 6 [(2, .int .i64 ((ts.length : Nat) : Int))] (by kernel_rfl) ?_
  refine OI_end rfl ?_
  refine X_then ?_
  refine V_ret ?_
  exact X_return _ rfl ⟨rfl, rfl⟩

theorem len_nil (w : World) : Calls Try.prog 14 #[.pointer none] w fun e w' => e = .returned (.int .i64 0) ∧ w' = w := by
  refine enterV Try.func14 rfl [.pointer none] 10 rfl rfl rfl ?_
  refine V_pick [(0, .pointer none)] rfl ?_
  refine V_seq ?_
  refine V_region ?_
  refine OI_static 1 [(0, .pointer none)] (by kernel_rfl) ?_
  refine OI_end rfl ?_
  refine X_then ?_
  refine V_seq ?_
  refine V_seq ?_
  refine V_region ?_
  refine OI_static 2 [(0, .pointer none), (4, .bool true)] (by kernel_rfl) ?_
  refine OI_end rfl ?_
  refine X_then ?_
  refine V_true rfl ?_
  refine V_seq ?_
  refine V_region ?_
  refine OI_static 1 [(2, .int .i64 0)] (by kernel_rfl) ?_
  refine OI_end rfl ?_
  refine X_then ?_
  refine V_ret ?_
  refine X_ret_then ?_
  exact X_return _ rfl ⟨rfl, rfl⟩

theorem put_spec (D : Nat → Prop) (g : Nat) (ts : List Tk) (t : Tk) (w : World) (h : Ag D w g ts) (hD : ∀ k, w.heap.size ≤ k → D k) : Calls Try.prog 12 #[.pointer (some ⟨g, 0, none⟩), .agg t.cells.toArray] w fun e w' => e = .returned (.int .i64 (putR t ts).1) ∧ Ag D w' g (putR t ts).2 ∧ Keep (only g) w w' := by
  obtain ⟨hs, hlen, A, cap, h, hDA⟩ := h
  have hgA := h.off
  have hg := h.blk
  have hA := h.sl
  have hglt := hg.lt
  have hltA := SlT.lt hA
  have hK0 : Keep (only g) w w := Keep.refl _ _
  have hzhK0 := Keep.size hK0
  refine enterV Try.func12 rfl [.pointer (some ⟨g, 0, none⟩), .agg (Tk.cells t).toArray] 59 rfl rfl rfl ?_
  refine V_pick [(0, .pointer (some ⟨g, 0, none⟩)), (1, .agg (Tk.cells t).toArray)] rfl ?_
  refine V_seq ?_
  refine V_region ?_
  refine OI_box 28 (.tmp 1) (.agg (Tk.cells t).toArray) (Tk.cells t) (some 3) (by kernel_rfl) (by kernel_rfl) rfl ?_
  intro b1 w1 e1 hb1 k1 z1
  replace hg := hg.keep k1 (fun f => f)
  have hglt := hg.lt
  replace hA := SlT.keep0 hA k1
  replace hK0 := Keep.tr hK0 (Keep.ofNone k1); have hzhK0 := Keep.size hK0
  have hb1lt := hb1.lt
  refine OI_static 2 [(0, .pointer (some ⟨g, 0, none⟩)), (3, .pointer (some ⟨b1, 0, none⟩))] (by kernel_rfl) ?_
  refine OI_end rfl ?_
  refine X_then ?_
  refine V_seq ?_
  refine V_block ?_
  refine V_seq ?_
  refine V_region ?_
  refine OI_static 4 [(0, .pointer (some ⟨g, 0, none⟩)), (3, .pointer (some ⟨b1, 0, none⟩)), (10, .bool false), (11, .pointer (some ⟨b1, 0, none⟩))] (by kernel_rfl) ?_
  refine OI_cell 3 (.tmp 11) 0 (.int .i64 t.name) (some 12) (by kernel_rfl) (by kernel_rfl) hb1 (m := 1) (by kernel_rfl) rfl ?_
  refine OI_static 8 [(0, .pointer (some ⟨g, 0, none⟩)), (3, .pointer (some ⟨b1, 0, none⟩)), (15, .bool (decide (t.name < 0)))] (by kernel_rfl) ?_
  by_cases hg2 : t.name < 0
  · skip
    refine OI_eq [(0, .pointer (some ⟨g, 0, none⟩)), (3, .pointer (some ⟨b1, 0, none⟩)), (15, .bool true)] (by simp [hg2]) ?_
    refine OI_static 18 [(0, .pointer (some ⟨g, 0, none⟩)), (3, .pointer (some ⟨b1, 0, none⟩)), (7, .bool true)] (by kernel_rfl) ?_
    refine OI_end rfl ?_
    refine X_then ?_
    refine V_true rfl ?_
    refine V_seq ?_
    refine V_region ?_
    refine OI_static 1 [(4, .int .i64 1)] (by kernel_rfl) ?_
    refine OI_end rfl ?_
    refine X_then ?_
    refine V_ret ?_
    refine X_ret_block ?_
    refine X_ret_then ?_
    have hp : putR t ts = (1, ts) := if_pos (by omega)
    rw [hp]
    exact X_return _ rfl ⟨rfl, ⟨hs, hlen, A, cap, ⟨hg, hA, hgA⟩, hDA⟩, hK0⟩
  · skip
    refine OI_eq [(0, .pointer (some ⟨g, 0, none⟩)), (3, .pointer (some ⟨b1, 0, none⟩)), (15, .bool false)] (by simp [hg2]) ?_
    refine OI_static 9 [(0, .pointer (some ⟨g, 0, none⟩)), (3, .pointer (some ⟨b1, 0, none⟩)), (15, .bool false), (16, .pointer (some ⟨b1, 1, none⟩))] (by kernel_rfl) ?_
    refine OI_cell 3 (.tmp 16) 1 (.int .i64 t.at_) (some 17) (by kernel_rfl) (by kernel_rfl) hb1 (m := 1) (by kernel_rfl) rfl ?_
    refine OI_static 13 [(0, .pointer (some ⟨g, 0, none⟩)), (3, .pointer (some ⟨b1, 0, none⟩)), (20, .bool (decide (t.at_ < 0)))] (by kernel_rfl) ?_
    by_cases hg3 : t.at_ < 0
    · skip
      refine OI_eq [(0, .pointer (some ⟨g, 0, none⟩)), (3, .pointer (some ⟨b1, 0, none⟩)), (20, .bool true)] (by simp [hg3]) ?_
      refine OI_static 18 [(0, .pointer (some ⟨g, 0, none⟩)), (3, .pointer (some ⟨b1, 0, none⟩)), (7, .bool true)] (by kernel_rfl) ?_
      refine OI_end rfl ?_
      refine X_then ?_
      refine V_true rfl ?_
      refine V_seq ?_
      refine V_region ?_
      refine OI_static 1 [(4, .int .i64 1)] (by kernel_rfl) ?_
      refine OI_end rfl ?_
      refine X_then ?_
      refine V_ret ?_
      refine X_ret_block ?_
      refine X_ret_then ?_
      have hp : putR t ts = (1, ts) := if_pos (by omega)
      rw [hp]
      exact X_return _ rfl ⟨rfl, ⟨hs, hlen, A, cap, ⟨hg, hA, hgA⟩, hDA⟩, hK0⟩
    · skip
      refine OI_eq [(0, .pointer (some ⟨g, 0, none⟩)), (3, .pointer (some ⟨b1, 0, none⟩)), (20, .bool false)] (by simp [hg3]) ?_
      refine OI_static 14 [(0, .pointer (some ⟨g, 0, none⟩)), (3, .pointer (some ⟨b1, 0, none⟩)), (20, .bool false), (21, .pointer (some ⟨b1, 2, none⟩))] (by kernel_rfl) ?_
      refine OI_cell 3 (.tmp 21) 2 (.int .i64 t.pr) (some 22) (by kernel_rfl) (by kernel_rfl) hb1 (m := 1) (by kernel_rfl) rfl ?_
      refine OI_static 18 [(0, .pointer (some ⟨g, 0, none⟩)), (3, .pointer (some ⟨b1, 0, none⟩)), (7, .bool (decide (t.pr < 0)))] (by kernel_rfl) ?_
      refine OI_end rfl ?_
      refine X_then ?_
      refine V_if (t.pr < 0) (by kernel_rfl) (fun hc4 => ?_) (fun hc4 => ?_)
      · skip
        refine V_seq ?_
        refine V_region ?_
        refine OI_static 1 [(4, .int .i64 1)] (by kernel_rfl) ?_
        refine OI_end rfl ?_
        refine X_then ?_
        refine V_ret ?_
        refine X_ret_block ?_
        refine X_ret_then ?_
        have hp : putR t ts = (1, ts) := if_pos (by omega)
        rw [hp]
        exact X_return _ rfl ⟨rfl, ⟨hs, hlen, A, cap, ⟨hg, hA, hgA⟩, hDA⟩, hK0⟩
      · skip
        refine V_seq ?_
        refine V_region ?_
        refine OI_static 2 [(0, .pointer (some ⟨g, 0, none⟩)), (3, .pointer (some ⟨b1, 0, none⟩)), (26, .pointer (some ⟨g, 0, none⟩)), (27, .pointer (some ⟨b1, 0, none⟩))] (by kernel_rfl) ?_
        refine OI_cell 3 (.tmp 27) 0 (.int .i64 t.name) (some 28) (by kernel_rfl) (by kernel_rfl) hb1 (m := 1) (by kernel_rfl) rfl ?_
        refine OI_call { callee := (Callee.value (Operand.func 23)), args := #[(Operand.tmp 26), (Operand.tmp 28)], argTypes := #[23, 3] } 23 #[.pointer (some ⟨g, 0, none⟩), .int .i64 t.name] (some 29) (by kernel_rfl) (by kernel_rfl) (by kernel_rfl) (place_spec g cap A ts t.name _ ⟨hg, hA, hgA⟩ (by omega)) ?_
        rintro _ w5 ⟨rfl, hk6⟩
        refine ⟨_, rfl, ?_⟩
        replace hg := hg.keep hk6 (fun f => f)
        have hglt := hg.lt
        replace hb1 := hb1.keep hk6 (fun f => f)
        have hb1lt := hb1.lt
        replace hA := SlT.keep0 hA hk6
        replace hK0 := Keep.tr hK0 (Keep.ofNone hk6); have hzhK0 := Keep.size hK0
        refine OI_static 6 [(0, .pointer (some ⟨g, 0, none⟩)), (3, .pointer (some ⟨b1, 0, none⟩)), (25, .bool (decide (idxFrom (named t.name) ts 0 ≥ 0)))] (by kernel_rfl) ?_
        refine OI_end rfl ?_
        refine X_then ?_
        refine V_if (idxFrom (named t.name) ts 0 ≥ 0) (by kernel_rfl) (fun hc7 => ?_) (fun hc7 => ?_)
        · skip
          refine V_seq ?_
          refine V_region ?_
          refine OI_static 1 [(4, .int .i64 5)] (by kernel_rfl) ?_
          refine OI_end rfl ?_
          refine X_then ?_
          refine V_ret ?_
          refine X_ret_block ?_
          refine X_ret_then ?_
          have hp0 : ¬ (t.name < 0 ∨ t.at_ < 0 ∨ t.pr < 0) := by omega
          have hp : putR t ts = (5, ts) := by unfold putR; rw [if_neg hp0, if_pos ((idxFrom_nonneg _ _ _).1 hc7)]
          rw [hp]
          exact X_return _ rfl ⟨rfl, ⟨hs, hlen, A, cap, ⟨hg, hA, hgA⟩, hDA⟩, hK0⟩
        · skip
          refine V_seq ?_
          refine V_region ?_
          refine OI_static 3 [(0, .pointer (some ⟨g, 0, none⟩)), (3, .pointer (some ⟨b1, 0, none⟩)), (34, .pointer (some ⟨g, 0, none⟩))] (by kernel_rfl) ?_
          refine OI_cell 31 (.tmp 34) 0 (.slice A ts.length cap) (some 35) (by kernel_rfl) (by kernel_rfl) hg (m := 1) (by kernel_rfl) rfl ?_
          refine OI_static 7 [(0, .pointer (some ⟨g, 0, none⟩)), (3, .pointer (some ⟨b1, 0, none⟩)), (31, .bool (decide (((ts.length : Nat) : Int) ≥ 12)))] (by kernel_rfl) ?_
          refine OI_end rfl ?_
          refine X_then ?_
          refine V_if (((ts.length : Nat) : Int) ≥ 12) (by kernel_rfl) (fun hc8 => ?_) (fun hc8 => ?_)
          · skip
            refine V_seq ?_
            refine V_region ?_
            refine OI_static 1 [(4, .int .i64 3)] (by kernel_rfl) ?_
            refine OI_end rfl ?_
            refine X_then ?_
            refine V_ret ?_
            refine X_ret_block ?_
            refine X_ret_then ?_
            have hp0 : ¬ (t.name < 0 ∨ t.at_ < 0 ∨ t.pr < 0) := by omega
            have hany : ¬ ts.any (named t.name) = true := fun h => hc7 ((idxFrom_nonneg _ _ 0).2 h)
            have hp : putR t ts = (3, ts) := by unfold putR; rw [if_neg hp0, if_neg hany, if_pos (by omega)]
            rw [hp]
            exact X_return _ rfl ⟨rfl, ⟨hs, hlen, A, cap, ⟨hg, hA, hgA⟩, hDA⟩, hK0⟩
          · skip
            refine V_skip ?_
            refine X_block ?_
            refine X_then ?_
            refine V_seq ?_
            refine V_draws (acts [5]) none_ [[0, 1, 2, 3, 4, 5, 6, 7, 8, 9, 10]] (by kernel_rfl) (by repeat first | exact sure_body (by rintro _ _ ⟨h, _⟩; exact ⟨_, h⟩) | refine sure_then ?_ | refine sure_block ?_ | refine sure_join ?_) (by kernel_rfl) ?_
            intro w10 hk9 he11 L hL12
            replace hg := hg.keep hk9 (fun f => f)
            have hglt := hg.lt
            replace hb1 := hb1.keep hk9 (fun f => f)
            have hb1lt := hb1.lt
            replace hA := SlT.keep0 hA hk9
            replace hK0 := Keep.tr hK0 (Keep.ofNone hk9); have hzhK0 := Keep.size hK0
            have qhg := hg
            have qhb1 := hb1
            have K13 : Keep none_ w10 w10 := Keep.refl _ _
            obtain rfl := List.mem_singleton.1 hL12
            refine GI_static [3, 4, 5, 6, 7, 8, 9, 10] [(0, .pointer (some ⟨g, 0, none⟩)), (3, .pointer (some ⟨b1, 0, none⟩)), (41, .pointer (some ⟨g, 0, none⟩))] (by kernel_rfl) ?_
            refine GI_cell 31 (.tmp 41) 0 (.slice A ts.length cap) (some 42) (by kernel_rfl) (by kernel_rfl) (by kernel_rfl) qhg (fun f => f) (m := 1) (by kernel_rfl) rfl ?_
            refine GI_agg 28 (.tmp 3) 0 (Tk.cells t) (some 43) (by kernel_rfl) (by kernel_rfl) (by kernel_rfl) qhb1 (fun f => f) (m := 36) (by kernel_rfl) (take_all (Tk.len _)) (Tk.len _) ?_
            refine GI_call { callee := (Callee.value (Operand.func 24)), args := #[(Operand.tmp 42), (Operand.tmp 43), (Operand.func 25)], argTypes := #[31, 28, 61] } 24 #[.slice A ts.length cap, .agg (Tk.cells t).toArray, .func (.func 25) #[] #[]] (some 44) (by kernel_rfl) (by kernel_rfl) (by kernel_rfl) (by kernel_rfl) (bsearch_spec A cap ts t _ hA (by omega) (Srt.mono hs t)) ?_
            rintro _ w14 ⟨i, bb, rfl, hk15, hi, hbef, haft⟩
            have K16 := K13.tr (Keep.ofNone hk15)
            refine ⟨_, rfl, K16, ?_⟩
            have hzK16 := Keep.size K16
            replace hg := hg.keep hk15 (fun f => f)
            have hglt := hg.lt
            replace hb1 := hb1.keep hk15 (fun f => f)
            have hb1lt := hb1.lt
            replace hA := SlT.keep0 hA hk15
            replace hK0 := Keep.tr hK0 (Keep.ofNone hk15); have hzhK0 := Keep.size hK0
            refine GI_static [] [(0, .pointer (some ⟨g, 0, none⟩)), (3, .pointer (some ⟨b1, 0, none⟩)), (5, .int .i64 ((i : Nat) : Int))] (by kernel_rfl) ?_
            refine GI_end ?_
            refine X_then ?_
            refine V_seq ?_
            refine V_draws (acts [4, 5, 8, 9, 12]) (only g) [[1, 2, 3, 4, 5, 7, 8, 6, 9, 0, 10, 11, 12], [1, 2, 3, 4, 7, 8, 5, 6, 9, 0, 10, 11, 12], [7, 8, 1, 2, 3, 4, 5, 6, 9, 0, 10, 11, 12]] (by kernel_rfl) (by repeat first | exact sure_body (by rintro _ _ ⟨h, _⟩; exact ⟨_, h⟩) | refine sure_then ?_ | refine sure_block ?_ | refine sure_join ?_) (by kernel_rfl) ?_
            intro w18 hk17 he19 L hL20
            replace hg := hg.keep hk17 (fun f => f)
            have hglt := hg.lt
            replace hb1 := hb1.keep hk17 (fun f => f)
            have hb1lt := hb1.lt
            replace hA := SlT.keep0 hA hk17
            replace hK0 := Keep.tr hK0 (Keep.ofNone hk17); have hzhK0 := Keep.size hK0
            have qhg := hg
            have qhb1 := hb1
            have K21 : Keep (only g) w18 w18 := Keep.refl _ _
            simp only [List.mem_cons, List.not_mem_nil, or_false] at hL20
            rcases hL20 with rfl | rfl | rfl
            · skip
              refine GI_static [4, 5, 7, 8, 6, 9, 0, 10, 11, 12] [(0, .pointer (some ⟨g, 0, none⟩)), (3, .pointer (some ⟨b1, 0, none⟩)), (5, .int .i64 ((i : Nat) : Int)), (50, .pointer (some ⟨g, 0, none⟩))] (by kernel_rfl) ?_
              refine GI_cellA 31 (.tmp 50) 0 (.slice A ts.length cap) (some 51) (by kernel_rfl) (by kernel_rfl) K21 (by kernel_rfl) hg (m := 1) (by kernel_rfl) rfl ?_
              refine GI_call { callee := (Callee.value (Operand.func 27)), args := #[(Operand.tmp 51)], argTypes := #[31] } 27 #[.slice A ts.length cap] (some 52) (by kernel_rfl) (by kernel_rfl) (by kernel_rfl) (by kernel_rfl) (cloneTk_spec A cap ts _ hA (by omega)) ?_
              rintro _ w22 ⟨A9, cap9, rfl, h9, hk23, hown9⟩
              have K24 := K21.tr (Keep.ofNone hk23)
              refine ⟨_, rfl, K24, ?_⟩
              have hzK24 := Keep.size K24
              replace hg := hg.keep hk23 (fun f => f)
              have hglt := hg.lt
              replace hb1 := hb1.keep hk23 (fun f => f)
              have hb1lt := hb1.lt
              replace hA := SlT.keep0 hA hk23
              replace hK0 := Keep.tr hK0 (Keep.ofNone hk23); have hzhK0 := Keep.size hK0
              have hlt9 := SlT.lt h9
              refine GI_agg 28 (.tmp 3) 0 (Tk.cells t) (some 54) (by kernel_rfl) (by kernel_rfl) (by kernel_rfl) qhb1 (by show ¬ (_ = _); omega) (m := 36) (by kernel_rfl) (take_all (Tk.len _)) (Tk.len _) ?_
              refine GI_slit (E := 28) (zv := .agg #[.int .i64 0, .int .i64 0, .int .i64 0, .int .u8 0, .int .u8 0, .int .u8 0, .int .u8 0, .int .u8 0, .int .u8 0, .int .u8 0, .int .u8 0, .int .u8 0, .int .u8 0, .int .u8 0, .int .u8 0, .int .u8 0, .int .u8 0, .int .u8 0, .int .u8 0, .int .u8 0, .int .u8 0, .int .u8 0, .int .u8 0, .int .u8 0, .int .u8 0, .int .u8 0, .int .u8 0, .int .u8 0, .int .u8 0, .int .u8 0, .int .u8 0, .int .u8 0, .int .u8 0, .int .u8 0, .int .u8 0, .int .i64 0]) (sz := 36) (by_ := 64) 31 1 #[(0, (Operand.tmp 54))] [.agg (Tk.cells t).toArray] (Tk.cells t) (some 55) (by kernel_rfl) (by kernel_rfl) K24 (by kernel_rfl) (by kernel_rfl) (by omega) rfl (by omega) (by intro v hv; obtain rfl := List.mem_singleton.1 hv; show (Tk.cells t).toArray.size = 36; simp [Tk.len]) (by kernel_rfl) (by show (Tk.cells t).toArray.toList ++ [] = _; simp) ?_
              intro b25 w25 e25 hb25 k25 z25 K26
              replace hg := hg.keep k25 (fun f => f)
              have hglt := hg.lt
              replace hb1 := hb1.keep k25 (fun f => f)
              have hb1lt := hb1.lt
              replace hA := SlT.keep0 hA k25
              replace h9 := SlT.keep0 h9 k25
              replace hK0 := Keep.tr hK0 (Keep.ofNone k25); have hzhK0 := Keep.size hK0
              have hb25lt := hb25.lt
              refine GI_static [9, 0, 10, 11, 12] [(0, .pointer (some ⟨g, 0, none⟩)), (52, .slice A9 ts.length cap9), (53, .int .i64 ((i : Nat) : Int)), (55, .slice (some ⟨b25, 0, none⟩) 1 1)] (by kernel_rfl) ?_
              have hne9 : ¬ inA A9 b25 := fun hs => by have h1 := hlt9 _ hs; have h2 := hown9 _ hs; omega
              refine GI_call { callee := (Callee.value (Operand.func 26)), args := #[(Operand.tmp 52), (Operand.tmp 53), (Operand.tmp 55)], argTypes := #[31, 3, 31] } 26 #[.slice A9 ts.length cap9, .int .i64 ((i : Nat) : Int), .slice (some ⟨b25, 0, none⟩) 1 1] (some 56) (by kernel_rfl) (by kernel_rfl) (by kernel_rfl) (by kernel_rfl) (insertTk_spec A9 cap9 b25 i ts t _ h9 hb25 hne9 hi (by omega)) ?_
              rintro _ w27 ⟨A10, cap10, rfl, h10, hk28, hown10⟩
              have K29 := Keep.fresh K26 hk28 (by intro i hi hs; exfalso; have h2 := hown9 i hs; omega)
              refine ⟨_, rfl, K29, ?_⟩
              have hzK29 := Keep.size K29
              replace hg := hg.keep hk28 (fun hs => by have h1 := hlt9 _ hs; have h2 := hown9 _ hs; omega)
              have hglt := hg.lt
              replace hb1 := hb1.keep hk28 (fun hs => by have h1 := hlt9 _ hs; have h2 := hown9 _ hs; omega)
              have hb1lt := hb1.lt
              replace hb25 := hb25.keep hk28 (fun hs => by have h1 := hlt9 _ hs; have h2 := hown9 _ hs; omega)
              have hb25lt := hb25.lt
              replace hA := SlT.keep hA hk28 (fun k hk hs => by have h1 := hltA _ hk; have h2 := hown9 _ hs; omega)
              replace hK0 := Keep.fresh hK0 hk28 (by intro i hi hs; exfalso; have h2 := hown9 i hs; omega); have hzhK0 := Keep.size hK0
              have hgA10 : ¬ inA A10 g := fun hs => by rcases hown10 _ hs with h | h; (have h2 := hown9 _ h; omega); omega
              refine GI_static [12] [(56, .slice A10 (ts.length + 1) cap10), (58, .pointer (some ⟨g, 0, none⟩))] (by kernel_rfl) ?_
              refine GI_set (m := 1) (kd := false) 31 (.tmp 58) (.tmp 56) 0 (.slice A10 (ts.length + 1) cap10) [.slice A10 (ts.length + 1) cap10] none (by kernel_rfl) (by kernel_rfl) (by kernel_rfl) (by kernel_rfl) hg (by kernel_rfl) (by kernel_rfl) (by kernel_rfl) (Nat.le_of_ble_eq_true (by kernel_rfl)) (by simp [Value.oneCell']) K29 (fun hh => rfl) ?_
              intro w30 hg_33 hk31 hz32 K34
              replace hg_33 : Blk w30 g [.slice A10 (ts.length + 1) cap10] 57 := hg_33
              replace hb1 := hb1.keep hk31 (by show ¬ (_ = _); omega)
              have hb1lt := hb1.lt
              replace hb25 := hb25.keep hk31 (by show ¬ (_ = _); omega)
              have hb25lt := hb25.lt
              replace hA := SlT.keep hA hk31 (fun k hk hs => by have hs : k = g := hs; subst hs; exact hgA hk)
              replace h10 := SlT.keep h10 hk31 (fun k hk hs => by have hs : k = g := hs; subst hs; exact hgA10 hk)
              replace hK0 := Keep.fresh hK0 hk31 (by intro i hi hs; first | exact hs | exact Or.inl hs | exact Or.inr hs | (exfalso; have hs2 : i = g := hs; omega)); have hzhK0 := Keep.size hK0
              refine GI_end ?_
              refine X_then ?_
              refine V_seq ?_
              refine V_region ?_
              refine OI_static 1 [(4, .int .i64 0)] (by kernel_rfl) ?_
              refine OI_end rfl ?_
              refine X_then ?_
              refine V_ret ?_
              have hp0 : ¬ (t.name < 0 ∨ t.at_ < 0 ∨ t.pr < 0) := by omega
              have hany : ¬ ts.any (named t.name) = true := fun h => hc7 ((idxFrom_nonneg _ _ 0).2 h)
              have hp : putR t ts = (0, ins t ts) := by unfold putR; rw [if_neg hp0, if_neg hany, if_neg (by omega)]
              have hins : ts.take i ++ t :: ts.drop i = ins t ts := ins_at ts t i hi (fun j y hj hy => (ordI_neg _ _).1 (hbef j y hj hy)) (fun j y hj hy h => haft j y hj hy ((ordI_neg _ _).2 h))
              rw [hins] at h10
              have hnn : ∀ x ∈ ts, x.name ≠ t.name := fun x hx hh => hany (List.any_eq_true.2 ⟨x, hx, by simp [named, hh]⟩)
              rw [hp]
              exact X_return _ rfl ⟨rfl, ⟨ins_srt hs hnn, by rw [ins_len]; omega, A10, cap10, ⟨by rw [ins_len]; exact hg_33, h10, hgA10⟩, fun k hk => hD k (by rcases hown10 _ hk with h | h; (have h2 := hown9 _ h; omega); omega)⟩, hK0⟩
            · skip
              refine GI_static [4, 7, 8, 5, 6, 9, 0, 10, 11, 12] [(0, .pointer (some ⟨g, 0, none⟩)), (3, .pointer (some ⟨b1, 0, none⟩)), (5, .int .i64 ((i : Nat) : Int)), (50, .pointer (some ⟨g, 0, none⟩))] (by kernel_rfl) ?_
              refine GI_cellA 31 (.tmp 50) 0 (.slice A ts.length cap) (some 51) (by kernel_rfl) (by kernel_rfl) K21 (by kernel_rfl) hg (m := 1) (by kernel_rfl) rfl ?_
              refine GI_agg 28 (.tmp 3) 0 (Tk.cells t) (some 54) (by kernel_rfl) (by kernel_rfl) (by kernel_rfl) qhb1 (by show ¬ (_ = _); omega) (m := 36) (by kernel_rfl) (take_all (Tk.len _)) (Tk.len _) ?_
              refine GI_slit (E := 28) (zv := .agg #[.int .i64 0, .int .i64 0, .int .i64 0, .int .u8 0, .int .u8 0, .int .u8 0, .int .u8 0, .int .u8 0, .int .u8 0, .int .u8 0, .int .u8 0, .int .u8 0, .int .u8 0, .int .u8 0, .int .u8 0, .int .u8 0, .int .u8 0, .int .u8 0, .int .u8 0, .int .u8 0, .int .u8 0, .int .u8 0, .int .u8 0, .int .u8 0, .int .u8 0, .int .u8 0, .int .u8 0, .int .u8 0, .int .u8 0, .int .u8 0, .int .u8 0, .int .u8 0, .int .u8 0, .int .u8 0, .int .u8 0, .int .i64 0]) (sz := 36) (by_ := 64) 31 1 #[(0, (Operand.tmp 54))] [.agg (Tk.cells t).toArray] (Tk.cells t) (some 55) (by kernel_rfl) (by kernel_rfl) K21 (by kernel_rfl) (by kernel_rfl) (by omega) rfl (by omega) (by intro v hv; obtain rfl := List.mem_singleton.1 hv; show (Tk.cells t).toArray.size = 36; simp [Tk.len]) (by kernel_rfl) (by show (Tk.cells t).toArray.toList ++ [] = _; simp) ?_
              intro b35 w35 e35 hb35 k35 z35 K36
              replace hg := hg.keep k35 (fun f => f)
              have hglt := hg.lt
              replace hb1 := hb1.keep k35 (fun f => f)
              have hb1lt := hb1.lt
              replace hA := SlT.keep0 hA k35
              replace hK0 := Keep.tr hK0 (Keep.ofNone k35); have hzhK0 := Keep.size hK0
              have hb35lt := hb35.lt
              refine GI_call { callee := (Callee.value (Operand.func 27)), args := #[(Operand.tmp 51)], argTypes := #[31] } 27 #[.slice A ts.length cap] (some 52) (by kernel_rfl) (by kernel_rfl) (by kernel_rfl) (by kernel_rfl) (cloneTk_spec A cap ts _ hA (by omega)) ?_
              rintro _ w37 ⟨A9, cap9, rfl, h9, hk38, hown9⟩
              have K39 := K36.tr (Keep.ofNone hk38)
              refine ⟨_, rfl, K39, ?_⟩
              have hzK39 := Keep.size K39
              replace hg := hg.keep hk38 (fun f => f)
              have hglt := hg.lt
              replace hb1 := hb1.keep hk38 (fun f => f)
              have hb1lt := hb1.lt
              replace hb35 := hb35.keep hk38 (fun f => f)
              have hb35lt := hb35.lt
              replace hA := SlT.keep0 hA hk38
              replace hK0 := Keep.tr hK0 (Keep.ofNone hk38); have hzhK0 := Keep.size hK0
              have hlt9 := SlT.lt h9
              refine GI_static [9, 0, 10, 11, 12] [(0, .pointer (some ⟨g, 0, none⟩)), (52, .slice A9 ts.length cap9), (53, .int .i64 ((i : Nat) : Int)), (55, .slice (some ⟨b35, 0, none⟩) 1 1)] (by kernel_rfl) ?_
              have hne9 : ¬ inA A9 b35 := fun hs => by have h1 := hlt9 _ hs; have h2 := hown9 _ hs; omega
              refine GI_call { callee := (Callee.value (Operand.func 26)), args := #[(Operand.tmp 52), (Operand.tmp 53), (Operand.tmp 55)], argTypes := #[31, 3, 31] } 26 #[.slice A9 ts.length cap9, .int .i64 ((i : Nat) : Int), .slice (some ⟨b35, 0, none⟩) 1 1] (some 56) (by kernel_rfl) (by kernel_rfl) (by kernel_rfl) (by kernel_rfl) (insertTk_spec A9 cap9 b35 i ts t _ h9 hb35 hne9 hi (by omega)) ?_
              rintro _ w40 ⟨A10, cap10, rfl, h10, hk41, hown10⟩
              have K42 := Keep.fresh K39 hk41 (by intro i hi hs; exfalso; have h2 := hown9 i hs; omega)
              refine ⟨_, rfl, K42, ?_⟩
              have hzK42 := Keep.size K42
              replace hg := hg.keep hk41 (fun hs => by have h1 := hlt9 _ hs; have h2 := hown9 _ hs; omega)
              have hglt := hg.lt
              replace hb1 := hb1.keep hk41 (fun hs => by have h1 := hlt9 _ hs; have h2 := hown9 _ hs; omega)
              have hb1lt := hb1.lt
              replace hb35 := hb35.keep hk41 (fun hs => by have h1 := hlt9 _ hs; have h2 := hown9 _ hs; omega)
              have hb35lt := hb35.lt
              replace hA := SlT.keep hA hk41 (fun k hk hs => by have h1 := hltA _ hk; have h2 := hown9 _ hs; omega)
              replace hK0 := Keep.fresh hK0 hk41 (by intro i hi hs; exfalso; have h2 := hown9 i hs; omega); have hzhK0 := Keep.size hK0
              have hgA10 : ¬ inA A10 g := fun hs => by rcases hown10 _ hs with h | h; (have h2 := hown9 _ h; omega); omega
              refine GI_static [12] [(56, .slice A10 (ts.length + 1) cap10), (58, .pointer (some ⟨g, 0, none⟩))] (by kernel_rfl) ?_
              refine GI_set (m := 1) (kd := false) 31 (.tmp 58) (.tmp 56) 0 (.slice A10 (ts.length + 1) cap10) [.slice A10 (ts.length + 1) cap10] none (by kernel_rfl) (by kernel_rfl) (by kernel_rfl) (by kernel_rfl) hg (by kernel_rfl) (by kernel_rfl) (by kernel_rfl) (Nat.le_of_ble_eq_true (by kernel_rfl)) (by simp [Value.oneCell']) K42 (fun hh => rfl) ?_
              intro w43 hg_46 hk44 hz45 K47
              replace hg_46 : Blk w43 g [.slice A10 (ts.length + 1) cap10] 57 := hg_46
              replace hb1 := hb1.keep hk44 (by show ¬ (_ = _); omega)
              have hb1lt := hb1.lt
              replace hb35 := hb35.keep hk44 (by show ¬ (_ = _); omega)
              have hb35lt := hb35.lt
              replace hA := SlT.keep hA hk44 (fun k hk hs => by have hs : k = g := hs; subst hs; exact hgA hk)
              replace h10 := SlT.keep h10 hk44 (fun k hk hs => by have hs : k = g := hs; subst hs; exact hgA10 hk)
              replace hK0 := Keep.fresh hK0 hk44 (by intro i hi hs; first | exact hs | exact Or.inl hs | exact Or.inr hs | (exfalso; have hs2 : i = g := hs; omega)); have hzhK0 := Keep.size hK0
              refine GI_end ?_
              refine X_then ?_
              refine V_seq ?_
              refine V_region ?_
              refine OI_static 1 [(4, .int .i64 0)] (by kernel_rfl) ?_
              refine OI_end rfl ?_
              refine X_then ?_
              refine V_ret ?_
              have hp0 : ¬ (t.name < 0 ∨ t.at_ < 0 ∨ t.pr < 0) := by omega
              have hany : ¬ ts.any (named t.name) = true := fun h => hc7 ((idxFrom_nonneg _ _ 0).2 h)
              have hp : putR t ts = (0, ins t ts) := by unfold putR; rw [if_neg hp0, if_neg hany, if_neg (by omega)]
              have hins : ts.take i ++ t :: ts.drop i = ins t ts := ins_at ts t i hi (fun j y hj hy => (ordI_neg _ _).1 (hbef j y hj hy)) (fun j y hj hy h => haft j y hj hy ((ordI_neg _ _).2 h))
              rw [hins] at h10
              have hnn : ∀ x ∈ ts, x.name ≠ t.name := fun x hx hh => hany (List.any_eq_true.2 ⟨x, hx, by simp [named, hh]⟩)
              rw [hp]
              exact X_return _ rfl ⟨rfl, ⟨ins_srt hs hnn, by rw [ins_len]; omega, A10, cap10, ⟨by rw [ins_len]; exact hg_46, h10, hgA10⟩, fun k hk => hD k (by rcases hown10 _ hk with h | h; (have h2 := hown9 _ h; omega); omega)⟩, hK0⟩
            · skip
              refine GI_agg 28 (.tmp 3) 0 (Tk.cells t) (some 54) (by kernel_rfl) (by kernel_rfl) (by kernel_rfl) qhb1 (by show ¬ (_ = _); omega) (m := 36) (by kernel_rfl) (take_all (Tk.len _)) (Tk.len _) ?_
              refine GI_slit (E := 28) (zv := .agg #[.int .i64 0, .int .i64 0, .int .i64 0, .int .u8 0, .int .u8 0, .int .u8 0, .int .u8 0, .int .u8 0, .int .u8 0, .int .u8 0, .int .u8 0, .int .u8 0, .int .u8 0, .int .u8 0, .int .u8 0, .int .u8 0, .int .u8 0, .int .u8 0, .int .u8 0, .int .u8 0, .int .u8 0, .int .u8 0, .int .u8 0, .int .u8 0, .int .u8 0, .int .u8 0, .int .u8 0, .int .u8 0, .int .u8 0, .int .u8 0, .int .u8 0, .int .u8 0, .int .u8 0, .int .u8 0, .int .u8 0, .int .i64 0]) (sz := 36) (by_ := 64) 31 1 #[(0, (Operand.tmp 54))] [.agg (Tk.cells t).toArray] (Tk.cells t) (some 55) (by kernel_rfl) (by kernel_rfl) K21 (by kernel_rfl) (by kernel_rfl) (by omega) rfl (by omega) (by intro v hv; obtain rfl := List.mem_singleton.1 hv; show (Tk.cells t).toArray.size = 36; simp [Tk.len]) (by kernel_rfl) (by show (Tk.cells t).toArray.toList ++ [] = _; simp) ?_
              intro b48 w48 e48 hb48 k48 z48 K49
              replace hg := hg.keep k48 (fun f => f)
              have hglt := hg.lt
              replace hb1 := hb1.keep k48 (fun f => f)
              have hb1lt := hb1.lt
              replace hA := SlT.keep0 hA k48
              replace hK0 := Keep.tr hK0 (Keep.ofNone k48); have hzhK0 := Keep.size hK0
              have hb48lt := hb48.lt
              refine GI_static [4, 5, 6, 9, 0, 10, 11, 12] [(0, .pointer (some ⟨g, 0, none⟩)), (5, .int .i64 ((i : Nat) : Int)), (50, .pointer (some ⟨g, 0, none⟩)), (55, .slice (some ⟨b48, 0, none⟩) 1 1)] (by kernel_rfl) ?_
              refine GI_cellA 31 (.tmp 50) 0 (.slice A ts.length cap) (some 51) (by kernel_rfl) (by kernel_rfl) K49 (by kernel_rfl) hg (m := 1) (by kernel_rfl) rfl ?_
              refine GI_call { callee := (Callee.value (Operand.func 27)), args := #[(Operand.tmp 51)], argTypes := #[31] } 27 #[.slice A ts.length cap] (some 52) (by kernel_rfl) (by kernel_rfl) (by kernel_rfl) (by kernel_rfl) (cloneTk_spec A cap ts _ hA (by omega)) ?_
              rintro _ w50 ⟨A9, cap9, rfl, h9, hk51, hown9⟩
              have K52 := K49.tr (Keep.ofNone hk51)
              refine ⟨_, rfl, K52, ?_⟩
              have hzK52 := Keep.size K52
              replace hg := hg.keep hk51 (fun f => f)
              have hglt := hg.lt
              replace hb1 := hb1.keep hk51 (fun f => f)
              have hb1lt := hb1.lt
              replace hb48 := hb48.keep hk51 (fun f => f)
              have hb48lt := hb48.lt
              replace hA := SlT.keep0 hA hk51
              replace hK0 := Keep.tr hK0 (Keep.ofNone hk51); have hzhK0 := Keep.size hK0
              have hlt9 := SlT.lt h9
              refine GI_static [9, 0, 10, 11, 12] [(0, .pointer (some ⟨g, 0, none⟩)), (52, .slice A9 ts.length cap9), (53, .int .i64 ((i : Nat) : Int)), (55, .slice (some ⟨b48, 0, none⟩) 1 1)] (by kernel_rfl) ?_
              have hne9 : ¬ inA A9 b48 := fun hs => by have h1 := hlt9 _ hs; have h2 := hown9 _ hs; omega
              refine GI_call { callee := (Callee.value (Operand.func 26)), args := #[(Operand.tmp 52), (Operand.tmp 53), (Operand.tmp 55)], argTypes := #[31, 3, 31] } 26 #[.slice A9 ts.length cap9, .int .i64 ((i : Nat) : Int), .slice (some ⟨b48, 0, none⟩) 1 1] (some 56) (by kernel_rfl) (by kernel_rfl) (by kernel_rfl) (by kernel_rfl) (insertTk_spec A9 cap9 b48 i ts t _ h9 hb48 hne9 hi (by omega)) ?_
              rintro _ w53 ⟨A10, cap10, rfl, h10, hk54, hown10⟩
              have K55 := Keep.fresh K52 hk54 (by intro i hi hs; exfalso; have h2 := hown9 i hs; omega)
              refine ⟨_, rfl, K55, ?_⟩
              have hzK55 := Keep.size K55
              replace hg := hg.keep hk54 (fun hs => by have h1 := hlt9 _ hs; have h2 := hown9 _ hs; omega)
              have hglt := hg.lt
              replace hb1 := hb1.keep hk54 (fun hs => by have h1 := hlt9 _ hs; have h2 := hown9 _ hs; omega)
              have hb1lt := hb1.lt
              replace hb48 := hb48.keep hk54 (fun hs => by have h1 := hlt9 _ hs; have h2 := hown9 _ hs; omega)
              have hb48lt := hb48.lt
              replace hA := SlT.keep hA hk54 (fun k hk hs => by have h1 := hltA _ hk; have h2 := hown9 _ hs; omega)
              replace hK0 := Keep.fresh hK0 hk54 (by intro i hi hs; exfalso; have h2 := hown9 i hs; omega); have hzhK0 := Keep.size hK0
              have hgA10 : ¬ inA A10 g := fun hs => by rcases hown10 _ hs with h | h; (have h2 := hown9 _ h; omega); omega
              refine GI_static [12] [(56, .slice A10 (ts.length + 1) cap10), (58, .pointer (some ⟨g, 0, none⟩))] (by kernel_rfl) ?_
              refine GI_set (m := 1) (kd := false) 31 (.tmp 58) (.tmp 56) 0 (.slice A10 (ts.length + 1) cap10) [.slice A10 (ts.length + 1) cap10] none (by kernel_rfl) (by kernel_rfl) (by kernel_rfl) (by kernel_rfl) hg (by kernel_rfl) (by kernel_rfl) (by kernel_rfl) (Nat.le_of_ble_eq_true (by kernel_rfl)) (by simp [Value.oneCell']) K55 (fun hh => rfl) ?_
              intro w56 hg_59 hk57 hz58 K60
              replace hg_59 : Blk w56 g [.slice A10 (ts.length + 1) cap10] 57 := hg_59
              replace hb1 := hb1.keep hk57 (by show ¬ (_ = _); omega)
              have hb1lt := hb1.lt
              replace hb48 := hb48.keep hk57 (by show ¬ (_ = _); omega)
              have hb48lt := hb48.lt
              replace hA := SlT.keep hA hk57 (fun k hk hs => by have hs : k = g := hs; subst hs; exact hgA hk)
              replace h10 := SlT.keep h10 hk57 (fun k hk hs => by have hs : k = g := hs; subst hs; exact hgA10 hk)
              replace hK0 := Keep.fresh hK0 hk57 (by intro i hi hs; first | exact hs | exact Or.inl hs | exact Or.inr hs | (exfalso; have hs2 : i = g := hs; omega)); have hzhK0 := Keep.size hK0
              refine GI_end ?_
              refine X_then ?_
              refine V_seq ?_
              refine V_region ?_
              refine OI_static 1 [(4, .int .i64 0)] (by kernel_rfl) ?_
              refine OI_end rfl ?_
              refine X_then ?_
              refine V_ret ?_
              have hp0 : ¬ (t.name < 0 ∨ t.at_ < 0 ∨ t.pr < 0) := by omega
              have hany : ¬ ts.any (named t.name) = true := fun h => hc7 ((idxFrom_nonneg _ _ 0).2 h)
              have hp : putR t ts = (0, ins t ts) := by unfold putR; rw [if_neg hp0, if_neg hany, if_neg (by omega)]
              have hins : ts.take i ++ t :: ts.drop i = ins t ts := ins_at ts t i hi (fun j y hj hy => (ordI_neg _ _).1 (hbef j y hj hy)) (fun j y hj hy h => haft j y hj hy ((ordI_neg _ _).2 h))
              rw [hins] at h10
              have hnn : ∀ x ∈ ts, x.name ≠ t.name := fun x hx hh => hany (List.any_eq_true.2 ⟨x, hx, by simp [named, hh]⟩)
              rw [hp]
              exact X_return _ rfl ⟨rfl, ⟨ins_srt hs hnn, by rw [ins_len]; omega, A10, cap10, ⟨by rw [ins_len]; exact hg_59, h10, hgA10⟩, fun k hk => hD k (by rcases hown10 _ hk with h | h; (have h2 := hown9 _ h; omega); omega)⟩, hK0⟩

/-- How many tasks are taken. -/
def dueN (now most : Int) : List Tk → Nat
  | [] => 0
  | t :: l => if 0 < most ∧ t.at_ ≤ now then dueN now (most - 1) l + 1 else 0
theorem dueN_at {now : Int} : ∀ (ts : List Tk) (most : Int) (n : Nat), n ≤ ts.length → (n = 0 ∨ (n : Int) ≤ most) → (∀ (j : Nat) y, j < n → ts[j]? = some y → y.at_ ≤ now) → (n = ts.length ∨ most ≤ n ∨ ∃ y, ts[n]? = some y ∧ now < y.at_) → n = dueN now most ts
  | [], most, n, h1, _, _, _ => by simp at h1; simp [dueN, h1]
  | t :: l, most, 0, h1, h2, h3, h4 => by
    simp only [dueN]
    rw [if_neg]
    rintro ⟨h5, h6⟩
    rcases h4 with h | h | ⟨y, hy, hlt⟩
    · simp at h
    · omega
    · simp at hy; subst hy; omega
  | t :: l, most, n + 1, h1, h2, h3, h4 => by
    simp only [dueN]
    rw [if_pos ⟨by omega, h3 0 t (by omega) rfl⟩]
    rw [← dueN_at l (most - 1) n (by simpa using h1) (by omega) (fun j y hj hy => h3 (j + 1) y (by omega) (by simpa using hy)) (by
      rcases h4 with h | h | ⟨y, hy, hlt⟩
      · left; simpa using h
      · right; left; omega
      · right; right; exact ⟨y, by simpa using hy, hlt⟩)]
theorem Srt.drop {ts : List Tk} (h : Srt ts) (n : Nat) : Srt (ts.drop n) := List.Pairwise.sublist (List.drop_sublist n ts) h

theorem due_spec (D : Nat → Prop) (g : Nat) (ts : List Tk) (now most : Int) (w : World) (h : Ag D w g ts) : Calls Try.prog 13 #[.pointer (some ⟨g, 0, none⟩), .int .i64 now, .int .i64 most] w fun e w' => ∃ A' cap', e = .returned (.slice A' (ts.take (dueN now most ts)).length cap') ∧ SlT w' 36 Tk.cells A' cap' (ts.take (dueN now most ts)) ∧ Ag D w' g (ts.drop (dueN now most ts)) ∧ Keep (only g) w w' ∧ (∀ k, inA A' k → w.heap.size ≤ k) := by
  obtain ⟨hs, hlen, A, cap, h, hDA⟩ := h
  have hgA := h.off
  have hg := h.blk
  have hA := h.sl
  have hglt := hg.lt
  have hK0 : Keep (only g) w w := Keep.refl _ _
  have hzhK0 := Keep.size hK0
  refine enterV Try.func13 rfl [.pointer (some ⟨g, 0, none⟩), .int .i64 now, .int .i64 most] 54 rfl rfl rfl ?_
  refine V_pick [(0, .pointer (some ⟨g, 0, none⟩)), (1, .int .i64 now), (2, .int .i64 most)] rfl ?_
  refine V_seq ?_
  refine V_region ?_
  refine OI_static 1 [(0, .pointer (some ⟨g, 0, none⟩)), (1, .int .i64 now), (2, .int .i64 most)] (by kernel_rfl) ?_
  refine OI_end rfl ?_
  refine X_then ?_
  refine V_seq ?_
  refine V_seq ?_
  refine V_region ?_
  refine OI_static 2 [(0, .pointer (some ⟨g, 0, none⟩)), (1, .int .i64 now), (2, .int .i64 most), (10, .bool false)] (by kernel_rfl) ?_
  refine OI_end rfl ?_
  refine X_then ?_
  refine V_false rfl ?_
  refine V_skip ?_
  refine X_then ?_
  refine V_seq ?_
  refine V_region ?_
  refine OI_static 1 [(0, .pointer (some ⟨g, 0, none⟩)), (1, .int .i64 now), (2, .int .i64 most), (7, .int .i64 0)] (by kernel_rfl) ?_
  refine OI_end rfl ?_
  refine X_then ?_
  refine V_seq ?_
  refine V_blockJ (fun wI e => ∃ n : Nat, (n ≤ ts.length) ∧ (n = 0 ∨ (n : Int) ≤ most) ∧ (∀ (j : Nat) y, j < n → ts[j]? = some y → y.at_ ≤ now) ∧ (n = ts.length ∨ most ≤ n ∨ ∃ y, ts[n]? = some y ∧ now < y.at_) ∧ w = wI ∧ e = [(0, .pointer (some ⟨g, 0, none⟩)), (7, .int .i64 ((n : Nat) : Int))]) ?_ ?_
  · skip
    refine V_pick [(0, .pointer (some ⟨g, 0, none⟩)), (1, .int .i64 now), (2, .int .i64 most), (7, .int .i64 0)] rfl ?_
    refine V_loop (fun k wI e => ∃ n : Nat, (k + n = ts.length) ∧ (n = 0 ∨ (n : Int) ≤ most) ∧ (∀ (j : Nat) y, j < n → ts[j]? = some y → y.at_ ≤ now) ∧ w = wI ∧ e = [(0, .pointer (some ⟨g, 0, none⟩)), (1, .int .i64 now), (2, .int .i64 most), (7, .int .i64 ((n : Nat) : Int))]) ts.length ⟨0, rfl, .inl rfl, fun j y hj => absurd hj (Nat.not_lt_zero _), rfl, rfl⟩ ?_
    rintro k2 _ _ ⟨n, hkn, hmost, hbef, rfl, rfl⟩
    refine V_seq ?_
    refine V_seq ?_
    refine V_region ?_
    refine OI_static 4 [(0, .pointer (some ⟨g, 0, none⟩)), (1, .int .i64 now), (2, .int .i64 most), (7, .int .i64 ((n : Nat) : Int)), (11, .int .i64 ((n : Nat) : Int)), (14, .pointer (some ⟨g, 0, none⟩))] (by kernel_rfl) ?_
    refine OI_cell 31 (.tmp 14) 0 (.slice A ts.length cap) (some 15) (by kernel_rfl) (by kernel_rfl) hg (m := 1) (by kernel_rfl) rfl ?_
    refine OI_static 8 [(0, .pointer (some ⟨g, 0, none⟩)), (1, .int .i64 now), (2, .int .i64 most), (7, .int .i64 ((n : Nat) : Int)), (18, .bool (decide (((n : Nat) : Int) < ((ts.length : Nat) : Int))))] (by kernel_rfl) ?_
    by_cases hg3 : ((n : Nat) : Int) < ((ts.length : Nat) : Int)
    · skip
      refine OI_eq [(0, .pointer (some ⟨g, 0, none⟩)), (1, .int .i64 now), (2, .int .i64 most), (7, .int .i64 ((n : Nat) : Int)), (18, .bool true)] (by simp [hg3]) ?_
      refine OI_static 13 [(0, .pointer (some ⟨g, 0, none⟩)), (1, .int .i64 now), (2, .int .i64 most), (7, .int .i64 ((n : Nat) : Int)), (19, .int .i64 ((n : Nat) : Int)), (20, .int .i64 most), (21, .bool (decide (((n : Nat) : Int) < most))), (23, .bool (decide (((n : Nat) : Int) < most)))] (by kernel_rfl) ?_
      by_cases hg4 : ((n : Nat) : Int) < most
      · skip
        refine OI_eq [(0, .pointer (some ⟨g, 0, none⟩)), (1, .int .i64 now), (2, .int .i64 most), (7, .int .i64 ((n : Nat) : Int)), (19, .int .i64 ((n : Nat) : Int)), (20, .int .i64 most), (21, .bool (decide (((n : Nat) : Int) < most))), (23, .bool true)] (by simp [hg4]) ?_
        refine OI_static 16 [(0, .pointer (some ⟨g, 0, none⟩)), (1, .int .i64 now), (2, .int .i64 most), (7, .int .i64 ((n : Nat) : Int)), (19, .int .i64 ((n : Nat) : Int)), (20, .int .i64 most), (21, .bool (decide (((n : Nat) : Int) < most))), (23, .bool true), (24, .pointer (some ⟨g, 0, none⟩)), (25, .pointer (some ⟨g, 0, none⟩)), (26, .pointer (some ⟨g, 0, none⟩))] (by kernel_rfl) ?_
        refine OI_cell 31 (.tmp 26) 0 (.slice A ts.length cap) (some 27) (by kernel_rfl) (by kernel_rfl) hg (m := 1) (by kernel_rfl) rfl ?_
        refine OI_static 18 [(0, .pointer (some ⟨g, 0, none⟩)), (1, .int .i64 now), (2, .int .i64 most), (7, .int .i64 ((n : Nat) : Int)), (19, .int .i64 ((n : Nat) : Int)), (20, .int .i64 most), (21, .bool (decide (((n : Nat) : Int) < most))), (23, .bool true), (24, .pointer (some ⟨g, 0, none⟩)), (25, .pointer (some ⟨g, 0, none⟩)), (26, .pointer (some ⟨g, 0, none⟩)), (27, .slice A ts.length cap), (28, .int .i64 ((n : Nat) : Int))] (by kernel_rfl) ?_
        obtain ⟨b5, o5, L5, T5, rfl, hat5⟩ := SlT.open_ hA (by first | omega | simp | (simp; omega))
        have hb5lt := hat5.blk.lt
        refine OI_pure (some 29) (.indexAddr 31 (.tmp 27) (.tmp 28)) (by kernel_rfl) (pure_idxN (b := b5) (o := o5) (len := ts.length) (cap := cap) (kd := .i64) (j := n) (E := 28) (sz := 36) (by_ := 64) (by kernel_rfl) (by kernel_rfl) (by kernel_rfl) (by omega)) ?_
        refine OI_static 20 [(0, .pointer (some ⟨g, 0, none⟩)), (1, .int .i64 now), (2, .int .i64 most), (7, .int .i64 ((n : Nat) : Int)), (19, .int .i64 ((n : Nat) : Int)), (20, .int .i64 most), (21, .bool (decide (((n : Nat) : Int) < most))), (23, .bool true), (24, .pointer (some ⟨g, 0, none⟩)), (25, .pointer (some ⟨g, 0, none⟩)), (26, .pointer (some ⟨g, 0, none⟩)), (27, .slice (some ⟨b5, o5, none⟩) ts.length cap), (28, .int .i64 ((n : Nat) : Int)), (29, .pointer (some ⟨b5, o5 + n * 36, none⟩)), (30, .pointer (some ⟨b5, o5 + n * 36 + 1, none⟩))] (by kernel_rfl) ?_
        obtain ⟨x6, hx7⟩ : ∃ x, ts[n]? = some x := ⟨_, List.getElem?_eq_getElem (by omega)⟩
        refine OI_cell 3 (.tmp 30) (o5 + n * 36 + 1) (.int .i64 x6.at_) (some 31) (by kernel_rfl) (by kernel_rfl) hat5.blk (m := 1) (by kernel_rfl) (At.cell hat5 (es_at hx7) rfl) ?_
        refine OI_static 24 [(0, .pointer (some ⟨g, 0, none⟩)), (1, .int .i64 now), (2, .int .i64 most), (7, .int .i64 ((n : Nat) : Int)), (19, .int .i64 ((n : Nat) : Int)), (20, .int .i64 most), (21, .bool (decide (((n : Nat) : Int) < most))), (24, .pointer (some ⟨g, 0, none⟩)), (25, .pointer (some ⟨g, 0, none⟩)), (26, .pointer (some ⟨g, 0, none⟩)), (27, .slice (some ⟨b5, o5, none⟩) ts.length cap), (28, .int .i64 ((n : Nat) : Int)), (29, .pointer (some ⟨b5, o5 + n * 36, none⟩)), (30, .pointer (some ⟨b5, o5 + n * 36 + 1, none⟩)), (31, .int .i64 x6.at_), (32, .int .i64 now), (33, .bool (decide (x6.at_ ≤ now))), (34, .bool (decide (x6.at_ ≤ now)))] (by kernel_rfl) ?_
        refine OI_end rfl ?_
        refine X_then ?_
        refine V_if (x6.at_ ≤ now) (by kernel_rfl) (fun hc8 => ?_) (fun hc8 => ?_)
        · skip
          refine V_skip ?_
          refine X_then ?_
          refine V_block ?_
          refine V_region ?_
          have hw9 : IntKind.i64.wrap (((n : Nat) : Int) + 1) = ((n + 1 : Nat) : Int) := (wrap64_id (by omega) (by omega)).trans (by omega)
          refine OI_static 2 [(0, .pointer (some ⟨g, 0, none⟩)), (1, .int .i64 now), (2, .int .i64 most), (19, .int .i64 ((n : Nat) : Int)), (20, .int .i64 most), (21, .bool (decide (((n : Nat) : Int) < most))), (24, .pointer (some ⟨g, 0, none⟩)), (25, .pointer (some ⟨g, 0, none⟩)), (26, .pointer (some ⟨g, 0, none⟩)), (27, .slice (some ⟨b5, o5, none⟩) ts.length cap), (28, .int .i64 ((n : Nat) : Int)), (29, .pointer (some ⟨b5, o5 + n * 36, none⟩)), (30, .pointer (some ⟨b5, o5 + n * 36 + 1, none⟩)), (31, .int .i64 x6.at_), (32, .int .i64 now), (33, .bool (decide (x6.at_ ≤ now))), (36, .int .i64 (IntKind.i64.wrap (((n : Nat) : Int) + 1)))] (by kernel_rfl) ?_
          refine OI_eq [(0, .pointer (some ⟨g, 0, none⟩)), (1, .int .i64 now), (2, .int .i64 most), (19, .int .i64 ((n : Nat) : Int)), (20, .int .i64 most), (21, .bool (decide (((n : Nat) : Int) < most))), (24, .pointer (some ⟨g, 0, none⟩)), (25, .pointer (some ⟨g, 0, none⟩)), (26, .pointer (some ⟨g, 0, none⟩)), (27, .slice (some ⟨b5, o5, none⟩) ts.length cap), (28, .int .i64 ((n : Nat) : Int)), (29, .pointer (some ⟨b5, o5 + n * 36, none⟩)), (30, .pointer (some ⟨b5, o5 + n * 36 + 1, none⟩)), (31, .int .i64 x6.at_), (32, .int .i64 now), (33, .bool (decide (x6.at_ ≤ now))), (36, .int .i64 ((n + 1 : Nat) : Int))] (by rw [hw9]) ?_
          refine OI_static 3 [(0, .pointer (some ⟨g, 0, none⟩)), (1, .int .i64 now), (2, .int .i64 most), (7, .int .i64 ((n + 1 : Nat) : Int)), (19, .int .i64 ((n : Nat) : Int)), (20, .int .i64 most), (21, .bool (decide (((n : Nat) : Int) < most))), (24, .pointer (some ⟨g, 0, none⟩)), (25, .pointer (some ⟨g, 0, none⟩)), (26, .pointer (some ⟨g, 0, none⟩)), (27, .slice (some ⟨b5, o5, none⟩) ts.length cap), (28, .int .i64 ((n : Nat) : Int)), (29, .pointer (some ⟨b5, o5 + n * 36, none⟩)), (30, .pointer (some ⟨b5, o5 + n * 36 + 1, none⟩)), (31, .int .i64 x6.at_), (32, .int .i64 now), (33, .bool (decide (x6.at_ ≤ now)))] (by kernel_rfl) ?_
          refine OI_end rfl ?_
          refine X_block ?_
          exact V_again (k2 - 1) (by omega) [(0, .pointer (some ⟨g, 0, none⟩)), (1, .int .i64 now), (2, .int .i64 most), (7, .int .i64 ((n + 1 : Nat) : Int))] rfl ⟨n + 1, by omega, .inr (by omega), fun j y hj hy => by rcases Nat.lt_or_ge j n with h | h; exact hbef j y h hy; (obtain rfl : j = n := by omega); rw [hx7] at hy; cases hy; assumption, rfl, rfl⟩
        · skip
          refine V_exit ?_
          refine X_exit_then ?_
          refine X_exit_then ?_
          refine X_exit_here ?_
          exact X_join [(0, .pointer (some ⟨g, 0, none⟩)), (7, .int .i64 ((n : Nat) : Int))] rfl ⟨n, by omega, hmost, hbef, .inr (.inr ⟨_, hx7, by omega⟩), rfl, rfl⟩
      · skip
        refine OI_eq [(0, .pointer (some ⟨g, 0, none⟩)), (1, .int .i64 now), (2, .int .i64 most), (7, .int .i64 ((n : Nat) : Int)), (19, .int .i64 ((n : Nat) : Int)), (20, .int .i64 most), (21, .bool (decide (((n : Nat) : Int) < most))), (23, .bool false)] (by simp [hg4]) ?_
        refine OI_static 24 [(0, .pointer (some ⟨g, 0, none⟩)), (1, .int .i64 now), (2, .int .i64 most), (7, .int .i64 ((n : Nat) : Int)), (19, .int .i64 ((n : Nat) : Int)), (20, .int .i64 most), (21, .bool (decide (((n : Nat) : Int) < most))), (24, undef), (25, undef), (26, undef), (27, undef), (28, undef), (29, undef), (30, undef), (31, undef), (32, undef), (33, undef), (34, .bool false)] (by kernel_rfl) ?_
        refine OI_end rfl ?_
        refine X_then ?_
        refine V_false rfl ?_
        refine V_exit ?_
        refine X_exit_then ?_
        refine X_exit_then ?_
        refine X_exit_here ?_
        exact X_join [(0, .pointer (some ⟨g, 0, none⟩)), (7, .int .i64 ((n : Nat) : Int))] rfl ⟨n, by omega, hmost, hbef, .inr (.inl (by omega)), rfl, rfl⟩
    · skip
      refine OI_eq [(0, .pointer (some ⟨g, 0, none⟩)), (1, .int .i64 now), (2, .int .i64 most), (7, .int .i64 ((n : Nat) : Int)), (18, .bool false)] (by simp [hg3]) ?_
      refine OI_static 24 [(0, .pointer (some ⟨g, 0, none⟩)), (1, .int .i64 now), (2, .int .i64 most), (7, .int .i64 ((n : Nat) : Int)), (19, undef), (20, undef), (21, undef), (24, undef), (25, undef), (26, undef), (27, undef), (28, undef), (29, undef), (30, undef), (31, undef), (32, undef), (33, undef), (34, .bool false)] (by kernel_rfl) ?_
      refine OI_end rfl ?_
      refine X_then ?_
      refine V_false rfl ?_
      refine V_exit ?_
      refine X_exit_then ?_
      refine X_exit_then ?_
      refine X_exit_here ?_
      exact X_join [(0, .pointer (some ⟨g, 0, none⟩)), (7, .int .i64 ((n : Nat) : Int))] rfl ⟨n, by omega, hmost, hbef, .inl (by omega), rfl, rfl⟩
  · skip
    rintro _ _ ⟨n, hn, hmost, hbef, hend, rfl, rfl⟩
    have hcl := SlT.cap_le hA
    refine X_then ?_
    refine V_seq ?_
    refine V_region ?_
    refine OI_static 3 [(0, .pointer (some ⟨g, 0, none⟩)), (7, .int .i64 ((n : Nat) : Int)), (39, .pointer (some ⟨g, 0, none⟩))] (by kernel_rfl) ?_
    refine OI_cell 31 (.tmp 39) 0 (.slice A ts.length cap) (some 40) (by kernel_rfl) (by kernel_rfl) hg (m := 1) (by kernel_rfl) rfl ?_
    refine OI_static 5 [(0, .pointer (some ⟨g, 0, none⟩)), (7, .int .i64 ((n : Nat) : Int)), (40, .slice A ts.length cap), (41, .int .i64 ((n : Nat) : Int))] (by kernel_rfl) ?_
    refine OI_pure (some 42) ((Op.slice 31 (Operand.tmp 40) none (some (Operand.tmp 41)) none)) (by kernel_rfl) (pure_sliceTo (E := 28) (sz := 36) (by_ := 64) (base := A) (len := ts.length) (cap := cap) (h := n) (kd := .i64) (by kernel_rfl) (by kernel_rfl) (by kernel_rfl) (by omega)) ?_
    refine OI_pick [(0, .pointer (some ⟨g, 0, none⟩)), (7, .int .i64 ((n : Nat) : Int)), (42, .slice A n cap)] (by kernel_rfl) ?_
    refine OI_eq [(0, .pointer (some ⟨g, 0, none⟩)), (7, .int .i64 ((n : Nat) : Int)), (42, .slice A ((ts.take n).length) cap)] (by rw [List.length_take, Nat.min_eq_left hn]) ?_
    refine OI_call { callee := (Callee.value (Operand.func 27)), args := #[(Operand.tmp 42)], argTypes := #[31] } 27 #[.slice A ((ts.take n).length) cap] (some 43) (by kernel_rfl) (by kernel_rfl) (by kernel_rfl) (cloneTk_spec A cap (ts.take n) _ (SlT.to hA hn) (by rw [List.length_take]; omega)) ?_
    rintro _ w12 ⟨A9, cap9, rfl, h9, hk13, hown9⟩
    refine ⟨_, rfl, ?_⟩
    replace hg := hg.keep hk13 (fun f => f)
    have hglt := hg.lt
    replace hA := SlT.keep0 hA hk13
    replace hK0 := Keep.tr hK0 (Keep.ofNone hk13); have hzhK0 := Keep.size hK0
    refine OI_static 8 [(0, .pointer (some ⟨g, 0, none⟩)), (7, .int .i64 ((n : Nat) : Int)), (8, .slice A9 ((ts.take n).length) cap9)] (by kernel_rfl) ?_
    refine OI_end rfl ?_
    refine X_then ?_
    refine V_seq ?_
    refine V_region ?_
    refine OI_static 4 [(7, .int .i64 ((n : Nat) : Int)), (8, .slice A9 ((ts.take n).length) cap9), (44, .pointer (some ⟨g, 0, none⟩)), (47, .pointer (some ⟨g, 0, none⟩))] (by kernel_rfl) ?_
    refine OI_cell 31 (.tmp 47) 0 (.slice A ts.length cap) (some 48) (by kernel_rfl) (by kernel_rfl) hg (m := 1) (by kernel_rfl) rfl ?_
    refine OI_static 6 [(8, .slice A9 ((ts.take n).length) cap9), (44, .pointer (some ⟨g, 0, none⟩)), (48, .slice A ts.length cap), (49, .int .i64 ((n : Nat) : Int))] (by kernel_rfl) ?_
    refine OI_pure (some 50) ((Op.slice 31 (Operand.tmp 48) (some (Operand.tmp 49)) none none)) (by kernel_rfl) (pure_sliceSuf (E := 28) (sz := 36) (by_ := 64) (A := A) (len := ts.length) (cap := cap) (l := n) (kd := .i64) (by kernel_rfl) (by kernel_rfl) (by kernel_rfl) (by omega) (by omega)) ?_
    refine OI_static 9 [(8, .slice A9 ((ts.take n).length) cap9), (50, .slice (sufA A cap n 36) (ts.length - n) (cap - n)), (52, .pointer (some ⟨g, 0, none⟩))] (by kernel_rfl) ?_
    refine OI_set (m := 1) (kd := false) 31 (.tmp 52) (.tmp 50) 0 (.slice (sufA A cap n 36) (ts.length - n) (cap - n)) [.slice (sufA A cap n 36) (ts.length - n) (cap - n)] none (by kernel_rfl) (by kernel_rfl) (by kernel_rfl) hg (by kernel_rfl) (by kernel_rfl) (by kernel_rfl) (Nat.le_of_ble_eq_true (by kernel_rfl)) (by simp [Value.oneCell']) ?_
    intro w14 hg_17 hk15 hz16
    replace hg_17 : Blk w14 g [.slice (sufA A cap n 36) (ts.length - n) (cap - n)] 57 := hg_17
    replace hA := SlT.keep hA hk15 (fun k hk hs => by have hs : k = g := hs; subst hs; exact hgA hk)
    replace h9 := SlT.keep h9 hk15 (fun k hk hs => by have hs : k = g := hs; have h2 := hown9 _ hk; omega)
    replace hK0 := Keep.fresh hK0 hk15 (by intro i hi hs; first | exact hs | exact Or.inl hs | exact Or.inr hs | (exfalso; have hs2 : i = g := hs; omega)); have hzhK0 := Keep.size hK0
    refine OI_end rfl ?_
    refine X_then ?_
    refine V_seq ?_
    refine V_region ?_
    refine OI_static 2 [(6, .slice A9 ((ts.take n).length) cap9)] (by kernel_rfl) ?_
    refine OI_end rfl ?_
    refine X_then ?_
    refine V_ret ?_
    have he := dueN_at ts most n hn hmost hbef hend
    rw [← he]
    exact X_return _ rfl ⟨A9, cap9, rfl, h9, ⟨hs.drop n, by rw [List.length_drop]; omega, _, _, ⟨by rw [List.length_drop]; exact hg_17, SlT.from_ hA hn, fun h => hgA (inA_suf h)⟩, fun k hk => hDA k (inA_suf hk)⟩, hK0, hown9⟩

def del (nm : Int) : List Tk → List Tk
  | [] => []
  | x :: l => if named nm x then l else x :: del nm l
theorem idx_at (nm : Int) : ∀ (ts : List Tk) (k : Nat), (idxFrom (named nm) ts k = -1 ∧ ts.any (named nm) = false ∧ del nm ts = ts) ∨ ∃ i : Nat, idxFrom (named nm) ts k = ((k + i : Nat) : Int) ∧ i < ts.length ∧ ts.any (named nm) = true ∧ ts.take i ++ ts.drop (i + 1) = del nm ts
  | [], k => .inl ⟨rfl, rfl, rfl⟩
  | x :: l, k => by
    by_cases h : named nm x = true
    · right; exact ⟨0, by simp [idxFrom, h], by simp, by simp [h], by simp [del, h]⟩
    · rcases idx_at nm l (k + 1) with ⟨h1, h2, h3⟩ | ⟨i, h1, h2, h3, h4⟩
      · left; exact ⟨by simp [idxFrom, h, h1], by simp [h, h2], by simp [del, h, h3]⟩
      · right; exact ⟨i + 1, by simp only [idxFrom, h, h1, Bool.false_eq_true, if_false]; congr 1; omega, by simp; omega, by simp [h3], by simp [del, h, h4]⟩
theorem Srt.del {ts : List Tk} (h : Srt ts) (nm : Int) : Srt (del nm ts) := by
  rcases idx_at nm ts 0 with ⟨_, _, h3⟩ | ⟨i, _, _, _, h4⟩
  · rw [h3]; exact h
  · rw [← h4]
    refine List.Pairwise.sublist ?_ h
    conv => rhs; rw [← List.take_append_drop i ts]
    exact List.Sublist.append (List.Sublist.refl _) (List.drop_sublist_drop_left ts (Nat.le_succ i))

theorem cancel_spec (D : Nat → Prop) (g : Nat) (ts : List Tk) (nm : Int) (w : World) (h : Ag D w g ts) (hD : ∀ k, w.heap.size ≤ k → D k) : Calls Try.prog 18 #[.pointer (some ⟨g, 0, none⟩), .int .i64 nm] w fun e w' => e = .returned (.bool (ts.any (named nm))) ∧ Ag D w' g (del nm ts) ∧ Keep (only g) w w' := by
  obtain ⟨hs, hlen, A, cap, h, hDA⟩ := h
  have hgA := h.off
  have hg := h.blk
  have hA := h.sl
  have hglt := hg.lt
  have hltA := SlT.lt hA
  have hK0 : Keep (only g) w w := Keep.refl _ _
  have hzhK0 := Keep.size hK0
  refine enterV Try.func18 rfl [.pointer (some ⟨g, 0, none⟩), .int .i64 nm] 25 rfl rfl rfl ?_
  refine V_pick [(0, .pointer (some ⟨g, 0, none⟩)), (1, .int .i64 nm)] rfl ?_
  refine V_seq ?_
  refine V_region ?_
  refine OI_static 1 [(0, .pointer (some ⟨g, 0, none⟩)), (1, .int .i64 nm)] (by kernel_rfl) ?_
  refine OI_end rfl ?_
  refine X_then ?_
  refine V_seq ?_
  refine V_seq ?_
  refine V_region ?_
  refine OI_static 2 [(0, .pointer (some ⟨g, 0, none⟩)), (1, .int .i64 nm), (7, .bool false)] (by kernel_rfl) ?_
  refine OI_end rfl ?_
  refine X_then ?_
  refine V_false rfl ?_
  refine V_skip ?_
  refine X_then ?_
  refine V_seq ?_
  refine V_region ?_
  refine OI_static 2 [(0, .pointer (some ⟨g, 0, none⟩)), (8, .pointer (some ⟨g, 0, none⟩)), (9, .int .i64 nm)] (by kernel_rfl) ?_
  refine OI_call { callee := (Callee.value (Operand.func 23)), args := #[(Operand.tmp 8), (Operand.tmp 9)], argTypes := #[23, 3] } 23 #[.pointer (some ⟨g, 0, none⟩), .int .i64 nm] (some 10) (by kernel_rfl) (by kernel_rfl) (by kernel_rfl) (place_spec g cap A ts nm _ ⟨hg, hA, hgA⟩ (by omega)) ?_
  rintro _ w1 ⟨rfl, hk2⟩
  refine ⟨_, rfl, ?_⟩
  replace hg := hg.keep hk2 (fun f => f)
  have hglt := hg.lt
  replace hA := SlT.keep0 hA hk2
  replace hK0 := Keep.tr hK0 (Keep.ofNone hk2); have hzhK0 := Keep.size hK0
  refine OI_static 4 [(0, .pointer (some ⟨g, 0, none⟩)), (5, .int .i64 (idxFrom (named nm) ts 0))] (by kernel_rfl) ?_
  refine OI_end rfl ?_
  refine X_then ?_
  refine V_seq ?_
  refine V_seq ?_
  refine V_region ?_
  refine OI_static 2 [(0, .pointer (some ⟨g, 0, none⟩)), (5, .int .i64 (idxFrom (named nm) ts 0)), (12, .bool (decide (idxFrom (named nm) ts 0 < 0)))] (by kernel_rfl) ?_
  refine OI_end rfl ?_
  refine X_then ?_
  refine V_if (idxFrom (named nm) ts 0 < 0) (by kernel_rfl) (fun hc3 => ?_) (fun hc3 => ?_)
  · skip
    rcases idx_at nm ts 0 with ⟨_, hany, hdel⟩ | ⟨i, hidx, _⟩
    rotate_left
    · exact (by rw [hidx] at hc3; omega : False).elim
    refine V_seq ?_
    refine V_region ?_
    refine OI_static 1 [(4, .bool false)] (by kernel_rfl) ?_
    refine OI_end rfl ?_
    refine X_then ?_
    refine V_ret ?_
    refine X_ret_then ?_
    rw [hany, hdel]
    exact X_return _ rfl ⟨rfl, ⟨hs, hlen, A, cap, ⟨hg, hA, hgA⟩, hDA⟩, hK0⟩
  · skip
    rcases idx_at nm ts 0 with ⟨hidx, _⟩ | ⟨i, hidx, hi, hany, hdel⟩
    · exact (by rw [hidx] at hc3; omega : False).elim
    rw [Nat.zero_add] at hidx
    refine V_eq [(0, .pointer (some ⟨g, 0, none⟩)), (5, .int .i64 ((i : Nat) : Int)), (12, .bool (decide (idxFrom (named nm) ts 0 < 0)))] (by rw [hidx]) ?_
    refine V_skip ?_
    refine X_then ?_
    refine V_seq ?_
    refine V_region ?_
    refine OI_static 4 [(5, .int .i64 ((i : Nat) : Int)), (13, .pointer (some ⟨g, 0, none⟩)), (16, .pointer (some ⟨g, 0, none⟩))] (by kernel_rfl) ?_
    refine OI_cell 31 (.tmp 16) 0 (.slice A ts.length cap) (some 17) (by kernel_rfl) (by kernel_rfl) hg (m := 1) (by kernel_rfl) rfl ?_
    refine OI_call { callee := (Callee.value (Operand.func 27)), args := #[(Operand.tmp 17)], argTypes := #[31] } 27 #[.slice A ts.length cap] (some 18) (by kernel_rfl) (by kernel_rfl) (by kernel_rfl) (cloneTk_spec A cap ts _ hA (by omega)) ?_
    rintro _ w4 ⟨A9, cap9, rfl, h9, hk5, hown9⟩
    refine ⟨_, rfl, ?_⟩
    replace hg := hg.keep hk5 (fun f => f)
    have hglt := hg.lt
    replace hA := SlT.keep0 hA hk5
    replace hK0 := Keep.tr hK0 (Keep.ofNone hk5); have hzhK0 := Keep.size hK0
    have hw6 : IntKind.i64.wrap (((i : Nat) : Int) + 1) = ((i + 1 : Nat) : Int) := (wrap64_id (by omega) (by omega)).trans (by omega)
    refine OI_static 9 [(13, .pointer (some ⟨g, 0, none⟩)), (18, .slice A9 ts.length cap9), (19, .int .i64 ((i : Nat) : Int)), (21, .int .i64 (IntKind.i64.wrap (((i : Nat) : Int) + 1)))] (by kernel_rfl) ?_
    refine OI_eq [(13, .pointer (some ⟨g, 0, none⟩)), (18, .slice A9 ts.length cap9), (19, .int .i64 ((i : Nat) : Int)), (21, .int .i64 ((i + 1 : Nat) : Int))] (by rw [hw6]) ?_
    obtain ⟨b9, o9, L9, T9, rfl, hat9⟩ := SlT.open_ h9 (by first | omega | simp | (simp; omega))
    have hb9lt := hat9.blk.lt
    have hbge := hown9 b9 ⟨_, rfl, rfl⟩
    refine OI_call { callee := (Callee.value (Operand.func 28)), args := #[(Operand.tmp 18), (Operand.tmp 19), (Operand.tmp 21)], argTypes := #[31, 3, 3] } 28 #[.slice (some ⟨b9, o9, none⟩) ts.length cap9, .int .i64 ((i : Nat) : Int), .int .i64 ((i + 1 : Nat) : Int)] (some 22) (by kernel_rfl) (by kernel_rfl) (by kernel_rfl) (deleteTk_spec b9 o9 cap9 i _ _ ts _ hat9 hi (by omega)) ?_
    rintro _ w7 ⟨rfl, h12, hk8⟩
    refine ⟨_, rfl, ?_⟩
    replace hg := hg.keep hk8 (by show ¬ (_ = _); omega)
    have hglt := hg.lt
    replace hA := SlT.keep hA hk8 (fun k hk hs => by have hs : k = b9 := hs; have h2 := hltA _ hk; omega)
    replace hK0 := Keep.fresh hK0 hk8 (by intro i hi hs; first | exact hs | exact Or.inl hs | exact Or.inr hs | (exfalso; have hs2 : i = b9 := hs; omega)); have hzhK0 := Keep.size hK0
    refine OI_static 12 [(22, .slice (some ⟨b9, o9, none⟩) (ts.length - 1) cap9), (24, .pointer (some ⟨g, 0, none⟩))] (by kernel_rfl) ?_
    refine OI_set (m := 1) (kd := false) 31 (.tmp 24) (.tmp 22) 0 (.slice (some ⟨b9, o9, none⟩) (ts.length - 1) cap9) [.slice (some ⟨b9, o9, none⟩) (ts.length - 1) cap9] none (by kernel_rfl) (by kernel_rfl) (by kernel_rfl) hg (by kernel_rfl) (by kernel_rfl) (by kernel_rfl) (Nat.le_of_ble_eq_true (by kernel_rfl)) (by simp [Value.oneCell']) ?_
    intro w10 hg_13 hk11 hz12
    replace hg_13 : Blk w10 g [.slice (some ⟨b9, o9, none⟩) (ts.length - 1) cap9] 57 := hg_13
    replace hA := SlT.keep hA hk11 (fun k hk hs => by have hs : k = g := hs; subst hs; exact hgA hk)
    replace h12 := SlT.keep h12 hk11 (fun k hk hs => by have hs : k = g := hs; have h2 := inA_some hk; omega)
    replace hK0 := Keep.fresh hK0 hk11 (by intro i hi hs; first | exact hs | exact Or.inl hs | exact Or.inr hs | (exfalso; have hs2 : i = g := hs; omega)); have hzhK0 := Keep.size hK0
    refine OI_end rfl ?_
    refine X_then ?_
    refine V_seq ?_
    refine V_region ?_
    refine OI_static 1 [(4, .bool true)] (by kernel_rfl) ?_
    refine OI_end rfl ?_
    refine X_then ?_
    refine V_ret ?_
    have hl12 : (del nm ts).length = ts.length - 1 := by rw [← hdel]; simp; omega
    rw [hany]
    exact X_return _ rfl ⟨rfl, ⟨hs.del nm, by rw [hl12]; omega, _, cap9, ⟨by rw [hl12]; exact hg_13, by rw [← hdel]; exact h12, fun h => by have := inA_some h; omega⟩, fun k hk => hD k (by have := inA_some hk; omega)⟩, hK0⟩
end Go.Al
