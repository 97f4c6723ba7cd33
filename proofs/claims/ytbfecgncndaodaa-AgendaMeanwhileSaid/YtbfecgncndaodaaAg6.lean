/-
  Walks of the laws of the agenda: what is due.
-/
import Derived.Test.YtbfecgncndaodaaAg5
import Derived.Test.YtbfecgncndaodaaArg
namespace Go.Al
open Go Go.RowKit Go.Proofs
/-! ### What is due -/
def isDue (now : Int) (t : Tk) : Bool := decide (t.at_ ≤ now)
theorem ins_count (p : Tk → Bool) (t : Tk) : ∀ ts : List Tk, (ins t ts).countP p = ts.countP p + (if p t then 1 else 0)
  | [] => by simp [ins, List.countP_cons]
  | x :: l => by
    simp only [ins]
    split
    · rw [List.countP_cons, List.countP_cons, ins_count p t l]; omega
    · rw [List.countP_cons]
theorem ins_count_t {now : Int} {t : Tk} {ts : List Tk} (h : t.at_ ≤ now) : (ins t ts).countP (isDue now) = ts.countP (isDue now) + 1 := by
  rw [ins_count, if_pos (show isDue now t = true by simp [isDue, h])]
theorem ins_count_f {now : Int} {t : Tk} {ts : List Tk} (h : ¬ t.at_ ≤ now) : (ins t ts).countP (isDue now) = ts.countP (isDue now) := by
  rw [ins_count, if_neg (by simp [isDue]; omega)]
  omega
theorem dueN_count {now : Int} : ∀ (ts : List Tk) (most : Int), Srt ts → 0 ≤ most → (∀ x ∈ ts.take (dueN now most ts), x.at_ ≤ now) ∧ (ts.drop (dueN now most ts)).countP (isDue now) + dueN now most ts = ts.countP (isDue now) ∧ ((dueN now most ts : Int) < most → (ts.drop (dueN now most ts)).countP (isDue now) = 0)
  | [], most, _, _ => by simp [dueN]
  | t :: l, most, hs, hm => by
    have hs := List.pairwise_cons.1 hs
    simp only [dueN]
    by_cases h : 0 < most ∧ t.at_ ≤ now
    · rw [if_pos h]
      obtain ⟨h1, h2, h3⟩ := dueN_count (now := now) l (most - 1) hs.2 (by omega)
      refine ⟨?_, ?_, ?_⟩
      · intro x hx
        rw [List.take_succ_cons] at hx
        rcases List.mem_cons.1 hx with rfl | hx
        · exact h.2
        · exact h1 x hx
      · rw [List.drop_succ_cons, List.countP_cons, if_pos (by simp [isDue, h.2])]; omega
      · intro hlt; rw [List.drop_succ_cons]; exact h3 (by omega)
    · rw [if_neg h]
      refine ⟨by simp, by simp, ?_⟩
      intro hlt
      rw [List.drop_zero, List.countP_eq_zero]
      have ht : now < t.at_ := by omega
      intro x hx
      rcases List.mem_cons.1 hx with rfl | hx
      · simp [isDue]; omega
      · have := hs.1 x hx
        simp only [isDue, decide_eq_true_eq]
        unfold ltT at this
        omega
theorem due_cnt (D : Nat → Prop) (g : Nat) (ts : List Tk) (now most : Int) (w : World) (h : Ag D w g ts) (hm : 0 ≤ most) :
    Calls Try.prog 13 #[.pointer (some ⟨g, 0, none⟩), .int .i64 now, .int .i64 most] w fun e w' => ∃ A' cap' r ts', e = .returned (.slice A' r.length cap') ∧ SlT w' 36 Tk.cells A' cap' r ∧ Ag D w' g ts' ∧ Keep (only g) w w' ∧ (∀ k, inA A' k → w.heap.size ≤ k) ∧ (∀ x ∈ r, x.at_ ≤ now) ∧ ts'.countP (isDue now) + r.length = ts.countP (isDue now) ∧ ts'.length + r.length = ts.length ∧ (r.length : Int) ≤ most ∧ ((r.length : Int) < most → ts'.countP (isDue now) = 0) := by
  have hs := h.1
  refine (due_spec D g _ now most w h).mono ?_
  rintro e w' ⟨A', cap', rfl, h2, h3, h4, h5⟩
  obtain ⟨c1, c2, c3⟩ := dueN_count (now := now) ts most hs hm
  have hle := dueN_le (now := now) ts most
  have hrl : (ts.take (dueN now most ts)).length = dueN now most ts := by rw [List.length_take]; omega
  refine ⟨A', cap', _, _, rfl, h2, h3, h4, h5, c1, by rw [hrl]; exact c2, by rw [hrl, List.length_drop]; omega, by rw [hrl]; exact hle.2 hm, by rw [hrl]; exact c3⟩
theorem count_le (p : Tk → Bool) (ts : List Tk) : ts.countP p ≤ ts.length := List.countP_le_length

theorem walk_AgendaDue (A : Option Addr) (cap : Nat) (xs : List Int) (now most : Int) (w : World) (hA0 : ArgT w 1 intc A cap xs) (hcap : xs.length ≤ 9223372036854775807) : Calls Try.prog 3 #[.slice A xs.length cap, .int .i64 now, .int .i64 most] w fun e w' => e = .returned (.bool true) ∧ Keep none_ w w' := by
  have hA := hA0
  have hK0 : Keep none_ w w := Keep.refl _ _
  have hzhK0 := Keep.size hK0
  refine enterV Try.func3 rfl [.slice A xs.length cap, .int .i64 now, .int .i64 most] 128 rfl rfl rfl ?_
  refine V_pick [(0, .slice A xs.length cap), (1, .int .i64 now), (2, .int .i64 most)] rfl ?_
  refine V_seq ?_
  refine V_region ?_
  refine OI_static 1 [(0, .slice A xs.length cap), (1, .int .i64 now), (2, .int .i64 most)] (by kernel_rfl) ?_
  refine OI_end rfl ?_
  refine X_then ?_
  refine V_seq ?_
  refine V_seq ?_
  refine V_region ?_
  refine OI_static 4 [(0, .slice A xs.length cap), (1, .int .i64 now), (2, .int .i64 most), (18, .bool (decide (((xs.length : Nat) : Int) > 12)))] (by kernel_rfl) ?_
  by_cases hg1 : ((xs.length : Nat) : Int) > 12
  · skip
    refine OI_eq [(0, .slice A xs.length cap), (1, .int .i64 now), (2, .int .i64 most), (18, .bool true)] (by simp [hg1]) ?_
    refine OI_static 19 [(0, .slice A xs.length cap), (1, .int .i64 now), (2, .int .i64 most), (33, .bool true)] (by kernel_rfl) ?_
    refine OI_end rfl ?_
    refine X_then ?_
    refine V_true rfl ?_
    refine V_seq ?_
    refine V_region ?_
    refine OI_static 1 [(6, .bool true)] (by kernel_rfl) ?_
    refine OI_end rfl ?_
    refine X_then ?_
    refine V_ret ?_
    refine X_ret_then ?_
    exact X_return (.bool true) rfl ⟨rfl, hK0⟩
  · skip
    refine OI_eq [(0, .slice A xs.length cap), (1, .int .i64 now), (2, .int .i64 most), (18, .bool false)] (by simp [hg1]) ?_
    refine OI_static 8 [(0, .slice A xs.length cap), (1, .int .i64 now), (2, .int .i64 most), (22, .bool (decide (now < 0)))] (by kernel_rfl) ?_
    by_cases hg2 : now < 0
    · skip
      refine OI_eq [(0, .slice A xs.length cap), (1, .int .i64 now), (2, .int .i64 most), (22, .bool true)] (by simp [hg2]) ?_
      refine OI_static 19 [(0, .slice A xs.length cap), (1, .int .i64 now), (2, .int .i64 most), (33, .bool true)] (by kernel_rfl) ?_
      refine OI_end rfl ?_
      refine X_then ?_
      refine V_true rfl ?_
      refine V_seq ?_
      refine V_region ?_
      refine OI_static 1 [(6, .bool true)] (by kernel_rfl) ?_
      refine OI_end rfl ?_
      refine X_then ?_
      refine V_ret ?_
      refine X_ret_then ?_
      exact X_return (.bool true) rfl ⟨rfl, hK0⟩
    · skip
      refine OI_eq [(0, .slice A xs.length cap), (1, .int .i64 now), (2, .int .i64 most), (22, .bool false)] (by simp [hg2]) ?_
      refine OI_static 12 [(0, .slice A xs.length cap), (1, .int .i64 now), (2, .int .i64 most), (26, .bool (decide (now > 63)))] (by kernel_rfl) ?_
      by_cases hg3 : now > 63
      · skip
        refine OI_eq [(0, .slice A xs.length cap), (1, .int .i64 now), (2, .int .i64 most), (26, .bool true)] (by simp [hg3]) ?_
        refine OI_static 19 [(0, .slice A xs.length cap), (1, .int .i64 now), (2, .int .i64 most), (33, .bool true)] (by kernel_rfl) ?_
        refine OI_end rfl ?_
        refine X_then ?_
        refine V_true rfl ?_
        refine V_seq ?_
        refine V_region ?_
        refine OI_static 1 [(6, .bool true)] (by kernel_rfl) ?_
        refine OI_end rfl ?_
        refine X_then ?_
        refine V_ret ?_
        refine X_ret_then ?_
        exact X_return (.bool true) rfl ⟨rfl, hK0⟩
      · skip
        refine OI_eq [(0, .slice A xs.length cap), (1, .int .i64 now), (2, .int .i64 most), (26, .bool false)] (by simp [hg3]) ?_
        refine OI_static 16 [(0, .slice A xs.length cap), (1, .int .i64 now), (2, .int .i64 most), (30, .bool (decide (most < 1)))] (by kernel_rfl) ?_
        by_cases hg4 : most < 1
        · skip
          refine OI_eq [(0, .slice A xs.length cap), (1, .int .i64 now), (2, .int .i64 most), (30, .bool true)] (by simp [hg4]) ?_
          refine OI_static 19 [(0, .slice A xs.length cap), (1, .int .i64 now), (2, .int .i64 most), (33, .bool true)] (by kernel_rfl) ?_
          refine OI_end rfl ?_
          refine X_then ?_
          refine V_true rfl ?_
          refine V_seq ?_
          refine V_region ?_
          refine OI_static 1 [(6, .bool true)] (by kernel_rfl) ?_
          refine OI_end rfl ?_
          refine X_then ?_
          refine V_ret ?_
          refine X_ret_then ?_
          exact X_return (.bool true) rfl ⟨rfl, hK0⟩
        · skip
          refine OI_eq [(0, .slice A xs.length cap), (1, .int .i64 now), (2, .int .i64 most), (30, .bool false)] (by simp [hg4]) ?_
          refine OI_static 19 [(0, .slice A xs.length cap), (1, .int .i64 now), (2, .int .i64 most), (33, .bool (decide (most > 15)))] (by kernel_rfl) ?_
          refine OI_end rfl ?_
          refine X_then ?_
          refine V_if (most > 15) (by kernel_rfl) (fun hc5 => ?_) (fun hc5 => ?_)
          · skip
            refine V_seq ?_
            refine V_region ?_
            refine OI_static 1 [(6, .bool true)] (by kernel_rfl) ?_
            refine OI_end rfl ?_
            refine X_then ?_
            refine V_ret ?_
            refine X_ret_then ?_
            exact X_return (.bool true) rfl ⟨rfl, hK0⟩
          · skip
            refine V_skip ?_
            refine X_then ?_
            refine V_seq ?_
            refine V_region ?_
            refine OI_call { callee := (Callee.value (Operand.func 11)), args := #[], argTypes := #[] } 11 #[] (some 34) (by kernel_rfl) (by kernel_rfl) (by kernel_rfl) (new_spec any_ _) ?_
            rintro _ w6 ⟨g8, rfl, hag9, hk7, hgeg8⟩
            refine ⟨_, rfl, ?_⟩
            replace hA := ArgT.keep0 hA hk7
            replace hK0 := Keep.tr hK0 (Keep.ofNone hk7); have hzhK0 := Keep.size hK0
            have hltg8 := Ag.lt hag9
            refine OI_static 2 [(0, .slice A xs.length cap), (1, .int .i64 now), (2, .int .i64 most), (7, .pointer (some ⟨g8, 0, none⟩))] (by kernel_rfl) ?_
            refine OI_end rfl ?_
            refine X_then ?_
            refine V_seq ?_
            refine V_seq ?_
            refine V_region ?_
            refine OI_static 2 [(0, .slice A xs.length cap), (1, .int .i64 now), (2, .int .i64 most), (7, .pointer (some ⟨g8, 0, none⟩)), (36, .bool false)] (by kernel_rfl) ?_
            refine OI_end rfl ?_
            refine X_then ?_
            refine V_false rfl ?_
            refine V_skip ?_
            refine X_then ?_
            refine V_seq ?_
            refine V_region ?_
            refine OI_static 1 [(0, .slice A xs.length cap), (1, .int .i64 now), (2, .int .i64 most), (7, .pointer (some ⟨g8, 0, none⟩)), (8, .int .i64 0)] (by kernel_rfl) ?_
            refine OI_end rfl ?_
            refine X_then ?_
            refine V_seq ?_
            refine V_seq ?_
            refine V_region ?_
            refine OI_static 1 [(0, .slice A xs.length cap), (1, .int .i64 now), (2, .int .i64 most), (7, .pointer (some ⟨g8, 0, none⟩)), (8, .int .i64 0), (9, .int .i64 0)] (by kernel_rfl) ?_
            refine OI_end rfl ?_
            refine X_then ?_
            refine V_block ?_
            refine V_pick [(0, .slice A xs.length cap), (1, .int .i64 now), (2, .int .i64 most), (7, .pointer (some ⟨g8, 0, none⟩)), (8, .int .i64 0), (9, .int .i64 0)] rfl ?_
            refine V_loop (fun k wI e => ∃ i : Nat, ∃ due : Nat, ∃ ts : List Tk, (k + i = xs.length) ∧ (Ag any_ wI g8 ts) ∧ (ts.length = i) ∧ (∀ y ∈ ts, y.name < (i : Int)) ∧ (ts.countP (isDue now) = due) ∧ (due ≤ i) ∧ Keep (only g8) w6 wI ∧ e = [(0, .slice A xs.length cap), (1, .int .i64 now), (2, .int .i64 most), (7, .pointer (some ⟨g8, 0, none⟩)), (8, .int .i64 ((due : Nat) : Int)), (9, .int .i64 ((i : Nat) : Int))]) xs.length ⟨0, 0, [], rfl, hag9, rfl, (fun y hy => by cases hy), rfl, Nat.le_refl _, Keep.refl _ _, rfl⟩ ?_
            rintro k11 w10 _ ⟨i, due, ts, hki, hag1, htl, hnm, hcnt, hdi, hk12, rfl⟩
            replace hA := ArgT.keep hA hk12 hA0 (fun k hk hs => by have hs : k = g8 := hs; omega)
            replace hK0 := Keep.fresh hK0 hk12 (by intro i hi hs; first | exact hs | exact Or.inl hs | exact Or.inr hs | (exfalso; have hs2 : i = g8 := hs; omega)); have hzhK0 := Keep.size hK0
            skip
            have hzhk12 := Keep.size hk12
            have hltg8 := Ag.lt hag1
            refine V_seq ?_
            refine V_seq ?_
            refine V_region ?_
            refine OI_static 4 [(0, .slice A xs.length cap), (1, .int .i64 now), (2, .int .i64 most), (7, .pointer (some ⟨g8, 0, none⟩)), (8, .int .i64 ((due : Nat) : Int)), (9, .int .i64 ((i : Nat) : Int)), (40, .bool (decide (((i : Nat) : Int) < ((xs.length : Nat) : Int))))] (by kernel_rfl) ?_
            refine OI_end rfl ?_
            refine X_then ?_
            refine V_if (((i : Nat) : Int) < ((xs.length : Nat) : Int)) (by kernel_rfl) (fun hc13 => ?_) (fun hc13 => ?_)
            · skip
              refine V_skip ?_
              refine X_then ?_
              refine V_seq ?_
              refine V_block ?_
              refine V_seq ?_
              refine V_region ?_
              refine OI_static 3 [(0, .slice A xs.length cap), (1, .int .i64 now), (2, .int .i64 most), (7, .pointer (some ⟨g8, 0, none⟩)), (8, .int .i64 ((due : Nat) : Int)), (9, .int .i64 ((i : Nat) : Int)), (43, .int .i64 ((i : Nat) : Int)), (44, .slice A xs.length cap), (45, .int .i64 ((i : Nat) : Int))] (by kernel_rfl) ?_
              obtain ⟨b14, o14, L14, rfl, hat14⟩ := ArgT.open_ hA (by first | omega | simp | (simp; omega))
              have hb14lt0 := ArgT.lt hA0 (by first | omega | simp | (simp; omega))
              have hb14lt := hat14.blk.lt
              refine OI_pure (some 46) (.indexAddr 22 (.tmp 44) (.tmp 45)) (by kernel_rfl) (pure_idxN (b := b14) (o := o14) (len := xs.length) (cap := cap) (kd := .i64) (j := i) (E := 3) (sz := 1) (by_ := 8) (by kernel_rfl) (by kernel_rfl) (by kernel_rfl) (by omega)) ?_
              obtain ⟨x15, hx16⟩ : ∃ x, xs[i]? = some x := ⟨_, List.getElem?_eq_getElem (by omega)⟩
              refine OI_cellR 3 (.tmp 46) (o14 + i * 1) (.int .i64 x15) (some 47) (by kernel_rfl) (by kernel_rfl) hat14.blk (m := 1) (by kernel_rfl) (AtR.cell0 hat14 (es_at hx16) rfl) ?_
              refine OI_static 7 [(0, .slice (some ⟨b14, o14, none⟩) xs.length cap), (1, .int .i64 now), (2, .int .i64 most), (7, .pointer (some ⟨g8, 0, none⟩)), (8, .int .i64 ((due : Nat) : Int)), (9, .int .i64 ((i : Nat) : Int)), (49, .agg (Tk.cells (tk0 ((i : Nat) : Int) (bAnd x15 63))).toArray)] (by kernel_rfl) ?_
              refine OI_alloc 28 (.agg #[.int .i64 0, .int .i64 0, .int .i64 0, .int .u8 0, .int .u8 0, .int .u8 0, .int .u8 0, .int .u8 0, .int .u8 0, .int .u8 0, .int .u8 0, .int .u8 0, .int .u8 0, .int .u8 0, .int .u8 0, .int .u8 0, .int .u8 0, .int .u8 0, .int .u8 0, .int .u8 0, .int .u8 0, .int .u8 0, .int .u8 0, .int .u8 0, .int .u8 0, .int .u8 0, .int .u8 0, .int .u8 0, .int .u8 0, .int .u8 0, .int .u8 0, .int .u8 0, .int .u8 0, .int .u8 0, .int .u8 0, .int .i64 0]) [.int .i64 0, .int .i64 0, .int .i64 0, .int .u8 0, .int .u8 0, .int .u8 0, .int .u8 0, .int .u8 0, .int .u8 0, .int .u8 0, .int .u8 0, .int .u8 0, .int .u8 0, .int .u8 0, .int .u8 0, .int .u8 0, .int .u8 0, .int .u8 0, .int .u8 0, .int .u8 0, .int .u8 0, .int .u8 0, .int .u8 0, .int .u8 0, .int .u8 0, .int .u8 0, .int .u8 0, .int .u8 0, .int .u8 0, .int .u8 0, .int .u8 0, .int .u8 0, .int .u8 0, .int .u8 0, .int .u8 0, .int .i64 0] (some 10) (by kernel_rfl) (by kernel_rfl) (by kernel_rfl) ?_
              intro b17 w17 e17 hb17 k17 z17
              replace hat14 := hat14.keep k17 (fun f => f)
              have hb14lt := hat14.blk.lt
              replace hK0 := Keep.tr hK0 (Keep.ofNone k17); have hzhK0 := Keep.size hK0
              replace hag1 := Ag.fresh hag1 k17 b17 (by omega)
              replace hk12 := Keep.tr hk12 (Keep.ofNone k17); have hzhk12 := Keep.size hk12
              have hb17lt := hb17.lt
              refine OI_set (m := 36) (kd := true) 28 (.tmp 10) (.tmp 49) 0 (.agg (Tk.cells (tk0 ((i : Nat) : Int) (bAnd x15 63))).toArray) (Tk.cells (tk0 ((i : Nat) : Int) (bAnd x15 63))) none (by kernel_rfl) (by kernel_rfl) (by kernel_rfl) hb17 (by kernel_rfl) rfl (Tk.len _) (Nat.le_of_ble_eq_true (by kernel_rfl)) (Tk.one _) ?_
              intro w18 hb17_21 hk19 hz20
              replace hb17_21 : Blk w18 b17 (Tk.cells (tk0 ((i : Nat) : Int) (bAnd x15 63))) 28 := (by rwa [over_whole (by rw [Tk.len]; rfl)] at hb17_21)
              replace hat14 := hat14.keep hk19 (by show ¬ (_ = _); omega)
              have hb14lt := hat14.blk.lt
              replace hK0 := Keep.fresh hK0 hk19 (by intro i hi hs; first | exact hs | exact Or.inl hs | exact Or.inr hs | (exfalso; have hs2 : i = b17 := hs; omega)); have hzhK0 := Keep.size hK0
              replace hag1 := (Ag.keep hag1 hk19 (by show ¬ (_ = _); omega) (fun k hk => hk.2)).mono (fun k h => h.1)
              replace hk12 := Keep.fresh hk12 hk19 (by intro i hi hs; first | exact hs | exact Or.inl hs | exact Or.inr hs | (exfalso; have hs2 : i = b17 := hs; omega)); have hzhk12 := Keep.size hk12
              refine OI_end rfl ?_
              refine X_then ?_
              refine V_seq ?_
              refine V_seq ?_
              refine V_region ?_
              refine OI_static 1 [(0, .slice (some ⟨b14, o14, none⟩) xs.length cap), (1, .int .i64 now), (2, .int .i64 most), (7, .pointer (some ⟨g8, 0, none⟩)), (8, .int .i64 ((due : Nat) : Int)), (9, .int .i64 ((i : Nat) : Int)), (10, .pointer (some ⟨b17, 0, none⟩)), (50, .pointer (some ⟨g8, 0, none⟩))] (by kernel_rfl) ?_
              refine OI_agg 28 (.tmp 10) 0 (Tk.cells (tk0 ((i : Nat) : Int) (bAnd x15 63))) (some 51) (by kernel_rfl) (by kernel_rfl) hb17_21 (m := 36) (by kernel_rfl) (take_all (Tk.len _)) (Tk.len _) ?_
              have hb63 : 0 ≤ bAnd x15 63 ∧ bAnd x15 63 ≤ 63 := bAnd_le x15 63 (by omega)
              refine OI_call { callee := (Callee.value (Operand.func 12)), args := #[(Operand.tmp 50), (Operand.tmp 51)], argTypes := #[23, 28] } 12 #[.pointer (some ⟨g8, 0, none⟩), .agg (Tk.cells (tk0 ((i : Nat) : Int) (bAnd x15 63))).toArray] (some 52) (by kernel_rfl) (by kernel_rfl) (by kernel_rfl) (put_is any_ g8 ts (tk0 ((i : Nat) : Int) (bAnd x15 63)) 0 (ins (tk0 ((i : Nat) : Int) (bAnd x15 63)) ts) _ hag1 (fun _ _ => trivial) (put0 (by omega) hb63.1 (no_name fun x hx => by have := hnm x hx; omega) (by omega))) ?_
              rintro _ w22 ⟨rfl, hag24, hk23⟩
              refine ⟨_, rfl, ?_⟩
              replace hb17_21 := hb17_21.keep hk23 (by show ¬ (_ = _); omega)
              have hb17lt := hb17_21.lt
              replace hat14 := hat14.keep hk23 (by show ¬ (_ = _); omega)
              have hb14lt := hat14.blk.lt
              replace hK0 := Keep.fresh hK0 hk23 (by intro i hi hs; first | exact hs | exact Or.inl hs | exact Or.inr hs | (exfalso; have hs2 : i = g8 := hs; omega)); have hzhK0 := Keep.size hK0
              skip
              replace hk12 := Keep.fresh hk12 hk23 (by intro i hi hs; first | exact hs | exact Or.inl hs | exact Or.inr hs | (exfalso; have hs2 : i = g8 := hs; omega)); have hzhk12 := Keep.size hk12
              have hltg8 := Ag.lt hag24
              refine OI_static 4 [(0, .slice (some ⟨b14, o14, none⟩) xs.length cap), (1, .int .i64 now), (2, .int .i64 most), (7, .pointer (some ⟨g8, 0, none⟩)), (8, .int .i64 ((due : Nat) : Int)), (9, .int .i64 ((i : Nat) : Int)), (10, .pointer (some ⟨b17, 0, none⟩)), (53, .bool false)] (by kernel_rfl) ?_
              refine OI_end rfl ?_
              refine X_then ?_
              refine V_false rfl ?_
              refine V_skip ?_
              refine X_then ?_
              refine V_seq ?_
              refine V_region ?_
              refine OI_static 1 [(0, .slice (some ⟨b14, o14, none⟩) xs.length cap), (1, .int .i64 now), (2, .int .i64 most), (7, .pointer (some ⟨g8, 0, none⟩)), (8, .int .i64 ((due : Nat) : Int)), (9, .int .i64 ((i : Nat) : Int)), (54, .pointer (some ⟨b17, 1, none⟩))] (by kernel_rfl) ?_
              refine OI_cell 3 (.tmp 54) 1 (.int .i64 (bAnd x15 63)) (some 55) (by kernel_rfl) (by kernel_rfl) hb17_21 (m := 1) (by kernel_rfl) rfl ?_
              refine OI_static 4 [(0, .slice (some ⟨b14, o14, none⟩) xs.length cap), (1, .int .i64 now), (2, .int .i64 most), (7, .pointer (some ⟨g8, 0, none⟩)), (8, .int .i64 ((due : Nat) : Int)), (9, .int .i64 ((i : Nat) : Int)), (57, .bool (decide ((bAnd x15 63) ≤ now)))] (by kernel_rfl) ?_
              refine OI_end rfl ?_
              refine X_then ?_
              refine V_if ((bAnd x15 63) ≤ now) (by kernel_rfl) (fun hc25 => ?_) (fun hc25 => ?_)
              · skip
                refine V_region ?_
                have hw26 : IntKind.i64.wrap (((due : Nat) : Int) + 1) = ((due + 1 : Nat) : Int) := (wrap64_id (by omega) (by omega)).trans (by omega)
                refine OI_static 2 [(0, .slice (some ⟨b14, o14, none⟩) xs.length cap), (1, .int .i64 now), (2, .int .i64 most), (7, .pointer (some ⟨g8, 0, none⟩)), (9, .int .i64 ((i : Nat) : Int)), (59, .int .i64 (IntKind.i64.wrap (((due : Nat) : Int) + 1)))] (by kernel_rfl) ?_
                refine OI_eq [(0, .slice (some ⟨b14, o14, none⟩) xs.length cap), (1, .int .i64 now), (2, .int .i64 most), (7, .pointer (some ⟨g8, 0, none⟩)), (9, .int .i64 ((i : Nat) : Int)), (59, .int .i64 ((due + 1 : Nat) : Int))] (by rw [hw26]) ?_
                refine OI_static 3 [(0, .slice (some ⟨b14, o14, none⟩) xs.length cap), (1, .int .i64 now), (2, .int .i64 most), (7, .pointer (some ⟨g8, 0, none⟩)), (8, .int .i64 ((due + 1 : Nat) : Int)), (9, .int .i64 ((i : Nat) : Int))] (by kernel_rfl) ?_
                refine OI_end rfl ?_
                refine X_block ?_
                refine X_then ?_
                refine V_region ?_
                have hw27 : IntKind.i64.wrap (((i : Nat) : Int) + 1) = ((i + 1 : Nat) : Int) := (wrap64_id (by omega) (by omega)).trans (by omega)
                refine OI_static 2 [(0, .slice (some ⟨b14, o14, none⟩) xs.length cap), (1, .int .i64 now), (2, .int .i64 most), (7, .pointer (some ⟨g8, 0, none⟩)), (8, .int .i64 ((due + 1 : Nat) : Int)), (42, .int .i64 (IntKind.i64.wrap (((i : Nat) : Int) + 1)))] (by kernel_rfl) ?_
                refine OI_eq [(0, .slice (some ⟨b14, o14, none⟩) xs.length cap), (1, .int .i64 now), (2, .int .i64 most), (7, .pointer (some ⟨g8, 0, none⟩)), (8, .int .i64 ((due + 1 : Nat) : Int)), (42, .int .i64 ((i + 1 : Nat) : Int))] (by rw [hw27]) ?_
                refine OI_static 3 [(0, .slice (some ⟨b14, o14, none⟩) xs.length cap), (1, .int .i64 now), (2, .int .i64 most), (7, .pointer (some ⟨g8, 0, none⟩)), (8, .int .i64 ((due + 1 : Nat) : Int)), (9, .int .i64 ((i + 1 : Nat) : Int))] (by kernel_rfl) ?_
                refine OI_end rfl ?_
                exact V_again (k11 - 1) (by omega) [(0, .slice (some ⟨b14, o14, none⟩) xs.length cap), (1, .int .i64 now), (2, .int .i64 most), (7, .pointer (some ⟨g8, 0, none⟩)), (8, .int .i64 ((due + 1 : Nat) : Int)), (9, .int .i64 ((i + 1 : Nat) : Int))] rfl ⟨i + 1, due + 1, ins (tk0 ((i : Nat) : Int) (bAnd x15 63)) ts, by omega, hag24, by rw [ins_len]; omega, by intro y hy; rcases ins_mem.1 hy with rfl | hy; (show ((i : Nat) : Int) < _); omega; have := hnm y hy; omega, (ins_count_t (t := tk0 ((i : Nat) : Int) (bAnd x15 63)) hc25).trans (by rw [hcnt]), by omega, hk12, rfl⟩
              · skip
                refine V_skip ?_
                refine X_block ?_
                refine X_then ?_
                refine V_region ?_
                have hw28 : IntKind.i64.wrap (((i : Nat) : Int) + 1) = ((i + 1 : Nat) : Int) := (wrap64_id (by omega) (by omega)).trans (by omega)
                refine OI_static 2 [(0, .slice (some ⟨b14, o14, none⟩) xs.length cap), (1, .int .i64 now), (2, .int .i64 most), (7, .pointer (some ⟨g8, 0, none⟩)), (8, .int .i64 ((due : Nat) : Int)), (42, .int .i64 (IntKind.i64.wrap (((i : Nat) : Int) + 1)))] (by kernel_rfl) ?_
                refine OI_eq [(0, .slice (some ⟨b14, o14, none⟩) xs.length cap), (1, .int .i64 now), (2, .int .i64 most), (7, .pointer (some ⟨g8, 0, none⟩)), (8, .int .i64 ((due : Nat) : Int)), (42, .int .i64 ((i + 1 : Nat) : Int))] (by rw [hw28]) ?_
                refine OI_static 3 [(0, .slice (some ⟨b14, o14, none⟩) xs.length cap), (1, .int .i64 now), (2, .int .i64 most), (7, .pointer (some ⟨g8, 0, none⟩)), (8, .int .i64 ((due : Nat) : Int)), (9, .int .i64 ((i + 1 : Nat) : Int))] (by kernel_rfl) ?_
                refine OI_end rfl ?_
                exact V_again (k11 - 1) (by omega) [(0, .slice (some ⟨b14, o14, none⟩) xs.length cap), (1, .int .i64 now), (2, .int .i64 most), (7, .pointer (some ⟨g8, 0, none⟩)), (8, .int .i64 ((due : Nat) : Int)), (9, .int .i64 ((i + 1 : Nat) : Int))] rfl ⟨i + 1, due, ins (tk0 ((i : Nat) : Int) (bAnd x15 63)) ts, by omega, hag24, by rw [ins_len]; omega, by intro y hy; rcases ins_mem.1 hy with rfl | hy; (show ((i : Nat) : Int) < _); omega; have := hnm y hy; omega, (ins_count_f (t := tk0 ((i : Nat) : Int) (bAnd x15 63)) hc25).trans (by rw [hcnt]), by omega, hk12, rfl⟩
            · skip
              refine V_exit ?_
              refine X_exit_then ?_
              refine X_exit_then ?_
              refine X_exit_here ?_
              refine X_then ?_
              refine V_seq ?_
              refine V_region ?_
              refine OI_static 1 [(0, .slice A xs.length cap), (1, .int .i64 now), (2, .int .i64 most), (7, .pointer (some ⟨g8, 0, none⟩)), (8, .int .i64 ((due : Nat) : Int)), (11, .int .i64 0)] (by kernel_rfl) ?_
              refine OI_end rfl ?_
              refine X_then ?_
              refine V_seq ?_
              refine V_seq ?_
              refine V_region ?_
              refine OI_static 1 [(0, .slice A xs.length cap), (1, .int .i64 now), (2, .int .i64 most), (7, .pointer (some ⟨g8, 0, none⟩)), (8, .int .i64 ((due : Nat) : Int)), (11, .int .i64 0), (12, .int .i64 0)] (by kernel_rfl) ?_
              refine OI_end rfl ?_
              refine X_then ?_
              refine V_block ?_
              refine V_pick [(0, .slice A xs.length cap), (1, .int .i64 now), (2, .int .i64 most), (7, .pointer (some ⟨g8, 0, none⟩)), (8, .int .i64 ((due : Nat) : Int)), (11, .int .i64 0), (12, .int .i64 0)] rfl ?_
              refine V_loop (fun k wI e => ∃ c : Nat, ∃ got : Nat, ∃ ts2 : List Tk, (k + c = 20) ∧ (Ag any_ wI g8 ts2) ∧ (got + ts2.countP (isDue now) = due) ∧ (ts2.length + got = xs.length) ∧ (c ≤ got) ∧ Keep (only g8) w10 wI ∧ e = [(0, .slice A xs.length cap), (1, .int .i64 now), (2, .int .i64 most), (7, .pointer (some ⟨g8, 0, none⟩)), (8, .int .i64 ((due : Nat) : Int)), (11, .int .i64 ((got : Nat) : Int)), (12, .int .i64 ((c : Nat) : Int))]) 20 ⟨0, 0, ts, rfl, hag1, by omega, by omega, Nat.le_refl _, Keep.refl _ _, rfl⟩ ?_
              rintro k30 w29 _ ⟨c, got, ts2, hkc, hag2, hg1, hg2, hgc, hk31, rfl⟩
              replace hA := ArgT.keep hA hk31 hA0 (fun k hk hs => by have hs : k = g8 := hs; omega)
              replace hK0 := Keep.fresh hK0 hk31 (by intro i hi hs; first | exact hs | exact Or.inl hs | exact Or.inr hs | (exfalso; have hs2 : i = g8 := hs; omega)); have hzhK0 := Keep.size hK0
              skip
              replace hk12 := Keep.fresh hk12 hk31 (by intro i hi hs; first | exact hs | exact Or.inl hs | exact Or.inr hs | (exfalso; have hs2 : i = g8 := hs; omega)); have hzhk12 := Keep.size hk12
              have hzhk31 := Keep.size hk31
              have hltg8 := Ag.lt hag2
              have hcl := count_le (isDue now) ts2
              refine V_seq ?_
              refine V_seq ?_
              refine V_region ?_
              refine OI_static 2 [(0, .slice A xs.length cap), (1, .int .i64 now), (2, .int .i64 most), (7, .pointer (some ⟨g8, 0, none⟩)), (8, .int .i64 ((due : Nat) : Int)), (11, .int .i64 ((got : Nat) : Int)), (12, .int .i64 ((c : Nat) : Int)), (61, .bool (decide (((c : Nat) : Int) < 20)))] (by kernel_rfl) ?_
              refine OI_end rfl ?_
              refine X_then ?_
              refine V_if (((c : Nat) : Int) < 20) (by kernel_rfl) (fun hc32 => ?_) (fun hc32 => ?_)
              · skip
                refine V_skip ?_
                refine X_then ?_
                refine V_seq ?_
                refine V_block ?_
                refine V_seq ?_
                refine V_region ?_
                refine OI_static 3 [(0, .slice A xs.length cap), (1, .int .i64 now), (2, .int .i64 most), (7, .pointer (some ⟨g8, 0, none⟩)), (8, .int .i64 ((due : Nat) : Int)), (11, .int .i64 ((got : Nat) : Int)), (12, .int .i64 ((c : Nat) : Int)), (64, .pointer (some ⟨g8, 0, none⟩)), (65, .int .i64 now), (66, .int .i64 most)] (by kernel_rfl) ?_
                refine OI_call { callee := (Callee.value (Operand.func 13)), args := #[(Operand.tmp 64), (Operand.tmp 65), (Operand.tmp 66)], argTypes := #[23, 3, 3] } 13 #[.pointer (some ⟨g8, 0, none⟩), .int .i64 now, .int .i64 most] (some 67) (by kernel_rfl) (by kernel_rfl) (by kernel_rfl) (due_cnt any_ g8 ts2 now most _ hag2 (by omega)) ?_
                rintro _ w33 ⟨A9, cap9, r, ts3, rfl, h9, hag35, hk34, hown9, hrn, hrc, hrl, hrm, hr0⟩
                refine ⟨_, rfl, ?_⟩
                replace hA := ArgT.keep hA hk34 hA0 (fun k hk hs => by have hs : k = g8 := hs; omega)
                replace hK0 := Keep.fresh hK0 hk34 (by intro i hi hs; first | exact hs | exact Or.inl hs | exact Or.inr hs | (exfalso; have hs2 : i = g8 := hs; omega)); have hzhK0 := Keep.size hK0
                skip
                replace hk12 := Keep.fresh hk12 hk34 (by intro i hi hs; first | exact hs | exact Or.inl hs | exact Or.inr hs | (exfalso; have hs2 : i = g8 := hs; omega)); have hzhk12 := Keep.size hk12
                replace hk31 := Keep.fresh hk31 hk34 (by intro i hi hs; first | exact hs | exact Or.inl hs | exact Or.inr hs | (exfalso; have hs2 : i = g8 := hs; omega)); have hzhk31 := Keep.size hk31
                have hltg8 := Ag.lt hag35
                refine OI_static 5 [(0, .slice A xs.length cap), (1, .int .i64 now), (2, .int .i64 most), (7, .pointer (some ⟨g8, 0, none⟩)), (8, .int .i64 ((due : Nat) : Int)), (11, .int .i64 ((got : Nat) : Int)), (12, .int .i64 ((c : Nat) : Int)), (13, .slice A9 r.length cap9)] (by kernel_rfl) ?_
                refine OI_end rfl ?_
                refine X_then ?_
                refine V_seq ?_
                refine V_seq ?_
                refine V_region ?_
                refine OI_static 5 [(0, .slice A xs.length cap), (1, .int .i64 now), (2, .int .i64 most), (7, .pointer (some ⟨g8, 0, none⟩)), (8, .int .i64 ((due : Nat) : Int)), (11, .int .i64 ((got : Nat) : Int)), (12, .int .i64 ((c : Nat) : Int)), (13, .slice A9 r.length cap9), (72, .bool (decide (((r.length : Nat) : Int) > most)))] (by kernel_rfl) ?_
                by_cases hg36 : ((r.length : Nat) : Int) > most
                · skip
                  exact (by omega : False).elim
                · skip
                  refine OI_eq [(0, .slice A xs.length cap), (1, .int .i64 now), (2, .int .i64 most), (7, .pointer (some ⟨g8, 0, none⟩)), (8, .int .i64 ((due : Nat) : Int)), (11, .int .i64 ((got : Nat) : Int)), (12, .int .i64 ((c : Nat) : Int)), (13, .slice A9 r.length cap9), (72, .bool false)] (by simp [hg36]) ?_
                  refine OI_static 10 [(0, .slice A xs.length cap), (1, .int .i64 now), (2, .int .i64 most), (7, .pointer (some ⟨g8, 0, none⟩)), (8, .int .i64 ((due : Nat) : Int)), (11, .int .i64 ((got : Nat) : Int)), (12, .int .i64 ((c : Nat) : Int)), (13, .slice A9 r.length cap9), (72, .bool false), (73, .slice A9 r.length cap9), (74, .int .i64 ((r.length : Nat) : Int)), (75, .int .i64 most), (76, .bool (decide (((r.length : Nat) : Int) < most))), (77, .bool (decide (((r.length : Nat) : Int) < most)))] (by kernel_rfl) ?_
                  by_cases hg37 : ((r.length : Nat) : Int) < most
                  · skip
                    refine OI_eq [(0, .slice A xs.length cap), (1, .int .i64 now), (2, .int .i64 most), (7, .pointer (some ⟨g8, 0, none⟩)), (8, .int .i64 ((due : Nat) : Int)), (11, .int .i64 ((got : Nat) : Int)), (12, .int .i64 ((c : Nat) : Int)), (13, .slice A9 r.length cap9), (72, .bool false), (73, .slice A9 r.length cap9), (74, .int .i64 ((r.length : Nat) : Int)), (75, .int .i64 most), (76, .bool (decide (((r.length : Nat) : Int) < most))), (77, .bool true)] (by simp [hg37]) ?_
                    have hw38 : IntKind.i64.wrap (((got : Nat) : Int) + ((r.length : Nat) : Int)) = ((got + r.length : Nat) : Int) := (wrap64_id (by omega) (by omega)).trans (by omega)
                    refine OI_static 14 [(0, .slice A xs.length cap), (1, .int .i64 now), (2, .int .i64 most), (7, .pointer (some ⟨g8, 0, none⟩)), (8, .int .i64 ((due : Nat) : Int)), (11, .int .i64 ((got : Nat) : Int)), (12, .int .i64 ((c : Nat) : Int)), (13, .slice A9 r.length cap9), (72, .bool false), (73, .slice A9 r.length cap9), (74, .int .i64 ((r.length : Nat) : Int)), (75, .int .i64 most), (76, .bool (decide (((r.length : Nat) : Int) < most))), (77, .bool true), (78, .int .i64 ((got : Nat) : Int)), (79, .slice A9 r.length cap9), (80, .int .i64 ((r.length : Nat) : Int)), (81, .int .i64 (IntKind.i64.wrap (((got : Nat) : Int) + ((r.length : Nat) : Int))))] (by kernel_rfl) ?_
                    refine OI_eq [(0, .slice A xs.length cap), (1, .int .i64 now), (2, .int .i64 most), (7, .pointer (some ⟨g8, 0, none⟩)), (8, .int .i64 ((due : Nat) : Int)), (11, .int .i64 ((got : Nat) : Int)), (12, .int .i64 ((c : Nat) : Int)), (13, .slice A9 r.length cap9), (72, .bool false), (73, .slice A9 r.length cap9), (74, .int .i64 ((r.length : Nat) : Int)), (75, .int .i64 most), (76, .bool (decide (((r.length : Nat) : Int) < most))), (77, .bool true), (78, .int .i64 ((got : Nat) : Int)), (79, .slice A9 r.length cap9), (80, .int .i64 ((r.length : Nat) : Int)), (81, .int .i64 ((got + r.length : Nat) : Int))] (by rw [hw38]) ?_
                    refine OI_static 18 [(0, .slice A xs.length cap), (1, .int .i64 now), (2, .int .i64 most), (7, .pointer (some ⟨g8, 0, none⟩)), (8, .int .i64 ((due : Nat) : Int)), (11, .int .i64 ((got : Nat) : Int)), (12, .int .i64 ((c : Nat) : Int)), (13, .slice A9 r.length cap9), (73, .slice A9 r.length cap9), (74, .int .i64 ((r.length : Nat) : Int)), (75, .int .i64 most), (76, .bool (decide (((r.length : Nat) : Int) < most))), (77, .bool true), (78, .int .i64 ((got : Nat) : Int)), (79, .slice A9 r.length cap9), (80, .int .i64 ((r.length : Nat) : Int)), (81, .int .i64 ((got + r.length : Nat) : Int)), (82, .int .i64 ((due : Nat) : Int)), (83, .bool (!(decide (((got + r.length : Nat) : Int) = ((due : Nat) : Int))))), (84, .bool (!(decide (((got + r.length : Nat) : Int) = ((due : Nat) : Int))))), (85, .bool (!(decide (((got + r.length : Nat) : Int) = ((due : Nat) : Int)))))] (by kernel_rfl) ?_
                    refine OI_end rfl ?_
                    refine X_then ?_
                    refine V_not (((got + r.length : Nat) : Int) = ((due : Nat) : Int)) (by kernel_rfl) (fun hc39 => ?_) (fun hc39 => ?_)
                    · skip
                      have hr00 := hr0 (by omega)
                      exact (by omega : False).elim
                    · skip
                      refine V_skip ?_
                      refine X_then ?_
                      refine V_seq ?_
                      refine V_seq ?_
                      refine V_region ?_
                      refine OI_static 1 [(0, .slice A xs.length cap), (1, .int .i64 now), (2, .int .i64 most), (7, .pointer (some ⟨g8, 0, none⟩)), (8, .int .i64 ((due : Nat) : Int)), (11, .int .i64 ((got : Nat) : Int)), (12, .int .i64 ((c : Nat) : Int)), (13, .slice A9 r.length cap9), (14, .int .i64 0), (73, .slice A9 r.length cap9), (74, .int .i64 ((r.length : Nat) : Int)), (75, .int .i64 most), (76, .bool (decide (((r.length : Nat) : Int) < most))), (77, .bool true), (78, .int .i64 ((got : Nat) : Int)), (79, .slice A9 r.length cap9), (80, .int .i64 ((r.length : Nat) : Int)), (81, .int .i64 ((got + r.length : Nat) : Int)), (82, .int .i64 ((due : Nat) : Int)), (83, .bool (!(decide (((got + r.length : Nat) : Int) = ((due : Nat) : Int))))), (84, .bool (!(decide (((got + r.length : Nat) : Int) = ((due : Nat) : Int)))))] (by kernel_rfl) ?_
                      refine OI_end rfl ?_
                      refine X_then ?_
                      refine V_block ?_
                      refine V_pick [(0, .slice A xs.length cap), (1, .int .i64 now), (2, .int .i64 most), (7, .pointer (some ⟨g8, 0, none⟩)), (8, .int .i64 ((due : Nat) : Int)), (11, .int .i64 ((got : Nat) : Int)), (12, .int .i64 ((c : Nat) : Int)), (13, .slice A9 r.length cap9), (14, .int .i64 0), (73, .slice A9 r.length cap9), (74, .int .i64 ((r.length : Nat) : Int)), (75, .int .i64 most), (76, .bool (decide (((r.length : Nat) : Int) < most))), (77, .bool true), (78, .int .i64 ((got : Nat) : Int)), (79, .slice A9 r.length cap9), (80, .int .i64 ((r.length : Nat) : Int)), (81, .int .i64 ((got + r.length : Nat) : Int)), (82, .int .i64 ((due : Nat) : Int)), (83, .bool (!(decide (((got + r.length : Nat) : Int) = ((due : Nat) : Int))))), (84, .bool (!(decide (((got + r.length : Nat) : Int) = ((due : Nat) : Int)))))] rfl ?_
                      refine V_loop (fun k wI e => ∃ j : Nat, (k + j = r.length) ∧ w33 = wI ∧ e = [(0, .slice A xs.length cap), (1, .int .i64 now), (2, .int .i64 most), (7, .pointer (some ⟨g8, 0, none⟩)), (8, .int .i64 ((due : Nat) : Int)), (11, .int .i64 ((got : Nat) : Int)), (12, .int .i64 ((c : Nat) : Int)), (13, .slice A9 r.length cap9), (14, .int .i64 ((j : Nat) : Int)), (73, .slice A9 r.length cap9), (74, .int .i64 ((r.length : Nat) : Int)), (75, .int .i64 most), (76, .bool (decide (((r.length : Nat) : Int) < most))), (77, .bool true), (78, .int .i64 ((got : Nat) : Int)), (79, .slice A9 r.length cap9), (80, .int .i64 ((r.length : Nat) : Int)), (81, .int .i64 ((got + r.length : Nat) : Int)), (82, .int .i64 ((due : Nat) : Int)), (83, .bool (!(decide (((got + r.length : Nat) : Int) = ((due : Nat) : Int))))), (84, .bool (!(decide (((got + r.length : Nat) : Int) = ((due : Nat) : Int)))))]) r.length ⟨0, rfl, rfl, rfl⟩ ?_
                      rintro k41 _ _ ⟨j, hkj, rfl, rfl⟩
                      refine V_seq ?_
                      refine V_seq ?_
                      refine V_region ?_
                      refine OI_static 4 [(0, .slice A xs.length cap), (1, .int .i64 now), (2, .int .i64 most), (7, .pointer (some ⟨g8, 0, none⟩)), (8, .int .i64 ((due : Nat) : Int)), (11, .int .i64 ((got : Nat) : Int)), (12, .int .i64 ((c : Nat) : Int)), (13, .slice A9 r.length cap9), (14, .int .i64 ((j : Nat) : Int)), (73, .slice A9 r.length cap9), (74, .int .i64 ((r.length : Nat) : Int)), (75, .int .i64 most), (76, .bool (decide (((r.length : Nat) : Int) < most))), (77, .bool true), (78, .int .i64 ((got : Nat) : Int)), (79, .slice A9 r.length cap9), (80, .int .i64 ((r.length : Nat) : Int)), (81, .int .i64 ((got + r.length : Nat) : Int)), (82, .int .i64 ((due : Nat) : Int)), (83, .bool (!(decide (((got + r.length : Nat) : Int) = ((due : Nat) : Int))))), (84, .bool (!(decide (((got + r.length : Nat) : Int) = ((due : Nat) : Int))))), (89, .bool (decide (((j : Nat) : Int) < ((r.length : Nat) : Int))))] (by kernel_rfl) ?_
                      refine OI_end rfl ?_
                      refine X_then ?_
                      refine V_if (((j : Nat) : Int) < ((r.length : Nat) : Int)) (by kernel_rfl) (fun hc42 => ?_) (fun hc42 => ?_)
                      · skip
                        refine V_skip ?_
                        refine X_then ?_
                        refine V_seq ?_
                        refine V_block ?_
                        refine V_seq ?_
                        refine V_region ?_
                        refine OI_static 2 [(0, .slice A xs.length cap), (1, .int .i64 now), (2, .int .i64 most), (7, .pointer (some ⟨g8, 0, none⟩)), (8, .int .i64 ((due : Nat) : Int)), (11, .int .i64 ((got : Nat) : Int)), (12, .int .i64 ((c : Nat) : Int)), (13, .slice A9 r.length cap9), (14, .int .i64 ((j : Nat) : Int)), (73, .slice A9 r.length cap9), (74, .int .i64 ((r.length : Nat) : Int)), (75, .int .i64 most), (76, .bool (decide (((r.length : Nat) : Int) < most))), (77, .bool true), (78, .int .i64 ((got : Nat) : Int)), (79, .slice A9 r.length cap9), (80, .int .i64 ((r.length : Nat) : Int)), (81, .int .i64 ((got + r.length : Nat) : Int)), (82, .int .i64 ((due : Nat) : Int)), (83, .bool (!(decide (((got + r.length : Nat) : Int) = ((due : Nat) : Int))))), (84, .bool (!(decide (((got + r.length : Nat) : Int) = ((due : Nat) : Int))))), (92, .slice A9 r.length cap9), (93, .int .i64 ((j : Nat) : Int))] (by kernel_rfl) ?_
                        obtain ⟨b43, o43, L43, T43, rfl, hat43⟩ := SlT.open_ h9 (by first | omega | simp | (simp; omega))
                        have hb43lt := hat43.blk.lt
                        refine OI_pure (some 94) (.indexAddr 31 (.tmp 92) (.tmp 93)) (by kernel_rfl) (pure_idxN (b := b43) (o := o43) (len := r.length) (cap := cap9) (kd := .i64) (j := j) (E := 28) (sz := 36) (by_ := 64) (by kernel_rfl) (by kernel_rfl) (by kernel_rfl) (by omega)) ?_
                        refine OI_static 4 [(0, .slice A xs.length cap), (1, .int .i64 now), (2, .int .i64 most), (7, .pointer (some ⟨g8, 0, none⟩)), (8, .int .i64 ((due : Nat) : Int)), (11, .int .i64 ((got : Nat) : Int)), (12, .int .i64 ((c : Nat) : Int)), (13, .slice (some ⟨b43, o43, none⟩) r.length cap9), (14, .int .i64 ((j : Nat) : Int)), (73, .slice (some ⟨b43, o43, none⟩) r.length cap9), (74, .int .i64 ((r.length : Nat) : Int)), (75, .int .i64 most), (76, .bool (decide (((r.length : Nat) : Int) < most))), (77, .bool true), (78, .int .i64 ((got : Nat) : Int)), (79, .slice (some ⟨b43, o43, none⟩) r.length cap9), (80, .int .i64 ((r.length : Nat) : Int)), (81, .int .i64 ((got + r.length : Nat) : Int)), (82, .int .i64 ((due : Nat) : Int)), (83, .bool (!(decide (((got + r.length : Nat) : Int) = ((due : Nat) : Int))))), (84, .bool (!(decide (((got + r.length : Nat) : Int) = ((due : Nat) : Int))))), (95, .pointer (some ⟨b43, o43 + j * 36 + 1, none⟩))] (by kernel_rfl) ?_
                        obtain ⟨x44, hx45⟩ : ∃ x, r[j]? = some x := ⟨_, List.getElem?_eq_getElem (by omega)⟩
                        refine OI_cell 3 (.tmp 95) (o43 + j * 36 + 1) (.int .i64 x44.at_) (some 96) (by kernel_rfl) (by kernel_rfl) hat43.blk (m := 1) (by kernel_rfl) (At.cell hat43 (es_at hx45) rfl) ?_
                        refine OI_static 7 [(0, .slice A xs.length cap), (1, .int .i64 now), (2, .int .i64 most), (7, .pointer (some ⟨g8, 0, none⟩)), (8, .int .i64 ((due : Nat) : Int)), (11, .int .i64 ((got : Nat) : Int)), (12, .int .i64 ((c : Nat) : Int)), (13, .slice (some ⟨b43, o43, none⟩) r.length cap9), (14, .int .i64 ((j : Nat) : Int)), (73, .slice (some ⟨b43, o43, none⟩) r.length cap9), (74, .int .i64 ((r.length : Nat) : Int)), (75, .int .i64 most), (76, .bool (decide (((r.length : Nat) : Int) < most))), (77, .bool true), (78, .int .i64 ((got : Nat) : Int)), (79, .slice (some ⟨b43, o43, none⟩) r.length cap9), (80, .int .i64 ((r.length : Nat) : Int)), (81, .int .i64 ((got + r.length : Nat) : Int)), (82, .int .i64 ((due : Nat) : Int)), (83, .bool (!(decide (((got + r.length : Nat) : Int) = ((due : Nat) : Int))))), (84, .bool (!(decide (((got + r.length : Nat) : Int) = ((due : Nat) : Int))))), (98, .bool (decide (x44.at_ > now)))] (by kernel_rfl) ?_
                        refine OI_end rfl ?_
                        refine X_then ?_
                        refine V_if (x44.at_ > now) (by kernel_rfl) (fun hc46 => ?_) (fun hc46 => ?_)
                        · skip
                          have hxn := hrn x44 (List.mem_of_getElem? hx45)
                          exact (by omega : False).elim
                        · skip
                          refine V_skip ?_
                          refine X_block ?_
                          refine X_then ?_
                          refine V_region ?_
                          have hw47 : IntKind.i64.wrap (((j : Nat) : Int) + 1) = ((j + 1 : Nat) : Int) := (wrap64_id (by omega) (by omega)).trans (by omega)
                          refine OI_static 2 [(0, .slice A xs.length cap), (1, .int .i64 now), (2, .int .i64 most), (7, .pointer (some ⟨g8, 0, none⟩)), (8, .int .i64 ((due : Nat) : Int)), (11, .int .i64 ((got : Nat) : Int)), (12, .int .i64 ((c : Nat) : Int)), (13, .slice (some ⟨b43, o43, none⟩) r.length cap9), (73, .slice (some ⟨b43, o43, none⟩) r.length cap9), (74, .int .i64 ((r.length : Nat) : Int)), (75, .int .i64 most), (76, .bool (decide (((r.length : Nat) : Int) < most))), (77, .bool true), (78, .int .i64 ((got : Nat) : Int)), (79, .slice (some ⟨b43, o43, none⟩) r.length cap9), (80, .int .i64 ((r.length : Nat) : Int)), (81, .int .i64 ((got + r.length : Nat) : Int)), (82, .int .i64 ((due : Nat) : Int)), (83, .bool (!(decide (((got + r.length : Nat) : Int) = ((due : Nat) : Int))))), (84, .bool (!(decide (((got + r.length : Nat) : Int) = ((due : Nat) : Int))))), (91, .int .i64 (IntKind.i64.wrap (((j : Nat) : Int) + 1)))] (by kernel_rfl) ?_
                          refine OI_eq [(0, .slice A xs.length cap), (1, .int .i64 now), (2, .int .i64 most), (7, .pointer (some ⟨g8, 0, none⟩)), (8, .int .i64 ((due : Nat) : Int)), (11, .int .i64 ((got : Nat) : Int)), (12, .int .i64 ((c : Nat) : Int)), (13, .slice (some ⟨b43, o43, none⟩) r.length cap9), (73, .slice (some ⟨b43, o43, none⟩) r.length cap9), (74, .int .i64 ((r.length : Nat) : Int)), (75, .int .i64 most), (76, .bool (decide (((r.length : Nat) : Int) < most))), (77, .bool true), (78, .int .i64 ((got : Nat) : Int)), (79, .slice (some ⟨b43, o43, none⟩) r.length cap9), (80, .int .i64 ((r.length : Nat) : Int)), (81, .int .i64 ((got + r.length : Nat) : Int)), (82, .int .i64 ((due : Nat) : Int)), (83, .bool (!(decide (((got + r.length : Nat) : Int) = ((due : Nat) : Int))))), (84, .bool (!(decide (((got + r.length : Nat) : Int) = ((due : Nat) : Int))))), (91, .int .i64 ((j + 1 : Nat) : Int))] (by rw [hw47]) ?_
                          refine OI_static 3 [(0, .slice A xs.length cap), (1, .int .i64 now), (2, .int .i64 most), (7, .pointer (some ⟨g8, 0, none⟩)), (8, .int .i64 ((due : Nat) : Int)), (11, .int .i64 ((got : Nat) : Int)), (12, .int .i64 ((c : Nat) : Int)), (13, .slice (some ⟨b43, o43, none⟩) r.length cap9), (14, .int .i64 ((j + 1 : Nat) : Int)), (73, .slice (some ⟨b43, o43, none⟩) r.length cap9), (74, .int .i64 ((r.length : Nat) : Int)), (75, .int .i64 most), (76, .bool (decide (((r.length : Nat) : Int) < most))), (77, .bool true), (78, .int .i64 ((got : Nat) : Int)), (79, .slice (some ⟨b43, o43, none⟩) r.length cap9), (80, .int .i64 ((r.length : Nat) : Int)), (81, .int .i64 ((got + r.length : Nat) : Int)), (82, .int .i64 ((due : Nat) : Int)), (83, .bool (!(decide (((got + r.length : Nat) : Int) = ((due : Nat) : Int))))), (84, .bool (!(decide (((got + r.length : Nat) : Int) = ((due : Nat) : Int)))))] (by kernel_rfl) ?_
                          refine OI_end rfl ?_
                          exact V_again (k41 - 1) (by omega) [(0, .slice A xs.length cap), (1, .int .i64 now), (2, .int .i64 most), (7, .pointer (some ⟨g8, 0, none⟩)), (8, .int .i64 ((due : Nat) : Int)), (11, .int .i64 ((got : Nat) : Int)), (12, .int .i64 ((c : Nat) : Int)), (13, .slice (some ⟨b43, o43, none⟩) r.length cap9), (14, .int .i64 ((j + 1 : Nat) : Int)), (73, .slice (some ⟨b43, o43, none⟩) r.length cap9), (74, .int .i64 ((r.length : Nat) : Int)), (75, .int .i64 most), (76, .bool (decide (((r.length : Nat) : Int) < most))), (77, .bool true), (78, .int .i64 ((got : Nat) : Int)), (79, .slice (some ⟨b43, o43, none⟩) r.length cap9), (80, .int .i64 ((r.length : Nat) : Int)), (81, .int .i64 ((got + r.length : Nat) : Int)), (82, .int .i64 ((due : Nat) : Int)), (83, .bool (!(decide (((got + r.length : Nat) : Int) = ((due : Nat) : Int))))), (84, .bool (!(decide (((got + r.length : Nat) : Int) = ((due : Nat) : Int)))))] rfl ⟨j + 1, by omega, rfl, rfl⟩
                      · skip
                        refine V_exit ?_
                        refine X_exit_then ?_
                        refine X_exit_then ?_
                        refine X_exit_here ?_
                        refine X_then ?_
                        refine V_seq ?_
                        refine V_region ?_
                        have hw48 : IntKind.i64.wrap (((got : Nat) : Int) + ((r.length : Nat) : Int)) = ((got + r.length : Nat) : Int) := (wrap64_id (by omega) (by omega)).trans (by omega)
                        refine OI_static 4 [(0, .slice A xs.length cap), (1, .int .i64 now), (2, .int .i64 most), (7, .pointer (some ⟨g8, 0, none⟩)), (8, .int .i64 ((due : Nat) : Int)), (12, .int .i64 ((c : Nat) : Int)), (13, .slice A9 r.length cap9), (73, .slice A9 r.length cap9), (74, .int .i64 ((r.length : Nat) : Int)), (75, .int .i64 most), (76, .bool (decide (((r.length : Nat) : Int) < most))), (77, .bool true), (78, .int .i64 ((got : Nat) : Int)), (79, .slice A9 r.length cap9), (80, .int .i64 ((r.length : Nat) : Int)), (81, .int .i64 ((got + r.length : Nat) : Int)), (82, .int .i64 ((due : Nat) : Int)), (83, .bool (!(decide (((got + r.length : Nat) : Int) = ((due : Nat) : Int))))), (84, .bool (!(decide (((got + r.length : Nat) : Int) = ((due : Nat) : Int))))), (102, .int .i64 (IntKind.i64.wrap (((got : Nat) : Int) + ((r.length : Nat) : Int))))] (by kernel_rfl) ?_
                        refine OI_eq [(0, .slice A xs.length cap), (1, .int .i64 now), (2, .int .i64 most), (7, .pointer (some ⟨g8, 0, none⟩)), (8, .int .i64 ((due : Nat) : Int)), (12, .int .i64 ((c : Nat) : Int)), (13, .slice A9 r.length cap9), (73, .slice A9 r.length cap9), (74, .int .i64 ((r.length : Nat) : Int)), (75, .int .i64 most), (76, .bool (decide (((r.length : Nat) : Int) < most))), (77, .bool true), (78, .int .i64 ((got : Nat) : Int)), (79, .slice A9 r.length cap9), (80, .int .i64 ((r.length : Nat) : Int)), (81, .int .i64 ((got + r.length : Nat) : Int)), (82, .int .i64 ((due : Nat) : Int)), (83, .bool (!(decide (((got + r.length : Nat) : Int) = ((due : Nat) : Int))))), (84, .bool (!(decide (((got + r.length : Nat) : Int) = ((due : Nat) : Int))))), (102, .int .i64 ((got + r.length : Nat) : Int))] (by rw [hw48]) ?_
                        refine OI_static 5 [(0, .slice A xs.length cap), (1, .int .i64 now), (2, .int .i64 most), (7, .pointer (some ⟨g8, 0, none⟩)), (8, .int .i64 ((due : Nat) : Int)), (11, .int .i64 ((got + r.length : Nat) : Int)), (12, .int .i64 ((c : Nat) : Int)), (13, .slice A9 r.length cap9), (73, .slice A9 r.length cap9), (74, .int .i64 ((r.length : Nat) : Int)), (75, .int .i64 most), (76, .bool (decide (((r.length : Nat) : Int) < most))), (77, .bool true), (78, .int .i64 ((got : Nat) : Int)), (79, .slice A9 r.length cap9), (80, .int .i64 ((r.length : Nat) : Int)), (81, .int .i64 ((got + r.length : Nat) : Int)), (82, .int .i64 ((due : Nat) : Int)), (83, .bool (!(decide (((got + r.length : Nat) : Int) = ((due : Nat) : Int))))), (84, .bool (!(decide (((got + r.length : Nat) : Int) = ((due : Nat) : Int)))))] (by kernel_rfl) ?_
                        refine OI_end rfl ?_
                        refine X_then ?_
                        refine V_seq ?_
                        refine V_region ?_
                        refine OI_static 3 [(0, .slice A xs.length cap), (1, .int .i64 now), (2, .int .i64 most), (7, .pointer (some ⟨g8, 0, none⟩)), (8, .int .i64 ((due : Nat) : Int)), (11, .int .i64 ((got + r.length : Nat) : Int)), (12, .int .i64 ((c : Nat) : Int)), (73, .slice A9 r.length cap9), (74, .int .i64 ((r.length : Nat) : Int)), (75, .int .i64 most), (76, .bool (decide (((r.length : Nat) : Int) < most))), (77, .bool true), (78, .int .i64 ((got : Nat) : Int)), (79, .slice A9 r.length cap9), (80, .int .i64 ((r.length : Nat) : Int)), (81, .int .i64 ((got + r.length : Nat) : Int)), (82, .int .i64 ((due : Nat) : Int)), (83, .bool (!(decide (((got + r.length : Nat) : Int) = ((due : Nat) : Int))))), (84, .bool (!(decide (((got + r.length : Nat) : Int) = ((due : Nat) : Int))))), (105, .bool (decide (((r.length : Nat) : Int) = 0)))] (by kernel_rfl) ?_
                        refine OI_end rfl ?_
                        refine X_then ?_
                        refine V_if (((r.length : Nat) : Int) = 0) (by kernel_rfl) (fun hc49 => ?_) (fun hc49 => ?_)
                        · skip
                          refine V_exit ?_
                          refine X_exit_out (by decide) ?_
                          refine X_exit_then ?_
                          refine X_exit_then ?_
                          refine X_exit_here ?_
                          refine X_then ?_
                          refine V_seq ?_
                          refine V_region ?_
                          refine OI_static 4 [(0, .slice A xs.length cap), (1, .int .i64 now), (7, .pointer (some ⟨g8, 0, none⟩)), (8, .int .i64 ((due : Nat) : Int)), (109, .bool (decide (((got + r.length : Nat) : Int) = ((due : Nat) : Int))))] (by kernel_rfl) ?_
                          by_cases hg50 : ((got + r.length : Nat) : Int) = ((due : Nat) : Int)
                          · skip
                            refine OI_eq [(0, .slice A xs.length cap), (1, .int .i64 now), (7, .pointer (some ⟨g8, 0, none⟩)), (8, .int .i64 ((due : Nat) : Int)), (109, .bool true)] (by simp [hg50]) ?_
                            refine OI_static 5 [(0, .slice A xs.length cap), (1, .int .i64 now), (7, .pointer (some ⟨g8, 0, none⟩)), (8, .int .i64 ((due : Nat) : Int)), (109, .bool true), (110, .pointer (some ⟨g8, 0, none⟩))] (by kernel_rfl) ?_
                            refine OI_call { callee := (Callee.value (Operand.func 14)), args := #[(Operand.tmp 110)], argTypes := #[23] } 14 #[.pointer (some ⟨g8, 0, none⟩)] (some 111) (by kernel_rfl) (by kernel_rfl) (by kernel_rfl) (len_spec any_ g8 ts3 _ hag35) ?_
                            rintro _ w33 ⟨rfl, rfl⟩
                            refine ⟨_, rfl, ?_⟩
                            have hw55 : IntKind.i64.wrap (((xs.length : Nat) : Int) - ((due : Nat) : Int)) = ((xs.length : Nat) : Int) - ((due : Nat) : Int) := (wrap64_id (by omega) (by omega)).trans (by omega)
                            refine OI_static 10 [(1, .int .i64 now), (7, .pointer (some ⟨g8, 0, none⟩)), (109, .bool true), (111, .int .i64 ((ts3.length : Nat) : Int)), (115, .int .i64 (IntKind.i64.wrap (((xs.length : Nat) : Int) - ((due : Nat) : Int))))] (by kernel_rfl) ?_
                            refine OI_eq [(1, .int .i64 now), (7, .pointer (some ⟨g8, 0, none⟩)), (109, .bool true), (111, .int .i64 ((ts3.length : Nat) : Int)), (115, .int .i64 (((xs.length : Nat) : Int) - ((due : Nat) : Int)))] (by rw [hw55]) ?_
                            refine OI_static 13 [(1, .int .i64 now), (7, .pointer (some ⟨g8, 0, none⟩)), (118, .bool (decide (((ts3.length : Nat) : Int) = ((xs.length : Nat) : Int) - ((due : Nat) : Int))))] (by kernel_rfl) ?_
                            by_cases hg56 : ((ts3.length : Nat) : Int) = ((xs.length : Nat) : Int) - ((due : Nat) : Int)
                            · skip
                              refine OI_eq [(1, .int .i64 now), (7, .pointer (some ⟨g8, 0, none⟩)), (118, .bool true)] (by simp [hg56]) ?_
                              refine OI_static 15 [(118, .bool true), (119, .pointer (some ⟨g8, 0, none⟩)), (120, .int .i64 now)] (by kernel_rfl) ?_
                              refine OI_call { callee := (Callee.value (Operand.func 13)), args := #[(Operand.tmp 119), (Operand.tmp 120), (Operand.const (Value.int IntKind.i64 0))], argTypes := #[23, 3, 3] } 13 #[.pointer (some ⟨g8, 0, none⟩), .int .i64 now, .int .i64 0] (some 121) (by kernel_rfl) (by kernel_rfl) (by kernel_rfl) (due_cnt any_ g8 ts3 now 0 _ hag35 (by omega)) ?_
                              rintro _ w57 ⟨A8, cap8, r8, ts4, rfl, h8, hag59, hk58, hown8, hrn8, hrc8, hrl8, hrm8, hr08⟩
                              refine ⟨_, rfl, ?_⟩
                              replace hA := ArgT.keep hA hk58 hA0 (fun k hk hs => by have hs : k = g8 := hs; omega)
                              replace h9 := SlT.keep h9 hk58 (fun k hk hs => by have hs : k = g8 := hs; have := hown9 k hk; omega)
                              replace hK0 := Keep.fresh hK0 hk58 (by intro i hi hs; first | exact hs | exact Or.inl hs | exact Or.inr hs | (exfalso; have hs2 : i = g8 := hs; omega)); have hzhK0 := Keep.size hK0
                              replace hk12 := Keep.fresh hk12 hk58 (by intro i hi hs; first | exact hs | exact Or.inl hs | exact Or.inr hs | (exfalso; have hs2 : i = g8 := hs; omega)); have hzhk12 := Keep.size hk12
                              replace hk31 := Keep.fresh hk31 hk58 (by intro i hi hs; first | exact hs | exact Or.inl hs | exact Or.inr hs | (exfalso; have hs2 : i = g8 := hs; omega)); have hzhk31 := Keep.size hk31
                              skip
                              have hltg8 := Ag.lt hag59
                              refine OI_static 20 [(125, .bool (decide (((r8.length : Nat) : Int) = 0)))] (by kernel_rfl) ?_
                              by_cases hg60 : ((r8.length : Nat) : Int) = 0
                              · skip
                                refine OI_eq [(125, .bool true)] (by simp [hg60]) ?_
                                refine OI_call { callee := (Callee.value (Operand.func 15)), args := #[], argTypes := #[] } 15 #[] (some 126) (by kernel_rfl) (by kernel_rfl) (by kernel_rfl) (known_spec _) ?_
                                rintro _ w61 ⟨rfl, hk62⟩
                                refine ⟨_, rfl, ?_⟩
                                replace hA := ArgT.keep0 hA hk62
                                replace h9 := SlT.keep0 h9 hk62
                                replace hK0 := Keep.tr hK0 (Keep.ofNone hk62); have hzhK0 := Keep.size hK0
                                replace hk12 := Keep.tr hk12 (Keep.ofNone hk62); have hzhk12 := Keep.size hk12
                                replace hk31 := Keep.tr hk31 (Keep.ofNone hk62); have hzhk31 := Keep.size hk31
                                replace hag59 := Ag.keep0 hag59 hk62
                                refine OI_static 23 [(6, .bool true)] (by kernel_rfl) ?_
                                refine OI_end rfl ?_
                                refine X_then ?_
                                refine V_ret ?_
                                exact X_return (.bool true) rfl ⟨rfl, hK0⟩
                              · skip
                                exact (by omega : False).elim
                            · skip
                              exact (by omega : False).elim
                          · skip
                            have hr00 := hr0 (by omega)
                            exact (by omega : False).elim
                        · skip
                          refine V_skip ?_
                          refine X_block ?_
                          refine X_then ?_
                          refine V_region ?_
                          have hw63 : IntKind.i64.wrap (((c : Nat) : Int) + 1) = ((c + 1 : Nat) : Int) := (wrap64_id (by omega) (by omega)).trans (by omega)
                          refine OI_static 2 [(0, .slice A xs.length cap), (1, .int .i64 now), (2, .int .i64 most), (7, .pointer (some ⟨g8, 0, none⟩)), (8, .int .i64 ((due : Nat) : Int)), (11, .int .i64 ((got + r.length : Nat) : Int)), (63, .int .i64 (IntKind.i64.wrap (((c : Nat) : Int) + 1))), (73, .slice A9 r.length cap9), (74, .int .i64 ((r.length : Nat) : Int)), (75, .int .i64 most), (76, .bool (decide (((r.length : Nat) : Int) < most))), (77, .bool true), (78, .int .i64 ((got : Nat) : Int)), (79, .slice A9 r.length cap9), (80, .int .i64 ((r.length : Nat) : Int)), (81, .int .i64 ((got + r.length : Nat) : Int)), (82, .int .i64 ((due : Nat) : Int)), (83, .bool (!(decide (((got + r.length : Nat) : Int) = ((due : Nat) : Int))))), (84, .bool (!(decide (((got + r.length : Nat) : Int) = ((due : Nat) : Int)))))] (by kernel_rfl) ?_
                          refine OI_eq [(0, .slice A xs.length cap), (1, .int .i64 now), (2, .int .i64 most), (7, .pointer (some ⟨g8, 0, none⟩)), (8, .int .i64 ((due : Nat) : Int)), (11, .int .i64 ((got + r.length : Nat) : Int)), (63, .int .i64 ((c + 1 : Nat) : Int)), (73, .slice A9 r.length cap9), (74, .int .i64 ((r.length : Nat) : Int)), (75, .int .i64 most), (76, .bool (decide (((r.length : Nat) : Int) < most))), (77, .bool true), (78, .int .i64 ((got : Nat) : Int)), (79, .slice A9 r.length cap9), (80, .int .i64 ((r.length : Nat) : Int)), (81, .int .i64 ((got + r.length : Nat) : Int)), (82, .int .i64 ((due : Nat) : Int)), (83, .bool (!(decide (((got + r.length : Nat) : Int) = ((due : Nat) : Int))))), (84, .bool (!(decide (((got + r.length : Nat) : Int) = ((due : Nat) : Int)))))] (by rw [hw63]) ?_
                          refine OI_static 3 [(0, .slice A xs.length cap), (1, .int .i64 now), (2, .int .i64 most), (7, .pointer (some ⟨g8, 0, none⟩)), (8, .int .i64 ((due : Nat) : Int)), (11, .int .i64 ((got + r.length : Nat) : Int)), (12, .int .i64 ((c + 1 : Nat) : Int)), (73, .slice A9 r.length cap9), (74, .int .i64 ((r.length : Nat) : Int)), (75, .int .i64 most), (76, .bool (decide (((r.length : Nat) : Int) < most))), (77, .bool true), (78, .int .i64 ((got : Nat) : Int)), (79, .slice A9 r.length cap9), (80, .int .i64 ((r.length : Nat) : Int)), (81, .int .i64 ((got + r.length : Nat) : Int)), (82, .int .i64 ((due : Nat) : Int)), (83, .bool (!(decide (((got + r.length : Nat) : Int) = ((due : Nat) : Int))))), (84, .bool (!(decide (((got + r.length : Nat) : Int) = ((due : Nat) : Int)))))] (by kernel_rfl) ?_
                          refine OI_end rfl ?_
                          exact V_again (k30 - 1) (by omega) [(0, .slice A xs.length cap), (1, .int .i64 now), (2, .int .i64 most), (7, .pointer (some ⟨g8, 0, none⟩)), (8, .int .i64 ((due : Nat) : Int)), (11, .int .i64 ((got + r.length : Nat) : Int)), (12, .int .i64 ((c + 1 : Nat) : Int))] rfl ⟨c + 1, got + r.length, ts3, by omega, hag35, by omega, by omega, by omega, hk31, rfl⟩
                  · skip
                    refine OI_eq [(0, .slice A xs.length cap), (1, .int .i64 now), (2, .int .i64 most), (7, .pointer (some ⟨g8, 0, none⟩)), (8, .int .i64 ((due : Nat) : Int)), (11, .int .i64 ((got : Nat) : Int)), (12, .int .i64 ((c : Nat) : Int)), (13, .slice A9 r.length cap9), (72, .bool false), (73, .slice A9 r.length cap9), (74, .int .i64 ((r.length : Nat) : Int)), (75, .int .i64 most), (76, .bool (decide (((r.length : Nat) : Int) < most))), (77, .bool false)] (by simp [hg37]) ?_
                    refine OI_static 18 [(0, .slice A xs.length cap), (1, .int .i64 now), (2, .int .i64 most), (7, .pointer (some ⟨g8, 0, none⟩)), (8, .int .i64 ((due : Nat) : Int)), (11, .int .i64 ((got : Nat) : Int)), (12, .int .i64 ((c : Nat) : Int)), (13, .slice A9 r.length cap9), (73, .slice A9 r.length cap9), (74, .int .i64 ((r.length : Nat) : Int)), (75, .int .i64 most), (76, .bool (decide (((r.length : Nat) : Int) < most))), (77, .bool false), (78, undef), (79, undef), (80, undef), (81, undef), (82, undef), (83, undef), (84, .bool false), (85, .bool false)] (by kernel_rfl) ?_
                    refine OI_end rfl ?_
                    refine X_then ?_
                    refine V_false rfl ?_
                    refine V_skip ?_
                    refine X_then ?_
                    refine V_seq ?_
                    refine V_seq ?_
                    refine V_region ?_
                    refine OI_static 1 [(0, .slice A xs.length cap), (1, .int .i64 now), (2, .int .i64 most), (7, .pointer (some ⟨g8, 0, none⟩)), (8, .int .i64 ((due : Nat) : Int)), (11, .int .i64 ((got : Nat) : Int)), (12, .int .i64 ((c : Nat) : Int)), (13, .slice A9 r.length cap9), (14, .int .i64 0), (73, .slice A9 r.length cap9), (74, .int .i64 ((r.length : Nat) : Int)), (75, .int .i64 most), (76, .bool (decide (((r.length : Nat) : Int) < most))), (77, .bool false), (78, undef), (79, undef), (80, undef), (81, undef), (82, undef), (83, undef), (84, .bool false)] (by kernel_rfl) ?_
                    refine OI_end rfl ?_
                    refine X_then ?_
                    refine V_block ?_
                    refine V_pick [(0, .slice A xs.length cap), (1, .int .i64 now), (2, .int .i64 most), (7, .pointer (some ⟨g8, 0, none⟩)), (8, .int .i64 ((due : Nat) : Int)), (11, .int .i64 ((got : Nat) : Int)), (12, .int .i64 ((c : Nat) : Int)), (13, .slice A9 r.length cap9), (14, .int .i64 0), (73, .slice A9 r.length cap9), (74, .int .i64 ((r.length : Nat) : Int)), (75, .int .i64 most), (76, .bool (decide (((r.length : Nat) : Int) < most))), (77, .bool false), (78, undef), (79, undef), (80, undef), (81, undef), (82, undef), (83, undef), (84, .bool false)] rfl ?_
                    refine V_loop (fun k wI e => ∃ j : Nat, (k + j = r.length) ∧ w33 = wI ∧ e = [(0, .slice A xs.length cap), (1, .int .i64 now), (2, .int .i64 most), (7, .pointer (some ⟨g8, 0, none⟩)), (8, .int .i64 ((due : Nat) : Int)), (11, .int .i64 ((got : Nat) : Int)), (12, .int .i64 ((c : Nat) : Int)), (13, .slice A9 r.length cap9), (14, .int .i64 ((j : Nat) : Int)), (73, .slice A9 r.length cap9), (74, .int .i64 ((r.length : Nat) : Int)), (75, .int .i64 most), (76, .bool (decide (((r.length : Nat) : Int) < most))), (77, .bool false), (78, undef), (79, undef), (80, undef), (81, undef), (82, undef), (83, undef), (84, .bool false)]) r.length ⟨0, rfl, rfl, rfl⟩ ?_
                    rintro k65 _ _ ⟨j, hkj, rfl, rfl⟩
                    refine V_seq ?_
                    refine V_seq ?_
                    refine V_region ?_
                    refine OI_static 4 [(0, .slice A xs.length cap), (1, .int .i64 now), (2, .int .i64 most), (7, .pointer (some ⟨g8, 0, none⟩)), (8, .int .i64 ((due : Nat) : Int)), (11, .int .i64 ((got : Nat) : Int)), (12, .int .i64 ((c : Nat) : Int)), (13, .slice A9 r.length cap9), (14, .int .i64 ((j : Nat) : Int)), (73, .slice A9 r.length cap9), (74, .int .i64 ((r.length : Nat) : Int)), (75, .int .i64 most), (76, .bool (decide (((r.length : Nat) : Int) < most))), (77, .bool false), (78, undef), (79, undef), (80, undef), (81, undef), (82, undef), (83, undef), (84, .bool false), (89, .bool (decide (((j : Nat) : Int) < ((r.length : Nat) : Int))))] (by kernel_rfl) ?_
                    refine OI_end rfl ?_
                    refine X_then ?_
                    refine V_if (((j : Nat) : Int) < ((r.length : Nat) : Int)) (by kernel_rfl) (fun hc66 => ?_) (fun hc66 => ?_)
                    · skip
                      refine V_skip ?_
                      refine X_then ?_
                      refine V_seq ?_
                      refine V_block ?_
                      refine V_seq ?_
                      refine V_region ?_
                      refine OI_static 2 [(0, .slice A xs.length cap), (1, .int .i64 now), (2, .int .i64 most), (7, .pointer (some ⟨g8, 0, none⟩)), (8, .int .i64 ((due : Nat) : Int)), (11, .int .i64 ((got : Nat) : Int)), (12, .int .i64 ((c : Nat) : Int)), (13, .slice A9 r.length cap9), (14, .int .i64 ((j : Nat) : Int)), (73, .slice A9 r.length cap9), (74, .int .i64 ((r.length : Nat) : Int)), (75, .int .i64 most), (76, .bool (decide (((r.length : Nat) : Int) < most))), (77, .bool false), (78, undef), (79, undef), (80, undef), (81, undef), (82, undef), (83, undef), (84, .bool false), (92, .slice A9 r.length cap9), (93, .int .i64 ((j : Nat) : Int))] (by kernel_rfl) ?_
                      obtain ⟨b67, o67, L67, T67, rfl, hat67⟩ := SlT.open_ h9 (by first | omega | simp | (simp; omega))
                      have hb67lt := hat67.blk.lt
                      refine OI_pure (some 94) (.indexAddr 31 (.tmp 92) (.tmp 93)) (by kernel_rfl) (pure_idxN (b := b67) (o := o67) (len := r.length) (cap := cap9) (kd := .i64) (j := j) (E := 28) (sz := 36) (by_ := 64) (by kernel_rfl) (by kernel_rfl) (by kernel_rfl) (by omega)) ?_
                      refine OI_static 4 [(0, .slice A xs.length cap), (1, .int .i64 now), (2, .int .i64 most), (7, .pointer (some ⟨g8, 0, none⟩)), (8, .int .i64 ((due : Nat) : Int)), (11, .int .i64 ((got : Nat) : Int)), (12, .int .i64 ((c : Nat) : Int)), (13, .slice (some ⟨b67, o67, none⟩) r.length cap9), (14, .int .i64 ((j : Nat) : Int)), (73, .slice (some ⟨b67, o67, none⟩) r.length cap9), (74, .int .i64 ((r.length : Nat) : Int)), (75, .int .i64 most), (76, .bool (decide (((r.length : Nat) : Int) < most))), (77, .bool false), (78, undef), (79, undef), (80, undef), (81, undef), (82, undef), (83, undef), (84, .bool false), (95, .pointer (some ⟨b67, o67 + j * 36 + 1, none⟩))] (by kernel_rfl) ?_
                      obtain ⟨x68, hx69⟩ : ∃ x, r[j]? = some x := ⟨_, List.getElem?_eq_getElem (by omega)⟩
                      refine OI_cell 3 (.tmp 95) (o67 + j * 36 + 1) (.int .i64 x68.at_) (some 96) (by kernel_rfl) (by kernel_rfl) hat67.blk (m := 1) (by kernel_rfl) (At.cell hat67 (es_at hx69) rfl) ?_
                      refine OI_static 7 [(0, .slice A xs.length cap), (1, .int .i64 now), (2, .int .i64 most), (7, .pointer (some ⟨g8, 0, none⟩)), (8, .int .i64 ((due : Nat) : Int)), (11, .int .i64 ((got : Nat) : Int)), (12, .int .i64 ((c : Nat) : Int)), (13, .slice (some ⟨b67, o67, none⟩) r.length cap9), (14, .int .i64 ((j : Nat) : Int)), (73, .slice (some ⟨b67, o67, none⟩) r.length cap9), (74, .int .i64 ((r.length : Nat) : Int)), (75, .int .i64 most), (76, .bool (decide (((r.length : Nat) : Int) < most))), (77, .bool false), (78, undef), (79, undef), (80, undef), (81, undef), (82, undef), (83, undef), (84, .bool false), (98, .bool (decide (x68.at_ > now)))] (by kernel_rfl) ?_
                      refine OI_end rfl ?_
                      refine X_then ?_
                      refine V_if (x68.at_ > now) (by kernel_rfl) (fun hc70 => ?_) (fun hc70 => ?_)
                      · skip
                        have hxn := hrn x68 (List.mem_of_getElem? hx69)
                        exact (by omega : False).elim
                      · skip
                        refine V_skip ?_
                        refine X_block ?_
                        refine X_then ?_
                        refine V_region ?_
                        have hw71 : IntKind.i64.wrap (((j : Nat) : Int) + 1) = ((j + 1 : Nat) : Int) := (wrap64_id (by omega) (by omega)).trans (by omega)
                        refine OI_static 2 [(0, .slice A xs.length cap), (1, .int .i64 now), (2, .int .i64 most), (7, .pointer (some ⟨g8, 0, none⟩)), (8, .int .i64 ((due : Nat) : Int)), (11, .int .i64 ((got : Nat) : Int)), (12, .int .i64 ((c : Nat) : Int)), (13, .slice (some ⟨b67, o67, none⟩) r.length cap9), (73, .slice (some ⟨b67, o67, none⟩) r.length cap9), (74, .int .i64 ((r.length : Nat) : Int)), (75, .int .i64 most), (76, .bool (decide (((r.length : Nat) : Int) < most))), (77, .bool false), (78, undef), (79, undef), (80, undef), (81, undef), (82, undef), (83, undef), (84, .bool false), (91, .int .i64 (IntKind.i64.wrap (((j : Nat) : Int) + 1)))] (by kernel_rfl) ?_
                        refine OI_eq [(0, .slice A xs.length cap), (1, .int .i64 now), (2, .int .i64 most), (7, .pointer (some ⟨g8, 0, none⟩)), (8, .int .i64 ((due : Nat) : Int)), (11, .int .i64 ((got : Nat) : Int)), (12, .int .i64 ((c : Nat) : Int)), (13, .slice (some ⟨b67, o67, none⟩) r.length cap9), (73, .slice (some ⟨b67, o67, none⟩) r.length cap9), (74, .int .i64 ((r.length : Nat) : Int)), (75, .int .i64 most), (76, .bool (decide (((r.length : Nat) : Int) < most))), (77, .bool false), (78, undef), (79, undef), (80, undef), (81, undef), (82, undef), (83, undef), (84, .bool false), (91, .int .i64 ((j + 1 : Nat) : Int))] (by rw [hw71]) ?_
                        refine OI_static 3 [(0, .slice A xs.length cap), (1, .int .i64 now), (2, .int .i64 most), (7, .pointer (some ⟨g8, 0, none⟩)), (8, .int .i64 ((due : Nat) : Int)), (11, .int .i64 ((got : Nat) : Int)), (12, .int .i64 ((c : Nat) : Int)), (13, .slice (some ⟨b67, o67, none⟩) r.length cap9), (14, .int .i64 ((j + 1 : Nat) : Int)), (73, .slice (some ⟨b67, o67, none⟩) r.length cap9), (74, .int .i64 ((r.length : Nat) : Int)), (75, .int .i64 most), (76, .bool (decide (((r.length : Nat) : Int) < most))), (77, .bool false), (78, undef), (79, undef), (80, undef), (81, undef), (82, undef), (83, undef), (84, .bool false)] (by kernel_rfl) ?_
                        refine OI_end rfl ?_
                        exact V_again (k65 - 1) (by omega) [(0, .slice A xs.length cap), (1, .int .i64 now), (2, .int .i64 most), (7, .pointer (some ⟨g8, 0, none⟩)), (8, .int .i64 ((due : Nat) : Int)), (11, .int .i64 ((got : Nat) : Int)), (12, .int .i64 ((c : Nat) : Int)), (13, .slice (some ⟨b67, o67, none⟩) r.length cap9), (14, .int .i64 ((j + 1 : Nat) : Int)), (73, .slice (some ⟨b67, o67, none⟩) r.length cap9), (74, .int .i64 ((r.length : Nat) : Int)), (75, .int .i64 most), (76, .bool (decide (((r.length : Nat) : Int) < most))), (77, .bool false), (78, undef), (79, undef), (80, undef), (81, undef), (82, undef), (83, undef), (84, .bool false)] rfl ⟨j + 1, by omega, rfl, rfl⟩
                    · skip
                      refine V_exit ?_
                      refine X_exit_then ?_
                      refine X_exit_then ?_
                      refine X_exit_here ?_
                      refine X_then ?_
                      refine V_seq ?_
                      refine V_region ?_
                      have hw72 : IntKind.i64.wrap (((got : Nat) : Int) + ((r.length : Nat) : Int)) = ((got + r.length : Nat) : Int) := (wrap64_id (by omega) (by omega)).trans (by omega)
                      refine OI_static 4 [(0, .slice A xs.length cap), (1, .int .i64 now), (2, .int .i64 most), (7, .pointer (some ⟨g8, 0, none⟩)), (8, .int .i64 ((due : Nat) : Int)), (12, .int .i64 ((c : Nat) : Int)), (13, .slice A9 r.length cap9), (73, .slice A9 r.length cap9), (74, .int .i64 ((r.length : Nat) : Int)), (75, .int .i64 most), (76, .bool (decide (((r.length : Nat) : Int) < most))), (77, .bool false), (78, undef), (79, undef), (80, undef), (81, undef), (82, undef), (83, undef), (84, .bool false), (102, .int .i64 (IntKind.i64.wrap (((got : Nat) : Int) + ((r.length : Nat) : Int))))] (by kernel_rfl) ?_
                      refine OI_eq [(0, .slice A xs.length cap), (1, .int .i64 now), (2, .int .i64 most), (7, .pointer (some ⟨g8, 0, none⟩)), (8, .int .i64 ((due : Nat) : Int)), (12, .int .i64 ((c : Nat) : Int)), (13, .slice A9 r.length cap9), (73, .slice A9 r.length cap9), (74, .int .i64 ((r.length : Nat) : Int)), (75, .int .i64 most), (76, .bool (decide (((r.length : Nat) : Int) < most))), (77, .bool false), (78, undef), (79, undef), (80, undef), (81, undef), (82, undef), (83, undef), (84, .bool false), (102, .int .i64 ((got + r.length : Nat) : Int))] (by rw [hw72]) ?_
                      refine OI_static 5 [(0, .slice A xs.length cap), (1, .int .i64 now), (2, .int .i64 most), (7, .pointer (some ⟨g8, 0, none⟩)), (8, .int .i64 ((due : Nat) : Int)), (11, .int .i64 ((got + r.length : Nat) : Int)), (12, .int .i64 ((c : Nat) : Int)), (13, .slice A9 r.length cap9), (73, .slice A9 r.length cap9), (74, .int .i64 ((r.length : Nat) : Int)), (75, .int .i64 most), (76, .bool (decide (((r.length : Nat) : Int) < most))), (77, .bool false), (78, undef), (79, undef), (80, undef), (81, undef), (82, undef), (83, undef), (84, .bool false)] (by kernel_rfl) ?_
                      refine OI_end rfl ?_
                      refine X_then ?_
                      refine V_seq ?_
                      refine V_region ?_
                      refine OI_static 3 [(0, .slice A xs.length cap), (1, .int .i64 now), (2, .int .i64 most), (7, .pointer (some ⟨g8, 0, none⟩)), (8, .int .i64 ((due : Nat) : Int)), (11, .int .i64 ((got + r.length : Nat) : Int)), (12, .int .i64 ((c : Nat) : Int)), (73, .slice A9 r.length cap9), (74, .int .i64 ((r.length : Nat) : Int)), (75, .int .i64 most), (76, .bool (decide (((r.length : Nat) : Int) < most))), (77, .bool false), (78, undef), (79, undef), (80, undef), (81, undef), (82, undef), (83, undef), (84, .bool false), (105, .bool (decide (((r.length : Nat) : Int) = 0)))] (by kernel_rfl) ?_
                      refine OI_end rfl ?_
                      refine X_then ?_
                      refine V_if (((r.length : Nat) : Int) = 0) (by kernel_rfl) (fun hc73 => ?_) (fun hc73 => ?_)
                      · skip
                        refine V_exit ?_
                        refine X_exit_out (by decide) ?_
                        refine X_exit_then ?_
                        refine X_exit_then ?_
                        refine X_exit_here ?_
                        refine X_then ?_
                        refine V_seq ?_
                        refine V_region ?_
                        refine OI_static 4 [(0, .slice A xs.length cap), (1, .int .i64 now), (7, .pointer (some ⟨g8, 0, none⟩)), (8, .int .i64 ((due : Nat) : Int)), (109, .bool (decide (((got + r.length : Nat) : Int) = ((due : Nat) : Int))))] (by kernel_rfl) ?_
                        by_cases hg74 : ((got + r.length : Nat) : Int) = ((due : Nat) : Int)
                        · skip
                          refine OI_eq [(0, .slice A xs.length cap), (1, .int .i64 now), (7, .pointer (some ⟨g8, 0, none⟩)), (8, .int .i64 ((due : Nat) : Int)), (109, .bool true)] (by simp [hg74]) ?_
                          refine OI_static 5 [(0, .slice A xs.length cap), (1, .int .i64 now), (7, .pointer (some ⟨g8, 0, none⟩)), (8, .int .i64 ((due : Nat) : Int)), (109, .bool true), (110, .pointer (some ⟨g8, 0, none⟩))] (by kernel_rfl) ?_
                          refine OI_call { callee := (Callee.value (Operand.func 14)), args := #[(Operand.tmp 110)], argTypes := #[23] } 14 #[.pointer (some ⟨g8, 0, none⟩)] (some 111) (by kernel_rfl) (by kernel_rfl) (by kernel_rfl) (len_spec any_ g8 ts3 _ hag35) ?_
                          rintro _ w33 ⟨rfl, rfl⟩
                          refine ⟨_, rfl, ?_⟩
                          have hw79 : IntKind.i64.wrap (((xs.length : Nat) : Int) - ((due : Nat) : Int)) = ((xs.length : Nat) : Int) - ((due : Nat) : Int) := (wrap64_id (by omega) (by omega)).trans (by omega)
                          refine OI_static 10 [(1, .int .i64 now), (7, .pointer (some ⟨g8, 0, none⟩)), (109, .bool true), (111, .int .i64 ((ts3.length : Nat) : Int)), (115, .int .i64 (IntKind.i64.wrap (((xs.length : Nat) : Int) - ((due : Nat) : Int))))] (by kernel_rfl) ?_
                          refine OI_eq [(1, .int .i64 now), (7, .pointer (some ⟨g8, 0, none⟩)), (109, .bool true), (111, .int .i64 ((ts3.length : Nat) : Int)), (115, .int .i64 (((xs.length : Nat) : Int) - ((due : Nat) : Int)))] (by rw [hw79]) ?_
                          refine OI_static 13 [(1, .int .i64 now), (7, .pointer (some ⟨g8, 0, none⟩)), (118, .bool (decide (((ts3.length : Nat) : Int) = ((xs.length : Nat) : Int) - ((due : Nat) : Int))))] (by kernel_rfl) ?_
                          by_cases hg80 : ((ts3.length : Nat) : Int) = ((xs.length : Nat) : Int) - ((due : Nat) : Int)
                          · skip
                            refine OI_eq [(1, .int .i64 now), (7, .pointer (some ⟨g8, 0, none⟩)), (118, .bool true)] (by simp [hg80]) ?_
                            refine OI_static 15 [(118, .bool true), (119, .pointer (some ⟨g8, 0, none⟩)), (120, .int .i64 now)] (by kernel_rfl) ?_
                            refine OI_call { callee := (Callee.value (Operand.func 13)), args := #[(Operand.tmp 119), (Operand.tmp 120), (Operand.const (Value.int IntKind.i64 0))], argTypes := #[23, 3, 3] } 13 #[.pointer (some ⟨g8, 0, none⟩), .int .i64 now, .int .i64 0] (some 121) (by kernel_rfl) (by kernel_rfl) (by kernel_rfl) (due_cnt any_ g8 ts3 now 0 _ hag35 (by omega)) ?_
                            rintro _ w81 ⟨A8, cap8, r8, ts4, rfl, h8, hag83, hk82, hown8, hrn8, hrc8, hrl8, hrm8, hr08⟩
                            refine ⟨_, rfl, ?_⟩
                            replace hA := ArgT.keep hA hk82 hA0 (fun k hk hs => by have hs : k = g8 := hs; omega)
                            replace h9 := SlT.keep h9 hk82 (fun k hk hs => by have hs : k = g8 := hs; have := hown9 k hk; omega)
                            replace hK0 := Keep.fresh hK0 hk82 (by intro i hi hs; first | exact hs | exact Or.inl hs | exact Or.inr hs | (exfalso; have hs2 : i = g8 := hs; omega)); have hzhK0 := Keep.size hK0
                            replace hk12 := Keep.fresh hk12 hk82 (by intro i hi hs; first | exact hs | exact Or.inl hs | exact Or.inr hs | (exfalso; have hs2 : i = g8 := hs; omega)); have hzhk12 := Keep.size hk12
                            replace hk31 := Keep.fresh hk31 hk82 (by intro i hi hs; first | exact hs | exact Or.inl hs | exact Or.inr hs | (exfalso; have hs2 : i = g8 := hs; omega)); have hzhk31 := Keep.size hk31
                            skip
                            have hltg8 := Ag.lt hag83
                            refine OI_static 20 [(125, .bool (decide (((r8.length : Nat) : Int) = 0)))] (by kernel_rfl) ?_
                            by_cases hg84 : ((r8.length : Nat) : Int) = 0
                            · skip
                              refine OI_eq [(125, .bool true)] (by simp [hg84]) ?_
                              refine OI_call { callee := (Callee.value (Operand.func 15)), args := #[], argTypes := #[] } 15 #[] (some 126) (by kernel_rfl) (by kernel_rfl) (by kernel_rfl) (known_spec _) ?_
                              rintro _ w85 ⟨rfl, hk86⟩
                              refine ⟨_, rfl, ?_⟩
                              replace hA := ArgT.keep0 hA hk86
                              replace h9 := SlT.keep0 h9 hk86
                              replace hK0 := Keep.tr hK0 (Keep.ofNone hk86); have hzhK0 := Keep.size hK0
                              replace hk12 := Keep.tr hk12 (Keep.ofNone hk86); have hzhk12 := Keep.size hk12
                              replace hk31 := Keep.tr hk31 (Keep.ofNone hk86); have hzhk31 := Keep.size hk31
                              replace hag83 := Ag.keep0 hag83 hk86
                              refine OI_static 23 [(6, .bool true)] (by kernel_rfl) ?_
                              refine OI_end rfl ?_
                              refine X_then ?_
                              refine V_ret ?_
                              exact X_return (.bool true) rfl ⟨rfl, hK0⟩
                            · skip
                              exact (by omega : False).elim
                          · skip
                            exact (by omega : False).elim
                        · skip
                          have hr00 := hr0 (by omega)
                          exact (by omega : False).elim
                      · skip
                        refine V_skip ?_
                        refine X_block ?_
                        refine X_then ?_
                        refine V_region ?_
                        have hw87 : IntKind.i64.wrap (((c : Nat) : Int) + 1) = ((c + 1 : Nat) : Int) := (wrap64_id (by omega) (by omega)).trans (by omega)
                        refine OI_static 2 [(0, .slice A xs.length cap), (1, .int .i64 now), (2, .int .i64 most), (7, .pointer (some ⟨g8, 0, none⟩)), (8, .int .i64 ((due : Nat) : Int)), (11, .int .i64 ((got + r.length : Nat) : Int)), (63, .int .i64 (IntKind.i64.wrap (((c : Nat) : Int) + 1))), (73, .slice A9 r.length cap9), (74, .int .i64 ((r.length : Nat) : Int)), (75, .int .i64 most), (76, .bool (decide (((r.length : Nat) : Int) < most))), (77, .bool false), (78, undef), (79, undef), (80, undef), (81, undef), (82, undef), (83, undef), (84, .bool false)] (by kernel_rfl) ?_
                        refine OI_eq [(0, .slice A xs.length cap), (1, .int .i64 now), (2, .int .i64 most), (7, .pointer (some ⟨g8, 0, none⟩)), (8, .int .i64 ((due : Nat) : Int)), (11, .int .i64 ((got + r.length : Nat) : Int)), (63, .int .i64 ((c + 1 : Nat) : Int)), (73, .slice A9 r.length cap9), (74, .int .i64 ((r.length : Nat) : Int)), (75, .int .i64 most), (76, .bool (decide (((r.length : Nat) : Int) < most))), (77, .bool false), (78, undef), (79, undef), (80, undef), (81, undef), (82, undef), (83, undef), (84, .bool false)] (by rw [hw87]) ?_
                        refine OI_static 3 [(0, .slice A xs.length cap), (1, .int .i64 now), (2, .int .i64 most), (7, .pointer (some ⟨g8, 0, none⟩)), (8, .int .i64 ((due : Nat) : Int)), (11, .int .i64 ((got + r.length : Nat) : Int)), (12, .int .i64 ((c + 1 : Nat) : Int)), (73, .slice A9 r.length cap9), (74, .int .i64 ((r.length : Nat) : Int)), (75, .int .i64 most), (76, .bool (decide (((r.length : Nat) : Int) < most))), (77, .bool false), (78, undef), (79, undef), (80, undef), (81, undef), (82, undef), (83, undef), (84, .bool false)] (by kernel_rfl) ?_
                        refine OI_end rfl ?_
                        exact V_again (k30 - 1) (by omega) [(0, .slice A xs.length cap), (1, .int .i64 now), (2, .int .i64 most), (7, .pointer (some ⟨g8, 0, none⟩)), (8, .int .i64 ((due : Nat) : Int)), (11, .int .i64 ((got + r.length : Nat) : Int)), (12, .int .i64 ((c + 1 : Nat) : Int))] rfl ⟨c + 1, got + r.length, ts3, by omega, hag35, by omega, by omega, by omega, hk31, rfl⟩
              · skip
                have hcl2 := count_le (isDue now) ts2
                exact (by omega : False).elim

theorem lift_int (x : List Value) (h : Flat [.int .i64] x) : ∃ y : Int, intc y = x := by
  cases x with
  | nil => exact h.elim
  | cons v l =>
    cases l with
    | nil => obtain ⟨⟨n, rfl, _⟩, _⟩ := h; exact ⟨n, rfl⟩
    | cons u l => exact h.2.elim
theorem over_AgendaDue {H : Type} {enc : TypeId × Value → H} {A : Option Addr} {len cap : Nat} {d : DataW H} {ps : List MemPlace} {w : World} (h : DataW.Trod enc Try.prog w 0 (fun _ => true) true 22 (.slice A len cap) d ps) (now most : Int) : Calls Try.prog 3 #[.slice A len cap, .int .i64 now, .int .i64 most] w fun e w' => e = .returned (.bool true) ∧ Keep none_ w w' := by
  obtain ⟨xs, rfl, hA, hl, hc⟩ := read_elems (f := intc) (ks := [.int .i64]) (n := 1) (sz := 1) lift_int Try.underlying22 (by kernel_rfl) (by kernel_rfl) rfl (by decide) h
  exact walk_AgendaDue A cap xs now most w hA (by unfold maxLen at hc; omega)
end Go.Al
