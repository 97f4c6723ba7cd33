/-
  Walks of the laws of the agenda: meanwhile.
-/
import Derived.Test.YtbfecgncndaodaaAg9
namespace Go.Al
open Go Go.RowKit Go.Proofs
/-! ### Meanwhile -/
def Am (n : Nat) : List Tk := (List.range n).map fun j => tk0 ((j : Nat) : Int) ((j : Nat) : Int)
theorem Am_len (n : Nat) : (Am n).length = n := by simp [Am]
theorem Am_succ (n : Nat) : Am (n + 1) = Am n ++ [tk0 ((n : Nat) : Int) ((n : Nat) : Int)] := by simp [Am, List.range_succ]
theorem Am_mem {n : Nat} {x : Tk} (h : x ∈ Am n) : x.at_ = x.name ∧ x.pr = 0 ∧ 0 ≤ x.name ∧ x.name < n := by
  simp only [Am, List.mem_map, List.mem_range] at h
  obtain ⟨j, hj, rfl⟩ := h
  refine ⟨rfl, rfl, ?_, ?_⟩ <;> simp [tk0] <;> omega
theorem Am_at {n k : Nat} {x : Tk} (h : (Am n)[k]? = some x) : x.name = k := by
  obtain ⟨h1, rfl⟩ := List.getElem?_eq_some_iff.1 h
  simp [Am, tk0]
theorem put_Am {i : Nat} (h : i < 12) : putR (tk0 ((i : Nat) : Int) ((i : Nat) : Int)) (Am i) = (0, Am (i + 1)) := by
  rw [put0 (by omega) (by omega) (no_name fun x hx => by have := Am_mem hx; omega) (by rw [Am_len]; omega), Am_succ]
  have := ins_app (t := tk0 ((i : Nat) : Int) ((i : Nat) : Int)) (a := Am i) (b := []) (fun x hx => by have := Am_mem hx; simp only [ltT, tk0]; omega) (fun x hx => by cases hx)
  rw [List.append_nil] at this
  rw [this]
theorem del_Am {n k : Nat} (h : k < n) : ((Am n).drop k).any (named ((k : Nat) : Int)) = true ∧ del ((k : Nat) : Int) ((Am n).drop k) = (Am n).drop (k + 1) := by
  have hk : k < (Am n).length := by rw [Am_len]; exact h
  rw [List.drop_eq_getElem_cons hk]
  have hn : named ((k : Nat) : Int) (Am n)[k] = true := by simp [named, Am, tk0]
  exact ⟨by rw [List.any_cons, hn, Bool.true_or], by simp [del, hn]⟩
theorem Keep.cl_ag {D : Nat → Prop} {W W1 W2 : World} {g : Nat} {ts : List Tk} (h : Keep (cl W) W W1) (k : Keep (only g) W1 W2) (hA : Ag D W1 g ts) : Keep (cl W) W W2 := by
  obtain ⟨_, _, A, cap, h2, _⟩ := hA
  exact h.cl_one k h2.blk
theorem Ag.quiet {D : Nat → Prop} {N : Nat} {W W' : World} {g : Nat} {ts : List Tk} (h : Ag D W g ts) (k : Keep (lb N W) W W') : Ag D W' g ts := by
  obtain ⟨h0, h1, A, cap, h2, h3⟩ := h
  exact ⟨h0, h1, A, cap, ⟨h2.blk.quiet k, h2.sl.quiet k, h2.off⟩, h3⟩

theorem walk_AgendaMeanwhile (n stop : Nat) (w : World) : Calls Try.prog 9 #[.int .i64 (n : Int), .int .i64 (stop : Int)] w fun e w' => e = .returned (.bool true) ∧ Keep none_ w w' := by
  have hK0 : Keep none_ w w := Keep.refl _ _
  have hzhK0 := Keep.size hK0
  refine enterM Try.func9 rfl [.int .i64 ((n : Nat) : Int), .int .i64 ((stop : Nat) : Int)] 71 rfl rfl rfl ?_
  refine V_pick [(0, .int .i64 ((n : Nat) : Int)), (1, .int .i64 ((stop : Nat) : Int))] rfl ?_
  refine V_seq ?_
  refine V_region ?_
  refine OI_box 3 (.tmp 1) (.int .i64 ((stop : Nat) : Int)) [.int .i64 ((stop : Nat) : Int)] (some 3) (by kernel_rfl) (by kernel_rfl) (by kernel_rfl) ?_
  intro b1 w1 e1 hb1 k1 z1
  replace hK0 := Keep.tr hK0 (Keep.ofNone k1); have hzhK0 := Keep.size hK0
  have hb1lt := hb1.lt
  refine OI_alloc 4 (.bool false) [.bool false] (some 4) (by kernel_rfl) (by kernel_rfl) (by kernel_rfl) ?_
  intro b2 w2 e2 hb2 k2 z2
  replace hb1 := hb1.keep k2 (fun f => f)
  have hb1lt := hb1.lt
  replace hK0 := Keep.tr hK0 (Keep.ofNone k2); have hzhK0 := Keep.size hK0
  have hb2lt := hb2.lt
  refine OI_end rfl ?_
  refine X_then ?_
  refine V_seq ?_
  refine V_seq ?_
  refine V_region ?_
  refine OI_static 3 [(0, .int .i64 ((n : Nat) : Int)), (3, .pointer (some ⟨b1, 0, none⟩)), (4, .pointer (some ⟨b2, 0, none⟩)), (12, .bool (decide (((n : Nat) : Int) < 0)))] (by kernel_rfl) ?_
  by_cases hg3 : ((n : Nat) : Int) < 0
  · skip
    refine OI_eq [(0, .int .i64 ((n : Nat) : Int)), (3, .pointer (some ⟨b1, 0, none⟩)), (4, .pointer (some ⟨b2, 0, none⟩)), (12, .bool true)] (by simp [hg3]) ?_
    refine OI_static 14 [(0, .int .i64 ((n : Nat) : Int)), (3, .pointer (some ⟨b1, 0, none⟩)), (4, .pointer (some ⟨b2, 0, none⟩)), (23, .bool true)] (by kernel_rfl) ?_
    refine OI_end rfl ?_
    refine X_then ?_
    refine V_true rfl ?_
    refine V_seq ?_
    refine V_region ?_
    refine OI_set (m := 1) (kd := false) 4 (.tmp 4) (.const (Value.bool true)) 0 (.bool true) [.bool true] none (by kernel_rfl) (by kernel_rfl) (by kernel_rfl) hb2 (by kernel_rfl) (by kernel_rfl) (by kernel_rfl) (Nat.le_of_ble_eq_true (by kernel_rfl)) (by simp [Value.oneCell']) ?_
    intro w4 hb2_7 hk5 hz6
    replace hb2_7 : Blk w4 b2 [.bool true] 4 := hb2_7
    replace hb1 := hb1.keep hk5 (by show ¬ (_ = _); omega)
    have hb1lt := hb1.lt
    replace hK0 := Keep.fresh hK0 hk5 (by intro i hi hs; first | exact hs | exact Or.inl hs | exact Or.inr hs | (exfalso; have hs2 : i = b2 := hs; omega)); have hzhK0 := Keep.size hK0
    refine OI_end rfl ?_
    refine X_then ?_
    refine V_ret ?_
    refine X_ret_then ?_
    exact leave0 (.bool true) (.inl rfl) (res_cell1 (n1 := 1) rfl rfl (by kernel_rfl) hb2_7) ⟨rfl, hK0⟩
  · skip
    refine OI_eq [(0, .int .i64 ((n : Nat) : Int)), (3, .pointer (some ⟨b1, 0, none⟩)), (4, .pointer (some ⟨b2, 0, none⟩)), (12, .bool false)] (by simp [hg3]) ?_
    refine OI_static 7 [(0, .int .i64 ((n : Nat) : Int)), (3, .pointer (some ⟨b1, 0, none⟩)), (4, .pointer (some ⟨b2, 0, none⟩)), (16, .bool (decide (((n : Nat) : Int) > 12)))] (by kernel_rfl) ?_
    by_cases hg8 : ((n : Nat) : Int) > 12
    · skip
      refine OI_eq [(0, .int .i64 ((n : Nat) : Int)), (3, .pointer (some ⟨b1, 0, none⟩)), (4, .pointer (some ⟨b2, 0, none⟩)), (16, .bool true)] (by simp [hg8]) ?_
      refine OI_static 14 [(0, .int .i64 ((n : Nat) : Int)), (3, .pointer (some ⟨b1, 0, none⟩)), (4, .pointer (some ⟨b2, 0, none⟩)), (23, .bool true)] (by kernel_rfl) ?_
      refine OI_end rfl ?_
      refine X_then ?_
      refine V_true rfl ?_
      refine V_seq ?_
      refine V_region ?_
      refine OI_set (m := 1) (kd := false) 4 (.tmp 4) (.const (Value.bool true)) 0 (.bool true) [.bool true] none (by kernel_rfl) (by kernel_rfl) (by kernel_rfl) hb2 (by kernel_rfl) (by kernel_rfl) (by kernel_rfl) (Nat.le_of_ble_eq_true (by kernel_rfl)) (by simp [Value.oneCell']) ?_
      intro w9 hb2_12 hk10 hz11
      replace hb2_12 : Blk w9 b2 [.bool true] 4 := hb2_12
      replace hb1 := hb1.keep hk10 (by show ¬ (_ = _); omega)
      have hb1lt := hb1.lt
      replace hK0 := Keep.fresh hK0 hk10 (by intro i hi hs; first | exact hs | exact Or.inl hs | exact Or.inr hs | (exfalso; have hs2 : i = b2 := hs; omega)); have hzhK0 := Keep.size hK0
      refine OI_end rfl ?_
      refine X_then ?_
      refine V_ret ?_
      refine X_ret_then ?_
      exact leave0 (.bool true) (.inl rfl) (res_cell1 (n1 := 1) rfl rfl (by kernel_rfl) hb2_12) ⟨rfl, hK0⟩
    · skip
      refine OI_eq [(0, .int .i64 ((n : Nat) : Int)), (3, .pointer (some ⟨b1, 0, none⟩)), (4, .pointer (some ⟨b2, 0, none⟩)), (16, .bool false)] (by simp [hg8]) ?_
      refine OI_cell 3 (.tmp 3) 0 (.int .i64 ((stop : Nat) : Int)) (some 17) (by kernel_rfl) (by kernel_rfl) hb1 (m := 1) (by kernel_rfl) rfl ?_
      refine OI_static 11 [(0, .int .i64 ((n : Nat) : Int)), (3, .pointer (some ⟨b1, 0, none⟩)), (4, .pointer (some ⟨b2, 0, none⟩)), (20, .bool (decide (((stop : Nat) : Int) < 1)))] (by kernel_rfl) ?_
      by_cases hg13 : ((stop : Nat) : Int) < 1
      · skip
        refine OI_eq [(0, .int .i64 ((n : Nat) : Int)), (3, .pointer (some ⟨b1, 0, none⟩)), (4, .pointer (some ⟨b2, 0, none⟩)), (20, .bool true)] (by simp [hg13]) ?_
        refine OI_static 14 [(0, .int .i64 ((n : Nat) : Int)), (3, .pointer (some ⟨b1, 0, none⟩)), (4, .pointer (some ⟨b2, 0, none⟩)), (23, .bool true)] (by kernel_rfl) ?_
        refine OI_end rfl ?_
        refine X_then ?_
        refine V_true rfl ?_
        refine V_seq ?_
        refine V_region ?_
        refine OI_set (m := 1) (kd := false) 4 (.tmp 4) (.const (Value.bool true)) 0 (.bool true) [.bool true] none (by kernel_rfl) (by kernel_rfl) (by kernel_rfl) hb2 (by kernel_rfl) (by kernel_rfl) (by kernel_rfl) (Nat.le_of_ble_eq_true (by kernel_rfl)) (by simp [Value.oneCell']) ?_
        intro w14 hb2_17 hk15 hz16
        replace hb2_17 : Blk w14 b2 [.bool true] 4 := hb2_17
        replace hb1 := hb1.keep hk15 (by show ¬ (_ = _); omega)
        have hb1lt := hb1.lt
        replace hK0 := Keep.fresh hK0 hk15 (by intro i hi hs; first | exact hs | exact Or.inl hs | exact Or.inr hs | (exfalso; have hs2 : i = b2 := hs; omega)); have hzhK0 := Keep.size hK0
        refine OI_end rfl ?_
        refine X_then ?_
        refine V_ret ?_
        refine X_ret_then ?_
        exact leave0 (.bool true) (.inl rfl) (res_cell1 (n1 := 1) rfl rfl (by kernel_rfl) hb2_17) ⟨rfl, hK0⟩
      · skip
        refine OI_eq [(0, .int .i64 ((n : Nat) : Int)), (3, .pointer (some ⟨b1, 0, none⟩)), (4, .pointer (some ⟨b2, 0, none⟩)), (20, .bool false)] (by simp [hg13]) ?_
        refine OI_cell 3 (.tmp 3) 0 (.int .i64 ((stop : Nat) : Int)) (some 21) (by kernel_rfl) (by kernel_rfl) hb1 (m := 1) (by kernel_rfl) rfl ?_
        refine OI_static 14 [(0, .int .i64 ((n : Nat) : Int)), (3, .pointer (some ⟨b1, 0, none⟩)), (4, .pointer (some ⟨b2, 0, none⟩)), (23, .bool (decide (((stop : Nat) : Int) > 20)))] (by kernel_rfl) ?_
        refine OI_end rfl ?_
        refine X_then ?_
        refine V_if (((stop : Nat) : Int) > 20) (by kernel_rfl) (fun hc18 => ?_) (fun hc18 => ?_)
        · skip
          refine V_seq ?_
          refine V_region ?_
          refine OI_set (m := 1) (kd := false) 4 (.tmp 4) (.const (Value.bool true)) 0 (.bool true) [.bool true] none (by kernel_rfl) (by kernel_rfl) (by kernel_rfl) hb2 (by kernel_rfl) (by kernel_rfl) (by kernel_rfl) (Nat.le_of_ble_eq_true (by kernel_rfl)) (by simp [Value.oneCell']) ?_
          intro w19 hb2_22 hk20 hz21
          replace hb2_22 : Blk w19 b2 [.bool true] 4 := hb2_22
          replace hb1 := hb1.keep hk20 (by show ¬ (_ = _); omega)
          have hb1lt := hb1.lt
          replace hK0 := Keep.fresh hK0 hk20 (by intro i hi hs; first | exact hs | exact Or.inl hs | exact Or.inr hs | (exfalso; have hs2 : i = b2 := hs; omega)); have hzhK0 := Keep.size hK0
          refine OI_end rfl ?_
          refine X_then ?_
          refine V_ret ?_
          refine X_ret_then ?_
          exact leave0 (.bool true) (.inl rfl) (res_cell1 (n1 := 1) rfl rfl (by kernel_rfl) hb2_22) ⟨rfl, hK0⟩
        · skip
          refine V_skip ?_
          refine X_then ?_
          refine V_seq ?_
          refine V_region ?_
          obtain ⟨N, hN⟩ : ∃ N : Nat, N = (World.heap w2).size := ⟨_, rfl⟩
          refine OI_call { callee := (Callee.value (Operand.func 11)), args := #[], argTypes := #[] } 11 #[] (some 24) (by kernel_rfl) (by kernel_rfl) (by kernel_rfl) (new_spec (fun q => N ≤ q) _) ?_
          rintro _ w23 ⟨g25, rfl, hag26, hk24, hgeg25⟩
          refine ⟨_, rfl, ?_⟩
          replace hb1 := hb1.keep hk24 (fun f => f)
          have hb1lt := hb1.lt
          replace hb2 := hb2.keep hk24 (fun f => f)
          have hb2lt := hb2.lt
          replace hK0 := Keep.tr hK0 (Keep.ofNone hk24); have hzhK0 := Keep.size hK0
          have hltg25 := Ag.lt hag26
          refine OI_alloc 23 (.pointer none) [.pointer none] (some 5) (by kernel_rfl) (by kernel_rfl) (by kernel_rfl) ?_
          intro b27 w27 e27 hb27 k27 z27
          replace hb1 := hb1.keep k27 (fun f => f)
          have hb1lt := hb1.lt
          replace hb2 := hb2.keep k27 (fun f => f)
          have hb2lt := hb2.lt
          replace hK0 := Keep.tr hK0 (Keep.ofNone k27); have hzhK0 := Keep.size hK0
          replace hag26 := Ag.mono (D' := (fun q => N ≤ q ∧ q ≠ b27)) (Ag.fresh hag26 k27 b27 (by omega)) (fun q h => by have h2 : (N ≤ q) ∧ q ≠ b27 := h; show N ≤ q ∧ q ≠ b27; omega)
          have hb27lt := hb27.lt
          refine OI_set (m := 1) (kd := false) 23 (.tmp 5) (.tmp 24) 0 (.pointer (some ⟨g25, 0, none⟩)) [.pointer (some ⟨g25, 0, none⟩)] none (by kernel_rfl) (by kernel_rfl) (by kernel_rfl) hb27 (by kernel_rfl) (by kernel_rfl) (by kernel_rfl) (Nat.le_of_ble_eq_true (by kernel_rfl)) (by simp [Value.oneCell']) ?_
          intro w28 hb27_31 hk29 hz30
          replace hb27_31 : Blk w28 b27 [.pointer (some ⟨g25, 0, none⟩)] 23 := hb27_31
          replace hb1 := hb1.keep hk29 (by show ¬ (_ = _); omega)
          have hb1lt := hb1.lt
          replace hb2 := hb2.keep hk29 (by show ¬ (_ = _); omega)
          have hb2lt := hb2.lt
          replace hK0 := Keep.fresh hK0 hk29 (by intro i hi hs; first | exact hs | exact Or.inl hs | exact Or.inr hs | (exfalso; have hs2 : i = b27 := hs; omega)); have hzhK0 := Keep.size hK0
          replace hag26 := Ag.keep hag26 hk29 (by show ¬ (_ = _); omega) (fun q hq => by have h2 : N ≤ q ∧ q ≠ b27 := hq; show ¬ (q = b27); omega)
          refine OI_end rfl ?_
          refine X_then ?_
          refine V_seq ?_
          refine V_seq ?_
          refine V_region ?_
          refine OI_cell 23 (.tmp 5) 0 (.pointer (some ⟨g25, 0, none⟩)) (some 25) (by kernel_rfl) (by kernel_rfl) hb27_31 (m := 1) (by kernel_rfl) rfl ?_
          refine OI_static 2 [(0, .int .i64 ((n : Nat) : Int)), (3, .pointer (some ⟨b1, 0, none⟩)), (4, .pointer (some ⟨b2, 0, none⟩)), (5, .pointer (some ⟨b27, 0, none⟩)), (26, .bool false)] (by kernel_rfl) ?_
          refine OI_end rfl ?_
          refine X_then ?_
          refine V_false rfl ?_
          refine V_skip ?_
          refine X_then ?_
          refine V_seq ?_
          refine V_seq ?_
          refine V_region ?_
          refine OI_static 1 [(0, .int .i64 ((n : Nat) : Int)), (3, .pointer (some ⟨b1, 0, none⟩)), (4, .pointer (some ⟨b2, 0, none⟩)), (5, .pointer (some ⟨b27, 0, none⟩)), (6, .int .i64 0)] (by kernel_rfl) ?_
          refine OI_end rfl ?_
          refine X_then ?_
          refine V_block ?_
          refine V_pick [(0, .int .i64 ((n : Nat) : Int)), (3, .pointer (some ⟨b1, 0, none⟩)), (4, .pointer (some ⟨b2, 0, none⟩)), (5, .pointer (some ⟨b27, 0, none⟩)), (6, .int .i64 0)] rfl ?_
          refine V_loop (fun k wI e => ∃ i : Nat, (k + i = n) ∧ (Ag (fun q => N ≤ q ∧ q ≠ b27) wI g25 (Am i)) ∧ Keep (only g25) w28 wI ∧ e = [(0, .int .i64 ((n : Nat) : Int)), (3, .pointer (some ⟨b1, 0, none⟩)), (4, .pointer (some ⟨b2, 0, none⟩)), (5, .pointer (some ⟨b27, 0, none⟩)), (6, .int .i64 ((i : Nat) : Int))]) n ⟨0, by omega, hag26, Keep.refl _ _, rfl⟩ ?_
          rintro k33 w32 _ ⟨i, hki, hag1, hk34, rfl⟩
          replace hb1 := hb1.keep hk34 (by show ¬ (_ = _); omega)
          have hb1lt := hb1.lt
          replace hb2 := hb2.keep hk34 (by show ¬ (_ = _); omega)
          have hb2lt := hb2.lt
          replace hb27_31 := hb27_31.keep hk34 (by show ¬ (_ = _); omega)
          have hb27lt := hb27_31.lt
          replace hK0 := Keep.fresh hK0 hk34 (by intro i hi hs; first | exact hs | exact Or.inl hs | exact Or.inr hs | (exfalso; have hs2 : i = g25 := hs; omega)); have hzhK0 := Keep.size hK0
          skip
          have hzhk34 := Keep.size hk34
          have hltg25 := Ag.lt hag1
          refine V_seq ?_
          refine V_seq ?_
          refine V_region ?_
          refine OI_static 3 [(0, .int .i64 ((n : Nat) : Int)), (3, .pointer (some ⟨b1, 0, none⟩)), (4, .pointer (some ⟨b2, 0, none⟩)), (5, .pointer (some ⟨b27, 0, none⟩)), (6, .int .i64 ((i : Nat) : Int)), (29, .bool (decide (((i : Nat) : Int) < ((n : Nat) : Int))))] (by kernel_rfl) ?_
          refine OI_end rfl ?_
          refine X_then ?_
          refine V_if (((i : Nat) : Int) < ((n : Nat) : Int)) (by kernel_rfl) (fun hc35 => ?_) (fun hc35 => ?_)
          · skip
            refine V_skip ?_
            refine X_then ?_
            refine V_seq ?_
            refine V_block ?_
            refine V_region ?_
            refine OI_cell 23 (.tmp 5) 0 (.pointer (some ⟨g25, 0, none⟩)) (some 32) (by kernel_rfl) (by kernel_rfl) hb27_31 (m := 1) (by kernel_rfl) rfl ?_
            refine OI_static 4 [(0, .int .i64 ((n : Nat) : Int)), (3, .pointer (some ⟨b1, 0, none⟩)), (4, .pointer (some ⟨b2, 0, none⟩)), (5, .pointer (some ⟨b27, 0, none⟩)), (6, .int .i64 ((i : Nat) : Int)), (32, .pointer (some ⟨g25, 0, none⟩)), (35, .agg (Tk.cells (tk0 ((i : Nat) : Int) ((i : Nat) : Int))).toArray)] (by kernel_rfl) ?_
            refine OI_call { callee := (Callee.value (Operand.func 12)), args := #[(Operand.tmp 32), (Operand.tmp 35)], argTypes := #[23, 28] } 12 #[.pointer (some ⟨g25, 0, none⟩), .agg (Tk.cells (tk0 ((i : Nat) : Int) ((i : Nat) : Int))).toArray] (some 36) (by kernel_rfl) (by kernel_rfl) (by kernel_rfl) (put_is (fun q => N ≤ q ∧ q ≠ b27) g25 (Am i) (tk0 ((i : Nat) : Int) ((i : Nat) : Int)) 0 (Am (i + 1)) _ hag1 (fun q hq => by show N ≤ q ∧ q ≠ b27; omega) (put_Am (by omega))) ?_
            rintro _ w36 ⟨rfl, hag38, hk37⟩
            refine ⟨_, rfl, ?_⟩
            replace hb1 := hb1.keep hk37 (by show ¬ (_ = _); omega)
            have hb1lt := hb1.lt
            replace hb2 := hb2.keep hk37 (by show ¬ (_ = _); omega)
            have hb2lt := hb2.lt
            replace hb27_31 := hb27_31.keep hk37 (by show ¬ (_ = _); omega)
            have hb27lt := hb27_31.lt
            replace hK0 := Keep.fresh hK0 hk37 (by intro i hi hs; first | exact hs | exact Or.inl hs | exact Or.inr hs | (exfalso; have hs2 : i = g25 := hs; omega)); have hzhK0 := Keep.size hK0
            skip
            replace hk34 := Keep.fresh hk34 hk37 (by intro i hi hs; first | exact hs | exact Or.inl hs | exact Or.inr hs | (exfalso; have hs2 : i = g25 := hs; omega)); have hzhk34 := Keep.size hk34
            have hltg25 := Ag.lt hag38
            refine OI_end rfl ?_
            refine X_block ?_
            refine X_then ?_
            refine V_region ?_
            have hw39 : IntKind.i64.wrap (((i : Nat) : Int) + 1) = ((i + 1 : Nat) : Int) := (wrap64_id (by omega) (by omega)).trans (by omega)
            refine OI_static 2 [(0, .int .i64 ((n : Nat) : Int)), (3, .pointer (some ⟨b1, 0, none⟩)), (4, .pointer (some ⟨b2, 0, none⟩)), (5, .pointer (some ⟨b27, 0, none⟩)), (31, .int .i64 (IntKind.i64.wrap (((i : Nat) : Int) + 1)))] (by kernel_rfl) ?_
            refine OI_eq [(0, .int .i64 ((n : Nat) : Int)), (3, .pointer (some ⟨b1, 0, none⟩)), (4, .pointer (some ⟨b2, 0, none⟩)), (5, .pointer (some ⟨b27, 0, none⟩)), (31, .int .i64 ((i + 1 : Nat) : Int))] (by rw [hw39]) ?_
            refine OI_static 3 [(0, .int .i64 ((n : Nat) : Int)), (3, .pointer (some ⟨b1, 0, none⟩)), (4, .pointer (some ⟨b2, 0, none⟩)), (5, .pointer (some ⟨b27, 0, none⟩)), (6, .int .i64 ((i + 1 : Nat) : Int))] (by kernel_rfl) ?_
            refine OI_end rfl ?_
            exact V_again (k33 - 1) (by omega) [(0, .int .i64 ((n : Nat) : Int)), (3, .pointer (some ⟨b1, 0, none⟩)), (4, .pointer (some ⟨b2, 0, none⟩)), (5, .pointer (some ⟨b27, 0, none⟩)), (6, .int .i64 ((i + 1 : Nat) : Int))] rfl ⟨i + 1, by omega, hag38, hk34, rfl⟩
          · skip
            refine V_exit ?_
            refine X_exit_then ?_
            refine X_exit_then ?_
            refine X_exit_here ?_
            refine X_then ?_
            refine V_seq ?_
            refine V_region ?_
            refine OI_cell 23 (.tmp 5) 0 (.pointer (some ⟨g25, 0, none⟩)) (some 37) (by kernel_rfl) (by kernel_rfl) hb27_31 (m := 1) (by kernel_rfl) rfl ?_
            refine OI_call { callee := (Callee.value (Operand.func 22)), args := #[(Operand.tmp 37)], argTypes := #[23] } 22 #[.pointer (some ⟨g25, 0, none⟩)] (some 38) (by kernel_rfl) (by kernel_rfl) (by kernel_rfl) (allfn_spec _ rfl _) ?_
            rintro _ w40 ⟨c42, rfl, hc42, hk41, hgec42⟩
            refine ⟨_, rfl, ?_⟩
            replace hb1 := hb1.keep hk41 (fun f => f)
            have hb1lt := hb1.lt
            replace hb2 := hb2.keep hk41 (fun f => f)
            have hb2lt := hb2.lt
            replace hb27_31 := hb27_31.keep hk41 (fun f => f)
            have hb27lt := hb27_31.lt
            replace hK0 := Keep.tr hK0 (Keep.ofNone hk41); have hzhK0 := Keep.size hK0
            replace hag1 := Ag.keep0 hag1 hk41
            replace hk34 := Keep.tr hk34 (Keep.ofNone hk41); have hzhk34 := Keep.size hk34
            have hc42lt := hc42.lt
            refine OI_static 3 [(0, .int .i64 ((n : Nat) : Int)), (3, .pointer (some ⟨b1, 0, none⟩)), (4, .pointer (some ⟨b2, 0, none⟩)), (5, .pointer (some ⟨b27, 0, none⟩)), (7, .func (.func 30) #[] #[.pointer (some ⟨c42, 0, none⟩)])] (by kernel_rfl) ?_
            refine OI_end rfl ?_
            refine X_then ?_
            refine V_seq ?_
            refine V_seq ?_
            refine V_region ?_
            refine OI_static 2 [(0, .int .i64 ((n : Nat) : Int)), (3, .pointer (some ⟨b1, 0, none⟩)), (4, .pointer (some ⟨b2, 0, none⟩)), (5, .pointer (some ⟨b27, 0, none⟩)), (7, .func (.func 30) #[] #[.pointer (some ⟨c42, 0, none⟩)]), (40, .bool false)] (by kernel_rfl) ?_
            refine OI_end rfl ?_
            refine X_then ?_
            refine V_false rfl ?_
            refine V_skip ?_
            refine X_then ?_
            refine V_seq ?_
            refine V_region ?_
            refine OI_alloc 3 (.int .i64 0) [.int .i64 0] (some 8) (by kernel_rfl) (by kernel_rfl) (by kernel_rfl) ?_
            intro b43 w43 e43 hb43 k43 z43
            replace hb1 := hb1.keep k43 (fun f => f)
            have hb1lt := hb1.lt
            replace hb2 := hb2.keep k43 (fun f => f)
            have hb2lt := hb2.lt
            replace hb27_31 := hb27_31.keep k43 (fun f => f)
            have hb27lt := hb27_31.lt
            replace hc42 := hc42.keep k43 (fun f => f)
            have hc42lt := hc42.lt
            replace hK0 := Keep.tr hK0 (Keep.ofNone k43); have hzhK0 := Keep.size hK0
            replace hag1 := Ag.mono (D' := (fun q => N ≤ q ∧ q ≠ b27 ∧ q ≠ b43)) (Ag.fresh hag1 k43 b43 (by omega)) (fun q h => by have h2 : (N ≤ q ∧ q ≠ b27) ∧ q ≠ b43 := h; show N ≤ q ∧ q ≠ b27 ∧ q ≠ b43; omega)
            replace hk34 := Keep.tr hk34 (Keep.ofNone k43); have hzhk34 := Keep.size hk34
            have hb43lt := hb43.lt
            refine OI_set (m := 1) (kd := false) 3 (.tmp 8) (.const (Value.int IntKind.i64 0)) 0 (.int .i64 0) [.int .i64 0] none (by kernel_rfl) (by kernel_rfl) (by kernel_rfl) hb43 (by kernel_rfl) (by kernel_rfl) (by kernel_rfl) (Nat.le_of_ble_eq_true (by kernel_rfl)) (by simp [Value.oneCell']) ?_
            intro w44 hb43_47 hk45 hz46
            replace hb43_47 : Blk w44 b43 [.int .i64 0] 3 := hb43_47
            replace hb1 := hb1.keep hk45 (by show ¬ (_ = _); omega)
            have hb1lt := hb1.lt
            replace hb2 := hb2.keep hk45 (by show ¬ (_ = _); omega)
            have hb2lt := hb2.lt
            replace hb27_31 := hb27_31.keep hk45 (by show ¬ (_ = _); omega)
            have hb27lt := hb27_31.lt
            replace hc42 := hc42.keep hk45 (by show ¬ (_ = _); omega)
            have hc42lt := hc42.lt
            replace hK0 := Keep.fresh hK0 hk45 (by intro i hi hs; first | exact hs | exact Or.inl hs | exact Or.inr hs | (exfalso; have hs2 : i = b43 := hs; omega)); have hzhK0 := Keep.size hK0
            replace hag1 := Ag.keep hag1 hk45 (by show ¬ (_ = _); omega) (fun q hq => by have h2 : N ≤ q ∧ q ≠ b27 ∧ q ≠ b43 := hq; show ¬ (q = b43); omega)
            replace hk34 := Keep.fresh hk34 hk45 (by intro i hi hs; first | exact hs | exact Or.inl hs | exact Or.inr hs | (exfalso; have hs2 : i = b43 := hs; omega)); have hzhk34 := Keep.size hk34
            refine OI_end rfl ?_
            refine X_then ?_
            refine V_seq ?_
            refine V_seq ?_
            refine V_region ?_
            refine OI_static 1 [(0, .int .i64 ((n : Nat) : Int)), (3, .pointer (some ⟨b1, 0, none⟩)), (4, .pointer (some ⟨b2, 0, none⟩)), (5, .pointer (some ⟨b27, 0, none⟩)), (8, .pointer (some ⟨b43, 0, none⟩)), (41, .func (.func 30) #[] #[.pointer (some ⟨c42, 0, none⟩)])] (by kernel_rfl) ?_
            refine OI_end rfl ?_
            refine X_then ?_
            refine V_block ?_
            have hin : i = n := by omega
            rw [hin] at hag1
            obtain ⟨hsA, hlA, A0, cap0, hA0, hDA0⟩ := hag1
            replace hDA0 : ∀ q, inA A0 q → N ≤ q ∧ q ≠ b27 ∧ q ≠ b43 := hDA0
            refine V_pick [(0, .int .i64 ((n : Nat) : Int)), (3, .pointer (some ⟨b1, 0, none⟩)), (4, .pointer (some ⟨b2, 0, none⟩)), (5, .pointer (some ⟨b27, 0, none⟩)), (8, .pointer (some ⟨b43, 0, none⟩)), (41, .func (.func 30) #[] #[.pointer (some ⟨c42, 0, none⟩)])] rfl ?_
            have hN0 : w.heap.size ≤ w44.heap.size := hzhK0
            refine V_range (gf := 30) (caps := #[.pointer (some ⟨c42, 0, none⟩)]) (by kernel_rfl) (by kernel_rfl) (by kernel_rfl) (all1_iter c42 g25 cap0 A0 (Am n) (by rw [Am_len]; omega)) ⟨hc42, hA0⟩ (fun W W' h k => ⟨h.1.quiet k, ⟨h.2.blk.quiet k, h.2.sl.quiet k, h.2.off⟩⟩) (fun _ => rfl) (fun k W => Ag (fun q => N ≤ q ∧ q ≠ b27 ∧ q ≠ b43) W g25 ((Am n).drop k) ∧ Blk W b1 [.int .i64 ((stop : Nat) : Int)] 3 ∧ Blk W b2 [.bool false] 4 ∧ Blk W b27 [.pointer (some ⟨g25, 0, none⟩)] 23 ∧ Blk W b43 [.int .i64 ((k : Nat) : Int)] 3 ∧ SlT W 36 Tk.cells A0 cap0 (Am n) ∧ Keep none_ w W ∧ k ≤ n ∧ k < stop) (fun c k W => c = .exit 2 ∧ Ag (fun q => N ≤ q ∧ q ≠ b27 ∧ q ≠ b43) W g25 ((Am n).drop k) ∧ Blk W b1 [.int .i64 ((stop : Nat) : Int)] 3 ∧ Blk W b2 [.bool false] 4 ∧ Blk W b27 [.pointer (some ⟨g25, 0, none⟩)] 23 ∧ Blk W b43 [.int .i64 ((k : Nat) : Int)] 3 ∧ SlT W 36 Tk.cells A0 cap0 (Am n) ∧ Keep none_ w W ∧ k ≤ n ∧ k = stop) (fun k W W' h hk => by obtain ⟨h1, h2, h3, h4, h5, h6, h7, h8⟩ := h; exact ⟨h1.quiet hk, h2.quiet hk, h3.quiet hk, h4.quiet hk, h5.quiet hk, h6.quiet hk, h7.quiet hk hN0, h8⟩) (fun c k W W' h hk => by obtain ⟨hc, h⟩ := h; refine ⟨hc, ?_⟩; obtain ⟨h1, h2, h3, h4, h5, h6, h7, h8⟩ := h; exact ⟨h1.quiet hk, h2.quiet hk, h3.quiet hk, h4.quiet hk, h5.quiet hk, h6.quiet hk, h7.quiet hk hN0, h8⟩) ⟨⟨hsA, hlA, A0, cap0, hA0, hDA0⟩, hb1, hb2, hb27_31, hb43_47, hA0.sl, hK0, Nat.zero_le _, by omega⟩ (fun k W h => by obtain ⟨h1, h2, h3, h4, h5, h6, h7, h8⟩ := h; exact h6) ?_ ?_ ?_
            · skip
              intro l D k W hD hl hlW hkm ⟨hagk, hb3, hb4, hb5, hb8, hA0s, hK0, hkn, hks⟩ ⟨rr, hrr⟩ hDD
              have hzhK0 := Keep.size hK0
              have hltg25 := Ag.lt hagk
              have hltA0 := SlT.lt hA0s
              have hb1lt := hb3.lt
              have hb2lt := hb4.lt
              have hb27lt := hb5.lt
              have hb43lt := hb8.lt
              rw [Am_len] at hkm
              obtain ⟨x, hx⟩ : ∃ x, (Am n)[k]? = some x := ⟨_, List.getElem?_eq_getElem (by rw [Am_len]; omega)⟩
              rw [encT_at hx]
              have hxn := Am_at hx
              have hcl0 : Keep (cl W) W W := Keep.refl _ _
              refine V_pick [(3, .pointer (some ⟨b1, 0, none⟩)), (4, .pointer (some ⟨b2, 0, none⟩)), (5, .pointer (some ⟨b27, 0, none⟩)), (8, .pointer (some ⟨b43, 0, none⟩)), (42, .agg (Tk.cells x).toArray)] rfl ?_
              refine V_region ?_
              refine OI_alloc 28 (.agg #[.int .i64 0, .int .i64 0, .int .i64 0, .int .u8 0, .int .u8 0, .int .u8 0, .int .u8 0, .int .u8 0, .int .u8 0, .int .u8 0, .int .u8 0, .int .u8 0, .int .u8 0, .int .u8 0, .int .u8 0, .int .u8 0, .int .u8 0, .int .u8 0, .int .u8 0, .int .u8 0, .int .u8 0, .int .u8 0, .int .u8 0, .int .u8 0, .int .u8 0, .int .u8 0, .int .u8 0, .int .u8 0, .int .u8 0, .int .u8 0, .int .u8 0, .int .u8 0, .int .u8 0, .int .u8 0, .int .u8 0, .int .i64 0]) [.int .i64 0, .int .i64 0, .int .i64 0, .int .u8 0, .int .u8 0, .int .u8 0, .int .u8 0, .int .u8 0, .int .u8 0, .int .u8 0, .int .u8 0, .int .u8 0, .int .u8 0, .int .u8 0, .int .u8 0, .int .u8 0, .int .u8 0, .int .u8 0, .int .u8 0, .int .u8 0, .int .u8 0, .int .u8 0, .int .u8 0, .int .u8 0, .int .u8 0, .int .u8 0, .int .u8 0, .int .u8 0, .int .u8 0, .int .u8 0, .int .u8 0, .int .u8 0, .int .u8 0, .int .u8 0, .int .u8 0, .int .i64 0] (some 9) (by kernel_rfl) (by kernel_rfl) (by kernel_rfl) ?_
              intro b48 w48 e48 hb48 k48 z48
              replace hb3 := hb3.keep k48 (fun f => f)
              have hb1lt := hb3.lt
              replace hb4 := hb4.keep k48 (fun f => f)
              have hb2lt := hb4.lt
              replace hb5 := hb5.keep k48 (fun f => f)
              have hb27lt := hb5.lt
              replace hb8 := hb8.keep k48 (fun f => f)
              have hb43lt := hb8.lt
              replace hA0s := SlT.keep0 hA0s k48
              replace hagk := Ag.mono (D' := (fun q => N ≤ q ∧ q ≠ b27 ∧ q ≠ b43 ∧ q ≠ b48)) (Ag.fresh hagk k48 b48 (by omega)) (fun q h => by have h2 : (N ≤ q ∧ q ≠ b27 ∧ q ≠ b43) ∧ q ≠ b48 := h; show N ≤ q ∧ q ≠ b27 ∧ q ≠ b43 ∧ q ≠ b48; omega)
              replace hK0 := Keep.tr hK0 (Keep.ofNone k48); have hzhK0 := Keep.size hK0
              replace hcl0 := Keep.tr hcl0 (Keep.ofNone k48); have hzhcl0 := Keep.size hcl0
              have hb48lt := hb48.lt
              refine OI_set (m := 36) (kd := true) 28 (.tmp 9) (.tmp 42) 0 (.agg (Tk.cells x).toArray) (Tk.cells x) none (by kernel_rfl) (by kernel_rfl) (by kernel_rfl) hb48 (by kernel_rfl) rfl (Tk.len _) (Nat.le_of_ble_eq_true (by kernel_rfl)) (Tk.one _) ?_
              intro w49 hb48_52 hk50 hz51
              replace hb48_52 : Blk w49 b48 (Tk.cells x) 28 := (by rwa [over_whole (by rw [Tk.len]; rfl)] at hb48_52)
              replace hb3 := hb3.keep hk50 (by show ¬ (_ = _); omega)
              have hb1lt := hb3.lt
              replace hb4 := hb4.keep hk50 (by show ¬ (_ = _); omega)
              have hb2lt := hb4.lt
              replace hb5 := hb5.keep hk50 (by show ¬ (_ = _); omega)
              have hb27lt := hb5.lt
              replace hb8 := hb8.keep hk50 (by show ¬ (_ = _); omega)
              have hb43lt := hb8.lt
              replace hA0s := SlT.keep hA0s hk50 (fun q hq hs => by have hs : q = b48 := hs; have h2 := hDA0 q hq; have h3 := hltA0 q hq; omega)
              replace hagk := Ag.keep hagk hk50 (by show ¬ (_ = _); omega) (fun q hq => by have h2 : N ≤ q ∧ q ≠ b27 ∧ q ≠ b43 ∧ q ≠ b48 := hq; show ¬ (q = b48); omega)
              replace hK0 := Keep.fresh hK0 hk50 (by intro i hi hs; first | exact hs | exact Or.inl hs | exact Or.inr hs | (exfalso; have hs2 : i = b48 := hs; omega)); have hzhK0 := Keep.size hK0
              replace hcl0 := Keep.cl_one hcl0 hk50 hb48; have hzhcl0 := Keep.size hcl0
              refine OI_end rfl ?_
              refine X_begin (Keep.cl_same hcl0 hrr hDD) ?_
              intro W2 hk2 ⟨r2, hr2⟩ hD2
              replace hDD : W2.heap[D]? = some (.deferred (some [])) := hD2.trans ((Keep.cl_same hcl0 hrr hDD).2.trans hDD)
              replace hb3 := Blk.quiet hb3 hk2
              have hb1lt := hb3.lt
              replace hb4 := Blk.quiet hb4 hk2
              have hb2lt := hb4.lt
              replace hb5 := Blk.quiet hb5 hk2
              have hb27lt := hb5.lt
              replace hb8 := Blk.quiet hb8 hk2
              have hb43lt := hb8.lt
              replace hb48_52 := Blk.quiet hb48_52 hk2
              have hb48lt := hb48_52.lt
              replace hA0s := SlT.quiet hA0s hk2
              replace hagk := Ag.quiet hagk hk2
              replace hK0 := Keep.quiet hK0 hk2 (by omega); have hzhK0 := Keep.size hK0
              have hcl2 : Keep (cl W2) W2 W2 := Keep.refl _ _
              refine V_block ?_
              refine V_seq ?_
              refine V_seq ?_
              refine V_region ?_
              refine OI_static 1 [(3, .pointer (some ⟨b1, 0, none⟩)), (4, .pointer (some ⟨b2, 0, none⟩)), (5, .pointer (some ⟨b27, 0, none⟩)), (8, .pointer (some ⟨b43, 0, none⟩)), (43, .pointer (some ⟨b48, 0, none⟩))] (by kernel_rfl) ?_
              refine OI_cell 3 (.tmp 43) 0 (.int .i64 x.name) (some 44) (by kernel_rfl) (by kernel_rfl) hb48_52 (m := 1) (by kernel_rfl) rfl ?_
              refine OI_cell 3 (.tmp 8) 0 (.int .i64 ((k : Nat) : Int)) (some 45) (by kernel_rfl) (by kernel_rfl) hb8 (m := 1) (by kernel_rfl) rfl ?_
              refine OI_static 4 [(3, .pointer (some ⟨b1, 0, none⟩)), (4, .pointer (some ⟨b2, 0, none⟩)), (5, .pointer (some ⟨b27, 0, none⟩)), (8, .pointer (some ⟨b43, 0, none⟩)), (46, .bool (!(decide (x.name = ((k : Nat) : Int)))))] (by kernel_rfl) ?_
              refine OI_end rfl ?_
              refine X_then ?_
              refine V_not (x.name = ((k : Nat) : Int)) (by kernel_rfl) (fun hc53 => ?_) (fun hc53 => ?_)
              · skip
                exact (by omega : False).elim
              · skip
                refine V_skip ?_
                refine X_then ?_
                refine V_seq ?_
                refine V_region ?_
                refine OI_cell 23 (.tmp 5) 0 (.pointer (some ⟨g25, 0, none⟩)) (some 47) (by kernel_rfl) (by kernel_rfl) hb5 (m := 1) (by kernel_rfl) rfl ?_
                refine OI_cell 3 (.tmp 8) 0 (.int .i64 ((k : Nat) : Int)) (some 48) (by kernel_rfl) (by kernel_rfl) hb8 (m := 1) (by kernel_rfl) rfl ?_
                refine OI_call { callee := (Callee.value (Operand.func 18)), args := #[(Operand.tmp 47), (Operand.tmp 48)], argTypes := #[23, 3] } 18 #[.pointer (some ⟨g25, 0, none⟩), .int .i64 ((k : Nat) : Int)] (some 49) (by kernel_rfl) (by kernel_rfl) (by kernel_rfl) (cancel_is (fun q => N ≤ q ∧ q ≠ b27 ∧ q ≠ b43 ∧ q ≠ b48) g25 ((Am n).drop k) ((k : Nat) : Int) true ((Am n).drop (k + 1)) _ hagk (fun q hq => by show N ≤ q ∧ q ≠ b27 ∧ q ≠ b43 ∧ q ≠ b48; omega) (del_Am hkm)) ?_
                rintro _ w54 ⟨rfl, hag56, hk55⟩
                refine ⟨_, rfl, ?_⟩
                replace hb3 := hb3.keep hk55 (by show ¬ (_ = _); omega)
                have hb1lt := hb3.lt
                replace hb4 := hb4.keep hk55 (by show ¬ (_ = _); omega)
                have hb2lt := hb4.lt
                replace hb5 := hb5.keep hk55 (by show ¬ (_ = _); omega)
                have hb27lt := hb5.lt
                replace hb8 := hb8.keep hk55 (by show ¬ (_ = _); omega)
                have hb43lt := hb8.lt
                replace hb48_52 := hb48_52.keep hk55 (by show ¬ (_ = _); omega)
                have hb48lt := hb48_52.lt
                replace hA0s := SlT.keep hA0s hk55 (fun q hq hs => by have hs : q = g25 := hs; subst hs; exact hA0.off hq)
                skip
                replace hK0 := Keep.fresh hK0 hk55 (by intro i hi hs; first | exact hs | exact Or.inl hs | exact Or.inr hs | (exfalso; have hs2 : i = g25 := hs; omega)); have hzhK0 := Keep.size hK0
                replace hcl2 := Keep.cl_ag hcl2 hk55 hagk; have hzhcl2 := Keep.size hcl2
                have hltg25 := Ag.lt hag56
                refine OI_end rfl ?_
                refine X_then ?_
                refine V_seq ?_
                refine V_region ?_
                refine OI_cell 3 (.tmp 8) 0 (.int .i64 ((k : Nat) : Int)) (some 50) (by kernel_rfl) (by kernel_rfl) hb8 (m := 1) (by kernel_rfl) rfl ?_
                have hw57 : IntKind.i64.wrap (((k : Nat) : Int) + 1) = ((k + 1 : Nat) : Int) := (wrap64_id (by omega) (by omega)).trans (by omega)
                refine OI_static 2 [(3, .pointer (some ⟨b1, 0, none⟩)), (8, .pointer (some ⟨b43, 0, none⟩)), (51, .int .i64 (IntKind.i64.wrap (((k : Nat) : Int) + 1)))] (by kernel_rfl) ?_
                refine OI_eq [(3, .pointer (some ⟨b1, 0, none⟩)), (8, .pointer (some ⟨b43, 0, none⟩)), (51, .int .i64 ((k + 1 : Nat) : Int))] (by rw [hw57]) ?_
                refine OI_set (m := 1) (kd := false) 3 (.tmp 8) (.tmp 51) 0 (.int .i64 ((k + 1 : Nat) : Int)) [.int .i64 ((k + 1 : Nat) : Int)] none (by kernel_rfl) (by kernel_rfl) (by kernel_rfl) hb8 (by kernel_rfl) (by kernel_rfl) (by kernel_rfl) (Nat.le_of_ble_eq_true (by kernel_rfl)) (by simp [Value.oneCell']) ?_
                intro w58 hb43_61 hk59 hz60
                replace hb43_61 : Blk w58 b43 [.int .i64 ((k + 1 : Nat) : Int)] 3 := hb43_61
                replace hb3 := hb3.keep hk59 (by show ¬ (_ = _); omega)
                have hb1lt := hb3.lt
                replace hb4 := hb4.keep hk59 (by show ¬ (_ = _); omega)
                have hb2lt := hb4.lt
                replace hb5 := hb5.keep hk59 (by show ¬ (_ = _); omega)
                have hb27lt := hb5.lt
                replace hb48_52 := hb48_52.keep hk59 (by show ¬ (_ = _); omega)
                have hb48lt := hb48_52.lt
                replace hA0s := SlT.keep hA0s hk59 (fun q hq hs => by have hs : q = b43 := hs; have h2 := hDA0 q hq; have h3 := hltA0 q hq; omega)
                replace hK0 := Keep.fresh hK0 hk59 (by intro i hi hs; first | exact hs | exact Or.inl hs | exact Or.inr hs | (exfalso; have hs2 : i = b43 := hs; omega)); have hzhK0 := Keep.size hK0
                replace hcl2 := Keep.cl_one hcl2 hk59 hb8; have hzhcl2 := Keep.size hcl2
                replace hag56 := Ag.keep hag56 hk59 (by show ¬ (_ = _); omega) (fun q hq => by have h2 : N ≤ q ∧ q ≠ b27 ∧ q ≠ b43 ∧ q ≠ b48 := hq; show ¬ (q = b43); omega)
                refine OI_end rfl ?_
                refine X_then ?_
                refine V_seq ?_
                refine V_region ?_
                refine OI_cell 3 (.tmp 8) 0 (.int .i64 ((k + 1 : Nat) : Int)) (some 52) (by kernel_rfl) (by kernel_rfl) hb43_61 (m := 1) (by kernel_rfl) rfl ?_
                refine OI_cell 3 (.tmp 3) 0 (.int .i64 ((stop : Nat) : Int)) (some 53) (by kernel_rfl) (by kernel_rfl) hb3 (m := 1) (by kernel_rfl) rfl ?_
                refine OI_static 3 [(54, .bool (decide (((k + 1 : Nat) : Int) ≥ ((stop : Nat) : Int))))] (by kernel_rfl) ?_
                refine OI_end rfl ?_
                refine X_then ?_
                refine V_if (((k + 1 : Nat) : Int) ≥ ((stop : Nat) : Int)) (by kernel_rfl) (fun hc62 => ?_) (fun hc62 => ?_)
                · skip
                  refine V_exit ?_
                  refine X_exit_out (by decide) ?_
                  exact fun a _ => ⟨Keep.cl_same hcl2 hr2 hDD, rfl, Ag.mono hag56 (fun q h => by have h2 : N ≤ q ∧ q ≠ b27 ∧ q ≠ b43 ∧ q ≠ b48 := h; show N ≤ q ∧ q ≠ b27 ∧ q ≠ b43; omega), hb3, hb4, hb5, hb43_61, hA0s, hK0, by omega, by omega⟩
                · skip
                  refine V_skip ?_
                  refine X_block ?_
                  exact fun a _ => ⟨Keep.cl_same hcl2 hr2 hDD, Ag.mono hag56 (fun q h => by have h2 : N ≤ q ∧ q ≠ b27 ∧ q ≠ b43 ∧ q ≠ b48 := h; show N ≤ q ∧ q ≠ b27 ∧ q ≠ b43; omega), hb3, hb4, hb5, hb43_61, hA0s, hK0, by omega, by omega⟩
            · skip
              intro D W hD ⟨hagk, hb3, hb4, hb5, hb8, hA0s, hK0, hkn, hks⟩ hDD
              rw [Am_len] at hagk hb8 hkn hks
              obtain ⟨k, hke⟩ : ∃ k, k = n := ⟨_, rfl⟩
              rw [← hke] at hb8 hkn hks
              have hagk : Ag (fun q => N ≤ q ∧ q ≠ b27 ∧ q ≠ b43) W g25 ((Am n).drop k) := by rw [hke]; exact hagk
              have hzhK0 := Keep.size hK0
              have hltg25 := Ag.lt hagk
              have hltA0 := SlT.lt hA0s
              have hb1lt := hb3.lt
              have hb2lt := hb4.lt
              have hb27lt := hb5.lt
              have hb43lt := hb8.lt
              refine X_block ?_
              refine X_then ?_
              refine V_seq ?_
              refine V_draws (acts [7, 14, 16]) (only b2) [[0, 1, 2, 3, 4, 5, 6, 7, 8, 9, 10, 11, 12, 13, 14, 15, 16]] (by kernel_rfl) (by repeat first | exact sure_postM | refine sure_then ?_ | refine sure_block ?_ | refine sure_join ?_) (by kernel_rfl) ?_
              intro w64 hk63 he65 L hL66
              replace hb3 := hb3.keep hk63 (fun f => f)
              have hb1lt := hb3.lt
              replace hb4 := hb4.keep hk63 (fun f => f)
              have hb2lt := hb4.lt
              replace hb5 := hb5.keep hk63 (fun f => f)
              have hb27lt := hb5.lt
              replace hb8 := hb8.keep hk63 (fun f => f)
              have hb43lt := hb8.lt
              replace hA0s := SlT.keep0 hA0s hk63
              replace hagk := Ag.keep0 hagk hk63
              replace hK0 := Keep.tr hK0 (Keep.ofNone hk63); have hzhK0 := Keep.size hK0
              replace hDD := (Keep.block hk63 _ (Array.getElem?_eq_some_iff.1 hDD).1 (fun f => f)).trans hDD
              have qhb3 := hb3
              have qhb4 := hb4
              have qhb5 := hb5
              have qhb8 := hb8
              have K67 : Keep (only b2) w64 w64 := Keep.refl _ _
              obtain rfl := List.mem_singleton.1 hL66
              refine GI_cell 3 (.tmp 8) 0 (.int .i64 ((k : Nat) : Int)) (some 55) (by kernel_rfl) (by kernel_rfl) (by kernel_rfl) qhb8 (by show ¬ (_ = _); omega) (m := 1) (by kernel_rfl) rfl ?_
              refine GI_static [2, 3, 4, 5, 6, 7, 8, 9, 10, 11, 12, 13, 14, 15, 16] [(0, .int .i64 ((n : Nat) : Int)), (3, .pointer (some ⟨b1, 0, none⟩)), (4, .pointer (some ⟨b2, 0, none⟩)), (5, .pointer (some ⟨b27, 0, none⟩)), (8, .pointer (some ⟨b43, 0, none⟩)), (55, .int .i64 ((k : Nat) : Int)), (56, .int .i64 ((n : Nat) : Int))] (by kernel_rfl) ?_
              refine GI_cell 3 (.tmp 3) 0 (.int .i64 ((stop : Nat) : Int)) (some 57) (by kernel_rfl) (by kernel_rfl) (by kernel_rfl) qhb3 (by show ¬ (_ = _); omega) (m := 1) (by kernel_rfl) rfl ?_
              refine GI_static [6, 7, 8, 9, 10, 11, 12, 13, 14, 15, 16] [(0, .int .i64 ((n : Nat) : Int)), (4, .pointer (some ⟨b2, 0, none⟩)), (5, .pointer (some ⟨b27, 0, none⟩)), (8, .pointer (some ⟨b43, 0, none⟩)), (60, .bool (decide (((k : Nat) : Int) = if ((stop : Nat) : Int) < ((n : Nat) : Int) then ((stop : Nat) : Int) else ((n : Nat) : Int))))] (by kernel_rfl) ?_
              refine GI_eq [(0, .int .i64 ((n : Nat) : Int)), (4, .pointer (some ⟨b2, 0, none⟩)), (5, .pointer (some ⟨b27, 0, none⟩)), (8, .pointer (some ⟨b43, 0, none⟩)), (60, .bool true)] (by rw [decide_eq_true (by split <;> omega)]) ?_
              refine GI_cell 23 (.tmp 5) 0 (.pointer (some ⟨g25, 0, none⟩)) (some 61) (by kernel_rfl) (by kernel_rfl) (by kernel_rfl) qhb5 (by show ¬ (_ = _); omega) (m := 1) (by kernel_rfl) rfl ?_
              refine GI_call { callee := (Callee.value (Operand.func 14)), args := #[(Operand.tmp 61)], argTypes := #[23] } 14 #[.pointer (some ⟨g25, 0, none⟩)] (some 62) (by kernel_rfl) (by kernel_rfl) (by kernel_rfl) (by kernel_rfl) (len_spec (fun q => N ≤ q ∧ q ≠ b27 ∧ q ≠ b43) g25 ((Am n).drop k) _ hagk) ?_
              rintro _ w64 ⟨rfl, rfl⟩
              refine ⟨_, rfl, K67, ?_⟩
              refine GI_static [9, 10, 11, 12, 13, 14, 15, 16] [(4, .pointer (some ⟨b2, 0, none⟩)), (8, .pointer (some ⟨b43, 0, none⟩)), (60, .bool true), (62, .int .i64 ((((Am n).drop k).length : Nat) : Int)), (63, .int .i64 ((n : Nat) : Int))] (by kernel_rfl) ?_
              refine GI_cell 3 (.tmp 8) 0 (.int .i64 ((k : Nat) : Int)) (some 64) (by kernel_rfl) (by kernel_rfl) (by kernel_rfl) qhb8 (by show ¬ (_ = _); omega) (m := 1) (by kernel_rfl) rfl ?_
              have hw73 : IntKind.i64.wrap (((n : Nat) : Int) - ((k : Nat) : Int)) = ((n : Nat) : Int) - ((k : Nat) : Int) := (wrap64_id (by omega) (by omega)).trans (by omega)
              refine GI_static [11, 12, 13, 14, 15, 16] [(4, .pointer (some ⟨b2, 0, none⟩)), (60, .bool true), (62, .int .i64 ((((Am n).drop k).length : Nat) : Int)), (65, .int .i64 (IntKind.i64.wrap (((n : Nat) : Int) - ((k : Nat) : Int))))] (by kernel_rfl) ?_
              refine GI_eq [(4, .pointer (some ⟨b2, 0, none⟩)), (60, .bool true), (62, .int .i64 ((((Am n).drop k).length : Nat) : Int)), (65, .int .i64 (((n : Nat) : Int) - ((k : Nat) : Int)))] (by rw [hw73]) ?_
              refine GI_static [14, 15, 16] [(4, .pointer (some ⟨b2, 0, none⟩)), (68, .bool (decide (((((Am n).drop k).length : Nat) : Int) = ((n : Nat) : Int) - ((k : Nat) : Int))))] (by kernel_rfl) ?_
              refine GI_eq [(4, .pointer (some ⟨b2, 0, none⟩)), (68, .bool true)] (by rw [decide_eq_true (by rw [List.length_drop, Am_len]; omega)]) ?_
              refine GI_call { callee := (Callee.value (Operand.func 15)), args := #[], argTypes := #[] } 15 #[] (some 69) (by kernel_rfl) (by kernel_rfl) (by kernel_rfl) (by kernel_rfl) (known_spec _) ?_
              rintro _ w75 ⟨rfl, hk76⟩
              have K77 := K67.tr (Keep.ofNone hk76)
              refine ⟨_, rfl, K77, ?_⟩
              have hzK77 := Keep.size K77
              replace hb3 := hb3.keep hk76 (fun f => f)
              have hb1lt := hb3.lt
              replace hb4 := hb4.keep hk76 (fun f => f)
              have hb2lt := hb4.lt
              replace hb5 := hb5.keep hk76 (fun f => f)
              have hb27lt := hb5.lt
              replace hb8 := hb8.keep hk76 (fun f => f)
              have hb43lt := hb8.lt
              replace hA0s := SlT.keep0 hA0s hk76
              replace hagk := Ag.keep0 hagk hk76
              replace hK0 := Keep.tr hK0 (Keep.ofNone hk76); have hzhK0 := Keep.size hK0
              replace hDD := (Keep.block hk76 _ (Array.getElem?_eq_some_iff.1 hDD).1 (fun f => f)).trans hDD
              refine GI_static [16] [(4, .pointer (some ⟨b2, 0, none⟩)), (70, .bool true)] (by kernel_rfl) ?_
              refine GI_set (m := 1) (kd := false) 4 (.tmp 4) (.tmp 70) 0 (.bool true) [.bool true] none (by kernel_rfl) (by kernel_rfl) (by kernel_rfl) (by kernel_rfl) hb4 (by kernel_rfl) (by kernel_rfl) (by kernel_rfl) (Nat.le_of_ble_eq_true (by kernel_rfl)) (by simp [Value.oneCell']) K77 (fun hh => rfl) ?_
              intro w78 hb2_81 hk79 hz80 K82
              replace hb2_81 : Blk w78 b2 [.bool true] 4 := hb2_81
              replace hb3 := hb3.keep hk79 (by show ¬ (_ = _); omega)
              have hb1lt := hb3.lt
              replace hb5 := hb5.keep hk79 (by show ¬ (_ = _); omega)
              have hb27lt := hb5.lt
              replace hb8 := hb8.keep hk79 (by show ¬ (_ = _); omega)
              have hb43lt := hb8.lt
              replace hA0s := SlT.keep hA0s hk79 (fun q hq hs => by have hs : q = b2 := hs; have h2 := hDA0 q hq; have h3 := hltA0 q hq; omega)
              replace hagk := Ag.keep hagk hk79 (by show ¬ (_ = _); omega) (fun q hq => by have h2 : N ≤ q ∧ q ≠ b27 ∧ q ≠ b43 := hq; show ¬ (q = b2); omega)
              replace hK0 := Keep.fresh hK0 hk79 (by intro i hi hs; first | exact hs | exact Or.inl hs | exact Or.inr hs | (exfalso; have hs2 : i = b2 := hs; omega)); have hzhK0 := Keep.size hK0
              replace hDD := (Keep.block hk79 _ (Array.getElem?_eq_some_iff.1 hDD).1 (by show ¬ (_ = _); omega)).trans hDD
              refine GI_end ?_
              refine X_then ?_
              refine V_ret ?_
              exact leave1 (.bool true) (.inl rfl) hDD (fun w' hk => ⟨res_cell1 (n1 := 1) rfl rfl (by kernel_rfl) (Blk.quiet hb2_81 hk), rfl, Keep.quiet hK0 hk (by omega)⟩)
            · skip
              intro D k c W hD hk2 ⟨hc, hagk, hb3, hb4, hb5, hb8, hA0s, hK0, hkn, hks⟩ hDD
              subst hc
              have hzhK0 := Keep.size hK0
              have hltg25 := Ag.lt hagk
              have hltA0 := SlT.lt hA0s
              have hb1lt := hb3.lt
              have hb2lt := hb4.lt
              have hb27lt := hb5.lt
              have hb43lt := hb8.lt
              refine V_exit ?_
              refine X_exit_here ?_
              refine X_then ?_
              refine V_seq ?_
              refine V_draws (acts [7, 14, 16]) (only b2) [[0, 1, 2, 3, 4, 5, 6, 7, 8, 9, 10, 11, 12, 13, 14, 15, 16]] (by kernel_rfl) (by repeat first | exact sure_postM | refine sure_then ?_ | refine sure_block ?_ | refine sure_join ?_) (by kernel_rfl) ?_
              intro w84 hk83 he85 L hL86
              replace hb3 := hb3.keep hk83 (fun f => f)
              have hb1lt := hb3.lt
              replace hb4 := hb4.keep hk83 (fun f => f)
              have hb2lt := hb4.lt
              replace hb5 := hb5.keep hk83 (fun f => f)
              have hb27lt := hb5.lt
              replace hb8 := hb8.keep hk83 (fun f => f)
              have hb43lt := hb8.lt
              replace hA0s := SlT.keep0 hA0s hk83
              replace hagk := Ag.keep0 hagk hk83
              replace hK0 := Keep.tr hK0 (Keep.ofNone hk83); have hzhK0 := Keep.size hK0
              replace hDD := (Keep.block hk83 _ (Array.getElem?_eq_some_iff.1 hDD).1 (fun f => f)).trans hDD
              have qhb3 := hb3
              have qhb4 := hb4
              have qhb5 := hb5
              have qhb8 := hb8
              have K87 : Keep (only b2) w84 w84 := Keep.refl _ _
              obtain rfl := List.mem_singleton.1 hL86
              refine GI_cell 3 (.tmp 8) 0 (.int .i64 ((k : Nat) : Int)) (some 55) (by kernel_rfl) (by kernel_rfl) (by kernel_rfl) qhb8 (by show ¬ (_ = _); omega) (m := 1) (by kernel_rfl) rfl ?_
              refine GI_static [2, 3, 4, 5, 6, 7, 8, 9, 10, 11, 12, 13, 14, 15, 16] [(0, .int .i64 ((n : Nat) : Int)), (3, .pointer (some ⟨b1, 0, none⟩)), (4, .pointer (some ⟨b2, 0, none⟩)), (5, .pointer (some ⟨b27, 0, none⟩)), (8, .pointer (some ⟨b43, 0, none⟩)), (55, .int .i64 ((k : Nat) : Int)), (56, .int .i64 ((n : Nat) : Int))] (by kernel_rfl) ?_
              refine GI_cell 3 (.tmp 3) 0 (.int .i64 ((stop : Nat) : Int)) (some 57) (by kernel_rfl) (by kernel_rfl) (by kernel_rfl) qhb3 (by show ¬ (_ = _); omega) (m := 1) (by kernel_rfl) rfl ?_
              refine GI_static [6, 7, 8, 9, 10, 11, 12, 13, 14, 15, 16] [(0, .int .i64 ((n : Nat) : Int)), (4, .pointer (some ⟨b2, 0, none⟩)), (5, .pointer (some ⟨b27, 0, none⟩)), (8, .pointer (some ⟨b43, 0, none⟩)), (60, .bool (decide (((k : Nat) : Int) = if ((stop : Nat) : Int) < ((n : Nat) : Int) then ((stop : Nat) : Int) else ((n : Nat) : Int))))] (by kernel_rfl) ?_
              refine GI_eq [(0, .int .i64 ((n : Nat) : Int)), (4, .pointer (some ⟨b2, 0, none⟩)), (5, .pointer (some ⟨b27, 0, none⟩)), (8, .pointer (some ⟨b43, 0, none⟩)), (60, .bool true)] (by rw [decide_eq_true (by split <;> omega)]) ?_
              refine GI_cell 23 (.tmp 5) 0 (.pointer (some ⟨g25, 0, none⟩)) (some 61) (by kernel_rfl) (by kernel_rfl) (by kernel_rfl) qhb5 (by show ¬ (_ = _); omega) (m := 1) (by kernel_rfl) rfl ?_
              refine GI_call { callee := (Callee.value (Operand.func 14)), args := #[(Operand.tmp 61)], argTypes := #[23] } 14 #[.pointer (some ⟨g25, 0, none⟩)] (some 62) (by kernel_rfl) (by kernel_rfl) (by kernel_rfl) (by kernel_rfl) (len_spec (fun q => N ≤ q ∧ q ≠ b27 ∧ q ≠ b43) g25 ((Am n).drop k) _ hagk) ?_
              rintro _ w84 ⟨rfl, rfl⟩
              refine ⟨_, rfl, K87, ?_⟩
              refine GI_static [9, 10, 11, 12, 13, 14, 15, 16] [(4, .pointer (some ⟨b2, 0, none⟩)), (8, .pointer (some ⟨b43, 0, none⟩)), (60, .bool true), (62, .int .i64 ((((Am n).drop k).length : Nat) : Int)), (63, .int .i64 ((n : Nat) : Int))] (by kernel_rfl) ?_
              refine GI_cell 3 (.tmp 8) 0 (.int .i64 ((k : Nat) : Int)) (some 64) (by kernel_rfl) (by kernel_rfl) (by kernel_rfl) qhb8 (by show ¬ (_ = _); omega) (m := 1) (by kernel_rfl) rfl ?_
              have hw93 : IntKind.i64.wrap (((n : Nat) : Int) - ((k : Nat) : Int)) = ((n : Nat) : Int) - ((k : Nat) : Int) := (wrap64_id (by omega) (by omega)).trans (by omega)
              refine GI_static [11, 12, 13, 14, 15, 16] [(4, .pointer (some ⟨b2, 0, none⟩)), (60, .bool true), (62, .int .i64 ((((Am n).drop k).length : Nat) : Int)), (65, .int .i64 (IntKind.i64.wrap (((n : Nat) : Int) - ((k : Nat) : Int))))] (by kernel_rfl) ?_
              refine GI_eq [(4, .pointer (some ⟨b2, 0, none⟩)), (60, .bool true), (62, .int .i64 ((((Am n).drop k).length : Nat) : Int)), (65, .int .i64 (((n : Nat) : Int) - ((k : Nat) : Int)))] (by rw [hw93]) ?_
              refine GI_static [14, 15, 16] [(4, .pointer (some ⟨b2, 0, none⟩)), (68, .bool (decide (((((Am n).drop k).length : Nat) : Int) = ((n : Nat) : Int) - ((k : Nat) : Int))))] (by kernel_rfl) ?_
              refine GI_eq [(4, .pointer (some ⟨b2, 0, none⟩)), (68, .bool true)] (by rw [decide_eq_true (by rw [List.length_drop, Am_len]; omega)]) ?_
              refine GI_call { callee := (Callee.value (Operand.func 15)), args := #[], argTypes := #[] } 15 #[] (some 69) (by kernel_rfl) (by kernel_rfl) (by kernel_rfl) (by kernel_rfl) (known_spec _) ?_
              rintro _ w95 ⟨rfl, hk96⟩
              have K97 := K87.tr (Keep.ofNone hk96)
              refine ⟨_, rfl, K97, ?_⟩
              have hzK97 := Keep.size K97
              replace hb3 := hb3.keep hk96 (fun f => f)
              have hb1lt := hb3.lt
              replace hb4 := hb4.keep hk96 (fun f => f)
              have hb2lt := hb4.lt
              replace hb5 := hb5.keep hk96 (fun f => f)
              have hb27lt := hb5.lt
              replace hb8 := hb8.keep hk96 (fun f => f)
              have hb43lt := hb8.lt
              replace hA0s := SlT.keep0 hA0s hk96
              replace hagk := Ag.keep0 hagk hk96
              replace hK0 := Keep.tr hK0 (Keep.ofNone hk96); have hzhK0 := Keep.size hK0
              replace hDD := (Keep.block hk96 _ (Array.getElem?_eq_some_iff.1 hDD).1 (fun f => f)).trans hDD
              refine GI_static [16] [(4, .pointer (some ⟨b2, 0, none⟩)), (70, .bool true)] (by kernel_rfl) ?_
              refine GI_set (m := 1) (kd := false) 4 (.tmp 4) (.tmp 70) 0 (.bool true) [.bool true] none (by kernel_rfl) (by kernel_rfl) (by kernel_rfl) (by kernel_rfl) hb4 (by kernel_rfl) (by kernel_rfl) (by kernel_rfl) (Nat.le_of_ble_eq_true (by kernel_rfl)) (by simp [Value.oneCell']) K97 (fun hh => rfl) ?_
              intro w98 hb2_101 hk99 hz100 K102
              replace hb2_101 : Blk w98 b2 [.bool true] 4 := hb2_101
              replace hb3 := hb3.keep hk99 (by show ¬ (_ = _); omega)
              have hb1lt := hb3.lt
              replace hb5 := hb5.keep hk99 (by show ¬ (_ = _); omega)
              have hb27lt := hb5.lt
              replace hb8 := hb8.keep hk99 (by show ¬ (_ = _); omega)
              have hb43lt := hb8.lt
              replace hA0s := SlT.keep hA0s hk99 (fun q hq hs => by have hs : q = b2 := hs; have h2 := hDA0 q hq; have h3 := hltA0 q hq; omega)
              replace hagk := Ag.keep hagk hk99 (by show ¬ (_ = _); omega) (fun q hq => by have h2 : N ≤ q ∧ q ≠ b27 ∧ q ≠ b43 := hq; show ¬ (q = b2); omega)
              replace hK0 := Keep.fresh hK0 hk99 (by intro i hi hs; first | exact hs | exact Or.inl hs | exact Or.inr hs | (exfalso; have hs2 : i = b2 := hs; omega)); have hzhK0 := Keep.size hK0
              replace hDD := (Keep.block hk99 _ (Array.getElem?_eq_some_iff.1 hDD).1 (by show ¬ (_ = _); omega)).trans hDD
              refine GI_end ?_
              refine X_then ?_
              refine V_ret ?_
              exact leave1 (.bool true) (.inl rfl) hDD (fun w' hk => ⟨res_cell1 (n1 := 1) rfl rfl (by kernel_rfl) (Blk.quiet hb2_101 hk), rfl, Keep.quiet hK0 hk (by omega)⟩)

theorem walk_AgendaMeanwhile_neg (a b : Int) (h : a < 0 ∨ b < 0) (w : World) : Calls Try.prog 9 #[.int .i64 a, .int .i64 b] w fun e w' => e = .returned (.bool true) ∧ Keep none_ w w' := by
  have hK0 : Keep none_ w w := Keep.refl _ _
  have hzhK0 := Keep.size hK0
  refine enterM Try.func9 rfl [.int .i64 a, .int .i64 b] 71 rfl rfl rfl ?_
  refine V_pick [(0, .int .i64 a), (1, .int .i64 b)] rfl ?_
  refine V_seq ?_
  refine V_region ?_
  refine OI_box 3 (.tmp 1) (.int .i64 b) [.int .i64 b] (some 3) (by kernel_rfl) (by kernel_rfl) (by kernel_rfl) ?_
  intro b1 w1 e1 hb1 k1 z1
  replace hK0 := Keep.tr hK0 (Keep.ofNone k1); have hzhK0 := Keep.size hK0
  have hb1lt := hb1.lt
  refine OI_alloc 4 (.bool false) [.bool false] (some 4) (by kernel_rfl) (by kernel_rfl) (by kernel_rfl) ?_
  intro b2 w2 e2 hb2 k2 z2
  replace hb1 := hb1.keep k2 (fun f => f)
  have hb1lt := hb1.lt
  replace hK0 := Keep.tr hK0 (Keep.ofNone k2); have hzhK0 := Keep.size hK0
  have hb2lt := hb2.lt
  refine OI_end rfl ?_
  refine X_then ?_
  refine V_seq ?_
  refine V_seq ?_
  refine V_region ?_
  refine OI_static 3 [(0, .int .i64 a), (3, .pointer (some ⟨b1, 0, none⟩)), (4, .pointer (some ⟨b2, 0, none⟩)), (12, .bool (decide (a < 0)))] (by kernel_rfl) ?_
  by_cases hg3 : a < 0
  · skip
    refine OI_eq [(0, .int .i64 a), (3, .pointer (some ⟨b1, 0, none⟩)), (4, .pointer (some ⟨b2, 0, none⟩)), (12, .bool true)] (by simp [hg3]) ?_
    refine OI_static 14 [(0, .int .i64 a), (3, .pointer (some ⟨b1, 0, none⟩)), (4, .pointer (some ⟨b2, 0, none⟩)), (23, .bool true)] (by kernel_rfl) ?_
    refine OI_end rfl ?_
    refine X_then ?_
    refine V_true rfl ?_
    refine V_seq ?_
    refine V_region ?_
    refine OI_set (m := 1) (kd := false) 4 (.tmp 4) (.const (Value.bool true)) 0 (.bool true) [.bool true] none (by kernel_rfl) (by kernel_rfl) (by kernel_rfl) hb2 (by kernel_rfl) (by kernel_rfl) (by kernel_rfl) (Nat.le_of_ble_eq_true (by kernel_rfl)) (by simp [Value.oneCell']) ?_
    intro w4 hb2_7 hk5 hz6
    replace hb2_7 : Blk w4 b2 [.bool true] 4 := hb2_7
    replace hb1 := hb1.keep hk5 (by show ¬ (_ = _); omega)
    have hb1lt := hb1.lt
    replace hK0 := Keep.fresh hK0 hk5 (by intro i hi hs; first | exact hs | exact Or.inl hs | exact Or.inr hs | (exfalso; have hs2 : i = b2 := hs; omega)); have hzhK0 := Keep.size hK0
    refine OI_end rfl ?_
    refine X_then ?_
    refine V_ret ?_
    refine X_ret_then ?_
    exact leave0 (.bool true) (.inl rfl) (res_cell1 (n1 := 1) rfl rfl (by kernel_rfl) hb2_7) ⟨rfl, hK0⟩
  · skip
    refine OI_eq [(0, .int .i64 a), (3, .pointer (some ⟨b1, 0, none⟩)), (4, .pointer (some ⟨b2, 0, none⟩)), (12, .bool false)] (by simp [hg3]) ?_
    refine OI_static 7 [(0, .int .i64 a), (3, .pointer (some ⟨b1, 0, none⟩)), (4, .pointer (some ⟨b2, 0, none⟩)), (16, .bool (decide (a > 12)))] (by kernel_rfl) ?_
    by_cases hg8 : a > 12
    · skip
      refine OI_eq [(0, .int .i64 a), (3, .pointer (some ⟨b1, 0, none⟩)), (4, .pointer (some ⟨b2, 0, none⟩)), (16, .bool true)] (by simp [hg8]) ?_
      refine OI_static 14 [(0, .int .i64 a), (3, .pointer (some ⟨b1, 0, none⟩)), (4, .pointer (some ⟨b2, 0, none⟩)), (23, .bool true)] (by kernel_rfl) ?_
      refine OI_end rfl ?_
      refine X_then ?_
      refine V_true rfl ?_
      refine V_seq ?_
      refine V_region ?_
      refine OI_set (m := 1) (kd := false) 4 (.tmp 4) (.const (Value.bool true)) 0 (.bool true) [.bool true] none (by kernel_rfl) (by kernel_rfl) (by kernel_rfl) hb2 (by kernel_rfl) (by kernel_rfl) (by kernel_rfl) (Nat.le_of_ble_eq_true (by kernel_rfl)) (by simp [Value.oneCell']) ?_
      intro w9 hb2_12 hk10 hz11
      replace hb2_12 : Blk w9 b2 [.bool true] 4 := hb2_12
      replace hb1 := hb1.keep hk10 (by show ¬ (_ = _); omega)
      have hb1lt := hb1.lt
      replace hK0 := Keep.fresh hK0 hk10 (by intro i hi hs; first | exact hs | exact Or.inl hs | exact Or.inr hs | (exfalso; have hs2 : i = b2 := hs; omega)); have hzhK0 := Keep.size hK0
      refine OI_end rfl ?_
      refine X_then ?_
      refine V_ret ?_
      refine X_ret_then ?_
      exact leave0 (.bool true) (.inl rfl) (res_cell1 (n1 := 1) rfl rfl (by kernel_rfl) hb2_12) ⟨rfl, hK0⟩
    · skip
      refine OI_eq [(0, .int .i64 a), (3, .pointer (some ⟨b1, 0, none⟩)), (4, .pointer (some ⟨b2, 0, none⟩)), (16, .bool false)] (by simp [hg8]) ?_
      refine OI_cell 3 (.tmp 3) 0 (.int .i64 b) (some 17) (by kernel_rfl) (by kernel_rfl) hb1 (m := 1) (by kernel_rfl) rfl ?_
      refine OI_static 11 [(0, .int .i64 a), (3, .pointer (some ⟨b1, 0, none⟩)), (4, .pointer (some ⟨b2, 0, none⟩)), (20, .bool (decide (b < 1)))] (by kernel_rfl) ?_
      by_cases hg13 : b < 1
      · skip
        refine OI_eq [(0, .int .i64 a), (3, .pointer (some ⟨b1, 0, none⟩)), (4, .pointer (some ⟨b2, 0, none⟩)), (20, .bool true)] (by simp [hg13]) ?_
        refine OI_static 14 [(0, .int .i64 a), (3, .pointer (some ⟨b1, 0, none⟩)), (4, .pointer (some ⟨b2, 0, none⟩)), (23, .bool true)] (by kernel_rfl) ?_
        refine OI_end rfl ?_
        refine X_then ?_
        refine V_true rfl ?_
        refine V_seq ?_
        refine V_region ?_
        refine OI_set (m := 1) (kd := false) 4 (.tmp 4) (.const (Value.bool true)) 0 (.bool true) [.bool true] none (by kernel_rfl) (by kernel_rfl) (by kernel_rfl) hb2 (by kernel_rfl) (by kernel_rfl) (by kernel_rfl) (Nat.le_of_ble_eq_true (by kernel_rfl)) (by simp [Value.oneCell']) ?_
        intro w14 hb2_17 hk15 hz16
        replace hb2_17 : Blk w14 b2 [.bool true] 4 := hb2_17
        replace hb1 := hb1.keep hk15 (by show ¬ (_ = _); omega)
        have hb1lt := hb1.lt
        replace hK0 := Keep.fresh hK0 hk15 (by intro i hi hs; first | exact hs | exact Or.inl hs | exact Or.inr hs | (exfalso; have hs2 : i = b2 := hs; omega)); have hzhK0 := Keep.size hK0
        refine OI_end rfl ?_
        refine X_then ?_
        refine V_ret ?_
        refine X_ret_then ?_
        exact leave0 (.bool true) (.inl rfl) (res_cell1 (n1 := 1) rfl rfl (by kernel_rfl) hb2_17) ⟨rfl, hK0⟩
      · skip
        refine OI_eq [(0, .int .i64 a), (3, .pointer (some ⟨b1, 0, none⟩)), (4, .pointer (some ⟨b2, 0, none⟩)), (20, .bool false)] (by simp [hg13]) ?_
        refine OI_cell 3 (.tmp 3) 0 (.int .i64 b) (some 21) (by kernel_rfl) (by kernel_rfl) hb1 (m := 1) (by kernel_rfl) rfl ?_
        refine OI_static 14 [(0, .int .i64 a), (3, .pointer (some ⟨b1, 0, none⟩)), (4, .pointer (some ⟨b2, 0, none⟩)), (23, .bool (decide (b > 20)))] (by kernel_rfl) ?_
        refine OI_end rfl ?_
        refine X_then ?_
        refine V_if (b > 20) (by kernel_rfl) (fun hc18 => ?_) (fun hc18 => ?_)
        · skip
          refine V_seq ?_
          refine V_region ?_
          refine OI_set (m := 1) (kd := false) 4 (.tmp 4) (.const (Value.bool true)) 0 (.bool true) [.bool true] none (by kernel_rfl) (by kernel_rfl) (by kernel_rfl) hb2 (by kernel_rfl) (by kernel_rfl) (by kernel_rfl) (Nat.le_of_ble_eq_true (by kernel_rfl)) (by simp [Value.oneCell']) ?_
          intro w19 hb2_22 hk20 hz21
          replace hb2_22 : Blk w19 b2 [.bool true] 4 := hb2_22
          replace hb1 := hb1.keep hk20 (by show ¬ (_ = _); omega)
          have hb1lt := hb1.lt
          replace hK0 := Keep.fresh hK0 hk20 (by intro i hi hs; first | exact hs | exact Or.inl hs | exact Or.inr hs | (exfalso; have hs2 : i = b2 := hs; omega)); have hzhK0 := Keep.size hK0
          refine OI_end rfl ?_
          refine X_then ?_
          refine V_ret ?_
          refine X_ret_then ?_
          exact leave0 (.bool true) (.inl rfl) (res_cell1 (n1 := 1) rfl rfl (by kernel_rfl) hb2_22) ⟨rfl, hK0⟩
        · skip
          exact (by omega : False).elim

theorem said_AgendaMeanwhile (a b : Int) (w : World) : Calls Try.prog 9 #[.int .i64 a, .int .i64 b] w fun e w' => e = .returned (.bool true) ∧ Keep none_ w w' := by
  by_cases h : a < 0 ∨ b < 0
  · exact walk_AgendaMeanwhile_neg a b h w
  · obtain ⟨n, rfl⟩ : ∃ x : Nat, a = x := ⟨a.toNat, by omega⟩
    obtain ⟨m, rfl⟩ : ∃ x : Nat, b = x := ⟨b.toNat, by omega⟩
    exact walk_AgendaMeanwhile n m w
end Go.Al
