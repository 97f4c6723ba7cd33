/-
  Walks of the laws of the agenda: how many there may be.
-/
import Derived.Test.YtbfecgncndaodaaAg6
namespace Go.Al
open Go Go.RowKit Go.Proofs
/-! ### How many there may be -/
def A0 (n : Nat) : List Tk := (List.range n).map fun j => tk0 ((j : Nat) : Int) 0
theorem A0_len (n : Nat) : (A0 n).length = n := by simp [A0]
theorem A0_mem {n : Nat} {x : Tk} (h : x ∈ A0 n) : x.at_ = 0 ∧ x.pr = 0 ∧ 0 ≤ x.name ∧ x.name < n := by
  simp only [A0, List.mem_map, List.mem_range] at h
  obtain ⟨j, hj, rfl⟩ := h
  refine ⟨rfl, rfl, ?_, ?_⟩ <;> simp [tk0] <;> omega
def fullc (i : Nat) : Int := if i < 12 then 0 else 3
theorem full_put (i : Nat) : putR (tk0 ((i : Nat) : Int) 0) (A0 (min i 12)) = (fullc i, A0 (min (i + 1) 12)) := by
  have hn : (A0 (min i 12)).any (named ((i : Nat) : Int)) = false := no_name fun x hx => by have := A0_mem hx; omega
  by_cases h : i < 12
  · rw [put0 (by omega) (by omega) hn (by rw [A0_len]; omega), Nat.min_eq_left (by omega), Nat.min_eq_left (by omega)]
    have := ins_app (t := tk0 ((i : Nat) : Int) 0) (a := A0 i) (b := []) (fun x hx => by have := A0_mem hx; simp only [ltT, tk0]; omega) (fun x hx => by cases hx)
    rw [List.append_nil] at this
    rw [this]
    simp [fullc, h, A0, List.range_succ]
  · rw [put3 (by omega) (by omega) hn (by rw [A0_len]; omega), Nat.min_eq_right (by omega), Nat.min_eq_right (by omega)]
    simp [fullc, h]
theorem full_eq (i : Nat) : (!(decide (fullc i = 0) == decide (((i : Nat) : Int) < 12))) = false := by
  unfold fullc
  by_cases h : i < 12
  · have : ((i : Nat) : Int) < 12 := by omega
    simp [h, this]
  · have : ¬ ((i : Nat) : Int) < 12 := by omega
    simp [h, this]

theorem walk_AgendaFull (n : Nat) (t : Tk) (w : World) : Calls Try.prog 4 #[.int .i64 (n : Int), .agg t.cells.toArray] w fun e w' => e = .returned (.bool true) ∧ Keep none_ w w' := by
  have hK0 : Keep none_ w w := Keep.refl _ _
  have hzhK0 := Keep.size hK0
  refine enterV Try.func4 rfl [.int .i64 ((n : Nat) : Int), .agg (Tk.cells t).toArray] 55 rfl rfl rfl ?_
  refine V_pick [(0, .int .i64 ((n : Nat) : Int)), (1, .agg (Tk.cells t).toArray)] rfl ?_
  refine V_seq ?_
  refine V_region ?_
  refine OI_box 28 (.tmp 1) (.agg (Tk.cells t).toArray) (Tk.cells t) (some 3) (by kernel_rfl) (by kernel_rfl) rfl ?_
  intro b1 w1 e1 hb1 k1 z1
  replace hK0 := Keep.tr hK0 (Keep.ofNone k1); have hzhK0 := Keep.size hK0
  have hb1lt := hb1.lt
  refine OI_static 2 [(0, .int .i64 ((n : Nat) : Int)), (3, .pointer (some ⟨b1, 0, none⟩))] (by kernel_rfl) ?_
  refine OI_end rfl ?_
  refine X_then ?_
  refine V_seq ?_
  refine V_seq ?_
  refine V_region ?_
  refine OI_static 3 [(0, .int .i64 ((n : Nat) : Int)), (3, .pointer (some ⟨b1, 0, none⟩)), (9, .bool (decide (((n : Nat) : Int) < 0)))] (by kernel_rfl) ?_
  by_cases hg2 : ((n : Nat) : Int) < 0
  · skip
    refine OI_eq [(0, .int .i64 ((n : Nat) : Int)), (3, .pointer (some ⟨b1, 0, none⟩)), (9, .bool true)] (by simp [hg2]) ?_
    refine OI_static 6 [(0, .int .i64 ((n : Nat) : Int)), (3, .pointer (some ⟨b1, 0, none⟩)), (12, .bool true)] (by kernel_rfl) ?_
    refine OI_end rfl ?_
    refine X_then ?_
    refine V_true rfl ?_
    refine V_seq ?_
    refine V_region ?_
    refine OI_static 1 [(4, .bool true)] (by kernel_rfl) ?_
    refine OI_end rfl ?_
    refine X_then ?_
    refine V_ret ?_
    refine X_ret_then ?_
    exact X_return (.bool true) rfl ⟨rfl, hK0⟩
  · skip
    refine OI_eq [(0, .int .i64 ((n : Nat) : Int)), (3, .pointer (some ⟨b1, 0, none⟩)), (9, .bool false)] (by simp [hg2]) ?_
    refine OI_static 6 [(0, .int .i64 ((n : Nat) : Int)), (3, .pointer (some ⟨b1, 0, none⟩)), (12, .bool (decide (((n : Nat) : Int) > 20)))] (by kernel_rfl) ?_
    refine OI_end rfl ?_
    refine X_then ?_
    refine V_if (((n : Nat) : Int) > 20) (by kernel_rfl) (fun hc3 => ?_) (fun hc3 => ?_)
    · skip
      refine V_seq ?_
      refine V_region ?_
      refine OI_static 1 [(4, .bool true)] (by kernel_rfl) ?_
      refine OI_end rfl ?_
      refine X_then ?_
      refine V_ret ?_
      refine X_ret_then ?_
      exact X_return (.bool true) rfl ⟨rfl, hK0⟩
    · skip
      refine V_skip ?_
      refine X_then ?_
      refine V_seq ?_
      refine V_region ?_
      refine OI_call { callee := (Callee.value (Operand.func 11)), args := #[], argTypes := #[] } 11 #[] (some 13) (by kernel_rfl) (by kernel_rfl) (by kernel_rfl) (new_spec any_ _) ?_
      rintro _ w4 ⟨g6, rfl, hag7, hk5, hgeg6⟩
      refine ⟨_, rfl, ?_⟩
      replace hb1 := hb1.keep hk5 (fun f => f)
      have hb1lt := hb1.lt
      replace hK0 := Keep.tr hK0 (Keep.ofNone hk5); have hzhK0 := Keep.size hK0
      have hltg6 := Ag.lt hag7
      refine OI_static 2 [(0, .int .i64 ((n : Nat) : Int)), (3, .pointer (some ⟨b1, 0, none⟩)), (5, .pointer (some ⟨g6, 0, none⟩))] (by kernel_rfl) ?_
      refine OI_end rfl ?_
      refine X_then ?_
      refine V_seq ?_
      refine V_seq ?_
      refine V_region ?_
      refine OI_static 2 [(0, .int .i64 ((n : Nat) : Int)), (3, .pointer (some ⟨b1, 0, none⟩)), (5, .pointer (some ⟨g6, 0, none⟩)), (15, .bool false)] (by kernel_rfl) ?_
      refine OI_end rfl ?_
      refine X_then ?_
      refine V_false rfl ?_
      refine V_skip ?_
      refine X_then ?_
      refine V_seq ?_
      refine V_seq ?_
      refine V_region ?_
      refine OI_static 1 [(0, .int .i64 ((n : Nat) : Int)), (3, .pointer (some ⟨b1, 0, none⟩)), (5, .pointer (some ⟨g6, 0, none⟩)), (6, .int .i64 0)] (by kernel_rfl) ?_
      refine OI_end rfl ?_
      refine X_then ?_
      refine V_block ?_
      refine V_pick [(0, .int .i64 ((n : Nat) : Int)), (3, .pointer (some ⟨b1, 0, none⟩)), (5, .pointer (some ⟨g6, 0, none⟩)), (6, .int .i64 0)] rfl ?_
      refine V_loop (fun k wI e => ∃ i : Nat, (k + i = n) ∧ (Ag any_ wI g6 (A0 (min i 12))) ∧ Keep (only g6) w4 wI ∧ e = [(0, .int .i64 ((n : Nat) : Int)), (3, .pointer (some ⟨b1, 0, none⟩)), (5, .pointer (some ⟨g6, 0, none⟩)), (6, .int .i64 ((i : Nat) : Int))]) n ⟨0, by omega, hag7, Keep.refl _ _, rfl⟩ ?_
      rintro k9 w8 _ ⟨i, hki, hag1, hk10, rfl⟩
      replace hb1 := hb1.keep hk10 (by show ¬ (_ = _); omega)
      have hb1lt := hb1.lt
      replace hK0 := Keep.fresh hK0 hk10 (by intro i hi hs; first | exact hs | exact Or.inl hs | exact Or.inr hs | (exfalso; have hs2 : i = g6 := hs; omega)); have hzhK0 := Keep.size hK0
      skip
      have hzhk10 := Keep.size hk10
      have hltg6 := Ag.lt hag1
      refine V_seq ?_
      refine V_seq ?_
      refine V_region ?_
      refine OI_static 3 [(0, .int .i64 ((n : Nat) : Int)), (3, .pointer (some ⟨b1, 0, none⟩)), (5, .pointer (some ⟨g6, 0, none⟩)), (6, .int .i64 ((i : Nat) : Int)), (18, .bool (decide (((i : Nat) : Int) < ((n : Nat) : Int))))] (by kernel_rfl) ?_
      refine OI_end rfl ?_
      refine X_then ?_
      refine V_if (((i : Nat) : Int) < ((n : Nat) : Int)) (by kernel_rfl) (fun hc11 => ?_) (fun hc11 => ?_)
      · skip
        refine V_skip ?_
        refine X_then ?_
        refine V_seq ?_
        refine V_block ?_
        refine V_seq ?_
        refine V_region ?_
        refine OI_static 3 [(0, .int .i64 ((n : Nat) : Int)), (3, .pointer (some ⟨b1, 0, none⟩)), (5, .pointer (some ⟨g6, 0, none⟩)), (6, .int .i64 ((i : Nat) : Int)), (21, .pointer (some ⟨g6, 0, none⟩)), (23, .agg (Tk.cells (tk0 ((i : Nat) : Int) 0)).toArray)] (by kernel_rfl) ?_
        refine OI_call { callee := (Callee.value (Operand.func 12)), args := #[(Operand.tmp 21), (Operand.tmp 23)], argTypes := #[23, 28] } 12 #[.pointer (some ⟨g6, 0, none⟩), .agg (Tk.cells (tk0 ((i : Nat) : Int) 0)).toArray] (some 24) (by kernel_rfl) (by kernel_rfl) (by kernel_rfl) (put_is any_ g6 (A0 (min i 12)) (tk0 ((i : Nat) : Int) 0) (fullc i) (A0 (min (i + 1) 12)) _ hag1 (fun _ _ => trivial) (full_put i)) ?_
        rintro _ w12 ⟨rfl, hag14, hk13⟩
        refine ⟨_, rfl, ?_⟩
        replace hb1 := hb1.keep hk13 (by show ¬ (_ = _); omega)
        have hb1lt := hb1.lt
        replace hK0 := Keep.fresh hK0 hk13 (by intro i hi hs; first | exact hs | exact Or.inl hs | exact Or.inr hs | (exfalso; have hs2 : i = g6 := hs; omega)); have hzhK0 := Keep.size hK0
        skip
        replace hk10 := Keep.fresh hk10 hk13 (by intro i hi hs; first | exact hs | exact Or.inl hs | exact Or.inr hs | (exfalso; have hs2 : i = g6 := hs; omega)); have hzhk10 := Keep.size hk10
        have hltg6 := Ag.lt hag14
        refine OI_static 8 [(0, .int .i64 ((n : Nat) : Int)), (3, .pointer (some ⟨b1, 0, none⟩)), (5, .pointer (some ⟨g6, 0, none⟩)), (6, .int .i64 ((i : Nat) : Int)), (28, .bool (!((decide (fullc i = 0)) == (decide (((i : Nat) : Int) < 12)))))] (by kernel_rfl) ?_
        refine OI_end rfl ?_
        refine X_then ?_
        refine V_eq [(0, .int .i64 ((n : Nat) : Int)), (3, .pointer (some ⟨b1, 0, none⟩)), (5, .pointer (some ⟨g6, 0, none⟩)), (6, .int .i64 ((i : Nat) : Int)), (28, .bool false)] (by rw [full_eq]) ?_
        refine V_false rfl ?_
        refine V_skip ?_
        refine X_block ?_
        refine X_then ?_
        refine V_region ?_
        have hw16 : IntKind.i64.wrap (((i : Nat) : Int) + 1) = ((i + 1 : Nat) : Int) := (wrap64_id (by omega) (by omega)).trans (by omega)
        refine OI_static 2 [(0, .int .i64 ((n : Nat) : Int)), (3, .pointer (some ⟨b1, 0, none⟩)), (5, .pointer (some ⟨g6, 0, none⟩)), (20, .int .i64 (IntKind.i64.wrap (((i : Nat) : Int) + 1)))] (by kernel_rfl) ?_
        refine OI_eq [(0, .int .i64 ((n : Nat) : Int)), (3, .pointer (some ⟨b1, 0, none⟩)), (5, .pointer (some ⟨g6, 0, none⟩)), (20, .int .i64 ((i + 1 : Nat) : Int))] (by rw [hw16]) ?_
        refine OI_static 3 [(0, .int .i64 ((n : Nat) : Int)), (3, .pointer (some ⟨b1, 0, none⟩)), (5, .pointer (some ⟨g6, 0, none⟩)), (6, .int .i64 ((i + 1 : Nat) : Int))] (by kernel_rfl) ?_
        refine OI_end rfl ?_
        exact V_again (k9 - 1) (by omega) [(0, .int .i64 ((n : Nat) : Int)), (3, .pointer (some ⟨b1, 0, none⟩)), (5, .pointer (some ⟨g6, 0, none⟩)), (6, .int .i64 ((i + 1 : Nat) : Int))] rfl ⟨i + 1, by omega, hag14, hk10, rfl⟩
      · skip
        refine V_exit ?_
        refine X_exit_then ?_
        refine X_exit_then ?_
        refine X_exit_here ?_
        refine X_then ?_
        refine V_seq ?_
        refine V_seq ?_
        refine V_region ?_
        refine OI_static 1 [(0, .int .i64 ((n : Nat) : Int)), (3, .pointer (some ⟨b1, 0, none⟩)), (5, .pointer (some ⟨g6, 0, none⟩)), (29, .pointer (some ⟨g6, 0, none⟩))] (by kernel_rfl) ?_
        refine OI_call { callee := (Callee.value (Operand.func 14)), args := #[(Operand.tmp 29)], argTypes := #[23] } 14 #[.pointer (some ⟨g6, 0, none⟩)] (some 30) (by kernel_rfl) (by kernel_rfl) (by kernel_rfl) (len_spec any_ g6 (A0 (min i 12)) _ hag1) ?_
        rintro _ w8 ⟨rfl, rfl⟩
        refine ⟨_, rfl, ?_⟩
        refine OI_static 5 [(3, .pointer (some ⟨b1, 0, none⟩)), (5, .pointer (some ⟨g6, 0, none⟩)), (33, .bool (!(decide ((((A0 (min i 12)).length : Nat) : Int) = if 12 < ((n : Nat) : Int) then 12 else ((n : Nat) : Int)))))] (by kernel_rfl) ?_
        refine OI_end rfl ?_
        refine X_then ?_
        refine V_not ((((A0 (min i 12)).length : Nat) : Int) = if 12 < ((n : Nat) : Int) then 12 else ((n : Nat) : Int)) (by kernel_rfl) (fun hc21 => ?_) (fun hc21 => ?_)
        · skip
          exact (by rw [A0_len] at hc21; split at hc21 <;> omega : False).elim
        · skip
          refine V_skip ?_
          refine X_then ?_
          refine V_seq ?_
          refine V_seq ?_
          refine V_region ?_
          refine OI_static 1 [(3, .pointer (some ⟨b1, 0, none⟩)), (5, .pointer (some ⟨g6, 0, none⟩)), (34, .pointer (some ⟨b1, 0, none⟩))] (by kernel_rfl) ?_
          refine OI_cell 3 (.tmp 34) 0 (.int .i64 t.name) (some 35) (by kernel_rfl) (by kernel_rfl) hb1 (m := 1) (by kernel_rfl) rfl ?_
          refine OI_static 4 [(3, .pointer (some ⟨b1, 0, none⟩)), (5, .pointer (some ⟨g6, 0, none⟩)), (37, .bool (decide (t.name < 0)))] (by kernel_rfl) ?_
          by_cases hg22 : t.name < 0
          · skip
            refine OI_eq [(3, .pointer (some ⟨b1, 0, none⟩)), (5, .pointer (some ⟨g6, 0, none⟩)), (37, .bool true)] (by simp [hg22]) ?_
            refine OI_static 13 [(3, .pointer (some ⟨b1, 0, none⟩)), (5, .pointer (some ⟨g6, 0, none⟩)), (46, .bool true)] (by kernel_rfl) ?_
            refine OI_end rfl ?_
            refine X_then ?_
            refine V_true rfl ?_
            refine V_seq ?_
            refine V_region ?_
            refine OI_static 1 [(3, .pointer (some ⟨b1, 0, none⟩)), (47, .pointer (some ⟨g6, 0, none⟩))] (by kernel_rfl) ?_
            refine OI_agg 28 (.tmp 3) 0 (Tk.cells t) (some 48) (by kernel_rfl) (by kernel_rfl) hb1 (m := 36) (by kernel_rfl) (take_all (Tk.len _)) (Tk.len _) ?_
            refine OI_call { callee := (Callee.value (Operand.func 12)), args := #[(Operand.tmp 47), (Operand.tmp 48)], argTypes := #[23, 28] } 12 #[.pointer (some ⟨g6, 0, none⟩), .agg (Tk.cells t).toArray] (some 49) (by kernel_rfl) (by kernel_rfl) (by kernel_rfl) (put_is any_ g6 (A0 (min i 12)) t 1 (A0 (min i 12)) _ hag1 (fun _ _ => trivial) (put1 (by omega))) ?_
            rintro _ w23 ⟨rfl, hag25, hk24⟩
            refine ⟨_, rfl, ?_⟩
            replace hb1 := hb1.keep hk24 (by show ¬ (_ = _); omega)
            have hb1lt := hb1.lt
            replace hK0 := Keep.fresh hK0 hk24 (by intro i hi hs; first | exact hs | exact Or.inl hs | exact Or.inr hs | (exfalso; have hs2 : i = g6 := hs; omega)); have hzhK0 := Keep.size hK0
            skip
            replace hk10 := Keep.fresh hk10 hk24 (by intro i hi hs; first | exact hs | exact Or.inl hs | exact Or.inr hs | (exfalso; have hs2 : i = g6 := hs; omega)); have hzhk10 := Keep.size hk10
            have hltg6 := Ag.lt hag25
            refine OI_static 5 [(51, .bool true)] (by kernel_rfl) ?_
            refine OI_call { callee := (Callee.value (Operand.func 15)), args := #[], argTypes := #[] } 15 #[] (some 52) (by kernel_rfl) (by kernel_rfl) (by kernel_rfl) (known_spec _) ?_
            rintro _ w26 ⟨rfl, hk27⟩
            refine ⟨_, rfl, ?_⟩
            replace hb1 := hb1.keep hk27 (fun f => f)
            have hb1lt := hb1.lt
            replace hK0 := Keep.tr hK0 (Keep.ofNone hk27); have hzhK0 := Keep.size hK0
            replace hk10 := Keep.tr hk10 (Keep.ofNone hk27); have hzhk10 := Keep.size hk10
            replace hag25 := Ag.keep0 hag25 hk27
            refine OI_static 8 [(4, .bool true)] (by kernel_rfl) ?_
            refine OI_end rfl ?_
            refine X_then ?_
            refine V_ret ?_
            refine X_ret_then ?_
            exact X_return (.bool true) rfl ⟨rfl, hK0⟩
          · skip
            refine OI_eq [(3, .pointer (some ⟨b1, 0, none⟩)), (5, .pointer (some ⟨g6, 0, none⟩)), (37, .bool false)] (by simp [hg22]) ?_
            refine OI_static 5 [(3, .pointer (some ⟨b1, 0, none⟩)), (5, .pointer (some ⟨g6, 0, none⟩)), (37, .bool false), (38, .pointer (some ⟨b1, 1, none⟩))] (by kernel_rfl) ?_
            refine OI_cell 3 (.tmp 38) 1 (.int .i64 t.at_) (some 39) (by kernel_rfl) (by kernel_rfl) hb1 (m := 1) (by kernel_rfl) rfl ?_
            refine OI_static 9 [(3, .pointer (some ⟨b1, 0, none⟩)), (5, .pointer (some ⟨g6, 0, none⟩)), (42, .bool (decide (t.at_ < 0)))] (by kernel_rfl) ?_
            by_cases hg28 : t.at_ < 0
            · skip
              refine OI_eq [(3, .pointer (some ⟨b1, 0, none⟩)), (5, .pointer (some ⟨g6, 0, none⟩)), (42, .bool true)] (by simp [hg28]) ?_
              refine OI_static 13 [(3, .pointer (some ⟨b1, 0, none⟩)), (5, .pointer (some ⟨g6, 0, none⟩)), (46, .bool true)] (by kernel_rfl) ?_
              refine OI_end rfl ?_
              refine X_then ?_
              refine V_true rfl ?_
              refine V_seq ?_
              refine V_region ?_
              refine OI_static 1 [(3, .pointer (some ⟨b1, 0, none⟩)), (47, .pointer (some ⟨g6, 0, none⟩))] (by kernel_rfl) ?_
              refine OI_agg 28 (.tmp 3) 0 (Tk.cells t) (some 48) (by kernel_rfl) (by kernel_rfl) hb1 (m := 36) (by kernel_rfl) (take_all (Tk.len _)) (Tk.len _) ?_
              refine OI_call { callee := (Callee.value (Operand.func 12)), args := #[(Operand.tmp 47), (Operand.tmp 48)], argTypes := #[23, 28] } 12 #[.pointer (some ⟨g6, 0, none⟩), .agg (Tk.cells t).toArray] (some 49) (by kernel_rfl) (by kernel_rfl) (by kernel_rfl) (put_is any_ g6 (A0 (min i 12)) t 1 (A0 (min i 12)) _ hag1 (fun _ _ => trivial) (put1 (by omega))) ?_
              rintro _ w29 ⟨rfl, hag31, hk30⟩
              refine ⟨_, rfl, ?_⟩
              replace hb1 := hb1.keep hk30 (by show ¬ (_ = _); omega)
              have hb1lt := hb1.lt
              replace hK0 := Keep.fresh hK0 hk30 (by intro i hi hs; first | exact hs | exact Or.inl hs | exact Or.inr hs | (exfalso; have hs2 : i = g6 := hs; omega)); have hzhK0 := Keep.size hK0
              skip
              replace hk10 := Keep.fresh hk10 hk30 (by intro i hi hs; first | exact hs | exact Or.inl hs | exact Or.inr hs | (exfalso; have hs2 : i = g6 := hs; omega)); have hzhk10 := Keep.size hk10
              have hltg6 := Ag.lt hag31
              refine OI_static 5 [(51, .bool true)] (by kernel_rfl) ?_
              refine OI_call { callee := (Callee.value (Operand.func 15)), args := #[], argTypes := #[] } 15 #[] (some 52) (by kernel_rfl) (by kernel_rfl) (by kernel_rfl) (known_spec _) ?_
              rintro _ w32 ⟨rfl, hk33⟩
              refine ⟨_, rfl, ?_⟩
              replace hb1 := hb1.keep hk33 (fun f => f)
              have hb1lt := hb1.lt
              replace hK0 := Keep.tr hK0 (Keep.ofNone hk33); have hzhK0 := Keep.size hK0
              replace hk10 := Keep.tr hk10 (Keep.ofNone hk33); have hzhk10 := Keep.size hk10
              replace hag31 := Ag.keep0 hag31 hk33
              refine OI_static 8 [(4, .bool true)] (by kernel_rfl) ?_
              refine OI_end rfl ?_
              refine X_then ?_
              refine V_ret ?_
              refine X_ret_then ?_
              exact X_return (.bool true) rfl ⟨rfl, hK0⟩
            · skip
              refine OI_eq [(3, .pointer (some ⟨b1, 0, none⟩)), (5, .pointer (some ⟨g6, 0, none⟩)), (42, .bool false)] (by simp [hg28]) ?_
              refine OI_static 10 [(3, .pointer (some ⟨b1, 0, none⟩)), (5, .pointer (some ⟨g6, 0, none⟩)), (42, .bool false), (43, .pointer (some ⟨b1, 2, none⟩))] (by kernel_rfl) ?_
              refine OI_cell 3 (.tmp 43) 2 (.int .i64 t.pr) (some 44) (by kernel_rfl) (by kernel_rfl) hb1 (m := 1) (by kernel_rfl) rfl ?_
              refine OI_static 13 [(3, .pointer (some ⟨b1, 0, none⟩)), (5, .pointer (some ⟨g6, 0, none⟩)), (46, .bool (decide (t.pr < 0)))] (by kernel_rfl) ?_
              refine OI_end rfl ?_
              refine X_then ?_
              refine V_if (t.pr < 0) (by kernel_rfl) (fun hc34 => ?_) (fun hc34 => ?_)
              · skip
                refine V_seq ?_
                refine V_region ?_
                refine OI_static 1 [(3, .pointer (some ⟨b1, 0, none⟩)), (47, .pointer (some ⟨g6, 0, none⟩))] (by kernel_rfl) ?_
                refine OI_agg 28 (.tmp 3) 0 (Tk.cells t) (some 48) (by kernel_rfl) (by kernel_rfl) hb1 (m := 36) (by kernel_rfl) (take_all (Tk.len _)) (Tk.len _) ?_
                refine OI_call { callee := (Callee.value (Operand.func 12)), args := #[(Operand.tmp 47), (Operand.tmp 48)], argTypes := #[23, 28] } 12 #[.pointer (some ⟨g6, 0, none⟩), .agg (Tk.cells t).toArray] (some 49) (by kernel_rfl) (by kernel_rfl) (by kernel_rfl) (put_is any_ g6 (A0 (min i 12)) t 1 (A0 (min i 12)) _ hag1 (fun _ _ => trivial) (put1 (by omega))) ?_
                rintro _ w35 ⟨rfl, hag37, hk36⟩
                refine ⟨_, rfl, ?_⟩
                replace hb1 := hb1.keep hk36 (by show ¬ (_ = _); omega)
                have hb1lt := hb1.lt
                replace hK0 := Keep.fresh hK0 hk36 (by intro i hi hs; first | exact hs | exact Or.inl hs | exact Or.inr hs | (exfalso; have hs2 : i = g6 := hs; omega)); have hzhK0 := Keep.size hK0
                skip
                replace hk10 := Keep.fresh hk10 hk36 (by intro i hi hs; first | exact hs | exact Or.inl hs | exact Or.inr hs | (exfalso; have hs2 : i = g6 := hs; omega)); have hzhk10 := Keep.size hk10
                have hltg6 := Ag.lt hag37
                refine OI_static 5 [(51, .bool true)] (by kernel_rfl) ?_
                refine OI_call { callee := (Callee.value (Operand.func 15)), args := #[], argTypes := #[] } 15 #[] (some 52) (by kernel_rfl) (by kernel_rfl) (by kernel_rfl) (known_spec _) ?_
                rintro _ w38 ⟨rfl, hk39⟩
                refine ⟨_, rfl, ?_⟩
                replace hb1 := hb1.keep hk39 (fun f => f)
                have hb1lt := hb1.lt
                replace hK0 := Keep.tr hK0 (Keep.ofNone hk39); have hzhK0 := Keep.size hK0
                replace hk10 := Keep.tr hk10 (Keep.ofNone hk39); have hzhk10 := Keep.size hk10
                replace hag37 := Ag.keep0 hag37 hk39
                refine OI_static 8 [(4, .bool true)] (by kernel_rfl) ?_
                refine OI_end rfl ?_
                refine X_then ?_
                refine V_ret ?_
                refine X_ret_then ?_
                exact X_return (.bool true) rfl ⟨rfl, hK0⟩
              · skip
                refine V_skip ?_
                refine X_then ?_
                refine V_seq ?_
                refine V_region ?_
                refine OI_call { callee := (Callee.value (Operand.func 15)), args := #[], argTypes := #[] } 15 #[] (some 54) (by kernel_rfl) (by kernel_rfl) (by kernel_rfl) (known_spec _) ?_
                rintro _ w40 ⟨rfl, hk41⟩
                refine ⟨_, rfl, ?_⟩
                replace hb1 := hb1.keep hk41 (fun f => f)
                have hb1lt := hb1.lt
                replace hK0 := Keep.tr hK0 (Keep.ofNone hk41); have hzhK0 := Keep.size hK0
                replace hag1 := Ag.keep0 hag1 hk41
                replace hk10 := Keep.tr hk10 (Keep.ofNone hk41); have hzhk10 := Keep.size hk10
                refine OI_static 2 [(4, .bool true)] (by kernel_rfl) ?_
                refine OI_end rfl ?_
                refine X_then ?_
                refine V_ret ?_
                exact X_return (.bool true) rfl ⟨rfl, hK0⟩

theorem walk_AgendaFull_neg (n : Int) (t : Tk) (h : n < 0) (w : World) : Calls Try.prog 4 #[.int .i64 n, .agg t.cells.toArray] w fun e w' => e = .returned (.bool true) ∧ Keep none_ w w' := by
  have hK0 : Keep none_ w w := Keep.refl _ _
  have hzhK0 := Keep.size hK0
  refine enterV Try.func4 rfl [.int .i64 n, .agg (Tk.cells t).toArray] 55 rfl rfl rfl ?_
  refine V_pick [(0, .int .i64 n), (1, .agg (Tk.cells t).toArray)] rfl ?_
  refine V_seq ?_
  refine V_region ?_
  refine OI_box 28 (.tmp 1) (.agg (Tk.cells t).toArray) (Tk.cells t) (some 3) (by kernel_rfl) (by kernel_rfl) rfl ?_
  intro b1 w1 e1 hb1 k1 z1
  replace hK0 := Keep.tr hK0 (Keep.ofNone k1); have hzhK0 := Keep.size hK0
  have hb1lt := hb1.lt
  refine OI_static 2 [(0, .int .i64 n), (3, .pointer (some ⟨b1, 0, none⟩))] (by kernel_rfl) ?_
  refine OI_end rfl ?_
  refine X_then ?_
  refine V_seq ?_
  refine V_seq ?_
  refine V_region ?_
  refine OI_static 3 [(0, .int .i64 n), (3, .pointer (some ⟨b1, 0, none⟩)), (9, .bool (decide (n < 0)))] (by kernel_rfl) ?_
  by_cases hg2 : n < 0
  · skip
    refine OI_eq [(0, .int .i64 n), (3, .pointer (some ⟨b1, 0, none⟩)), (9, .bool true)] (by simp [hg2]) ?_
    refine OI_static 6 [(0, .int .i64 n), (3, .pointer (some ⟨b1, 0, none⟩)), (12, .bool true)] (by kernel_rfl) ?_
    refine OI_end rfl ?_
    refine X_then ?_
    refine V_true rfl ?_
    refine V_seq ?_
    refine V_region ?_
    refine OI_static 1 [(4, .bool true)] (by kernel_rfl) ?_
    refine OI_end rfl ?_
    refine X_then ?_
    refine V_ret ?_
    refine X_ret_then ?_
    exact X_return (.bool true) rfl ⟨rfl, hK0⟩
  · skip
    exact (by omega : False).elim

def ksT : List CK := [.int .i64, .int .i64, .int .i64, .int .u8, .int .u8, .int .u8, .int .u8, .int .u8, .int .u8, .int .u8, .int .u8, .int .u8, .int .u8, .int .u8, .int .u8, .int .u8, .int .u8, .int .u8, .int .u8, .int .u8, .int .u8, .int .u8, .int .u8, .int .u8, .int .u8, .int .u8, .int .u8, .int .u8, .int .u8, .int .u8, .int .u8, .int .u8, .int .u8, .int .u8, .int .u8, .int .i64]
theorem lift_tk (x : List Value) (h : Flat ksT x) : ∃ t : Tk, t.cells = x := by
  cases x with
  | nil => exact h.elim
  | cons a x =>
    cases x with
    | nil => exact h.2.elim
    | cons b x =>
      cases x with
      | nil => exact h.2.2.elim
      | cons c x =>
        obtain ⟨⟨n, rfl, _⟩, ⟨m, rfl, _⟩, ⟨q, rfl, _⟩, hr⟩ := h
        exact ⟨⟨n, m, q, x, hr.length, hr.one⟩, rfl⟩
theorem over_AgendaFull (n : Int) {H : Type} {enc : TypeId × Value → H} {c : Array Value} {d : DataW H} {ps : List MemPlace} {w : World} (h : DataW.Trod enc Try.prog w 0 (fun _ => true) true 28 (.agg c) d ps) : Calls Try.prog 4 #[.int .i64 n, .agg c] w fun e w' => e = .returned (.bool true) ∧ Keep none_ w w' := by
  have hf := read_agg (n := 4) (ks := ksT) (by kernel_rfl) h
  obtain ⟨t, ht⟩ := lift_tk _ hf
  have hc : c = t.cells.toArray := by rw [ht]
  subst hc
  by_cases hn : n < 0
  · exact walk_AgendaFull_neg n t hn w
  · obtain ⟨m, rfl⟩ : ∃ x : Nat, n = x := ⟨n.toNat, by omega⟩
    exact walk_AgendaFull m t w
end Go.Al
