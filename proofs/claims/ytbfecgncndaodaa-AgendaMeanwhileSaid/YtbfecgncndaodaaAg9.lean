/-
  Walks of the laws of the agenda: a nil agenda.
-/
import Derived.Test.YtbfecgncndaodaaAg8
namespace Go.Al
open Go Go.RowKit Go.Proofs
theorem put_nil (t : Tk) (w : World) : Calls Try.prog 12 #[.pointer none, .agg t.cells.toArray] w fun e w' => e = .returned (.int .i64 1) ∧ Keep none_ w w' := by
  have hK0 : Keep none_ w w := Keep.refl _ _
  have hzhK0 := Keep.size hK0
  refine enterV Try.func12 rfl [.pointer none, .agg (Tk.cells t).toArray] 59 rfl rfl rfl ?_
  refine V_pick [(0, .pointer none), (1, .agg (Tk.cells t).toArray)] rfl ?_
  refine V_seq ?_
  refine V_region ?_
  refine OI_box 28 (.tmp 1) (.agg (Tk.cells t).toArray) (Tk.cells t) (some 3) (by kernel_rfl) (by kernel_rfl) rfl ?_
  intro b1 w1 e1 hb1 k1 z1
  replace hK0 := Keep.tr hK0 (Keep.ofNone k1); have hzhK0 := Keep.size hK0
  have hb1lt := hb1.lt
  refine OI_static 2 [(0, .pointer none), (3, .pointer (some ⟨b1, 0, none⟩))] (by kernel_rfl) ?_
  refine OI_end rfl ?_
  refine X_then ?_
  refine V_seq ?_
  refine V_block ?_
  refine V_seq ?_
  refine V_region ?_
  refine OI_static 18 [(0, .pointer none), (3, .pointer (some ⟨b1, 0, none⟩)), (7, .bool true)] (by kernel_rfl) ?_
  refine OI_end rfl ?_
  refine X_then ?_
  refine V_true rfl ?_
  refine V_seq ?_
  refine V_region ?_
  refine OI_static 1 [(4, .int .i64 1)] (by kernel_rfl) ?_
  refine OI_end rfl ?_
  refine X_then ?_
  refine V_ret ?_
  refine X_ret_block ?_
  refine X_ret_then ?_
  exact X_return (.int .i64 1) rfl ⟨rfl, hK0⟩

theorem cancel_nil (nm : Int) (w : World) : Calls Try.prog 18 #[.pointer none, .int .i64 nm] w fun e w' => e = .returned (.bool false) ∧ Keep none_ w w' := by
  have hK0 : Keep none_ w w := Keep.refl _ _
  have hzhK0 := Keep.size hK0
  refine enterV Try.func18 rfl [.pointer none, .int .i64 nm] 25 rfl rfl rfl ?_
  refine V_pick [(0, .pointer none), (1, .int .i64 nm)] rfl ?_
  refine V_seq ?_
  refine V_region ?_
  refine OI_static 1 [(0, .pointer none), (1, .int .i64 nm)] (by kernel_rfl) ?_
  refine OI_end rfl ?_
  refine X_then ?_
  refine V_seq ?_
  refine V_seq ?_
  refine V_region ?_
  refine OI_static 2 [(0, .pointer none), (1, .int .i64 nm), (7, .bool true)] (by kernel_rfl) ?_
  refine OI_end rfl ?_
  refine X_then ?_
  refine V_true rfl ?_
  refine V_seq ?_
  refine V_region ?_
  refine OI_static 1 [(4, .bool false)] (by kernel_rfl) ?_
  refine OI_end rfl ?_
  refine X_then ?_
  refine V_ret ?_
  refine X_ret_then ?_
  exact X_return (.bool false) rfl ⟨rfl, hK0⟩

theorem due_nil (now most : Int) (w : World) : Calls Try.prog 13 #[.pointer none, .int .i64 now, .int .i64 most] w fun e w' => e = .returned (.slice none 0 0) ∧ Keep none_ w w' := by
  have hK0 : Keep none_ w w := Keep.refl _ _
  have hzhK0 := Keep.size hK0
  refine enterV Try.func13 rfl [.pointer none, .int .i64 now, .int .i64 most] 54 rfl rfl rfl ?_
  refine V_pick [(0, .pointer none), (1, .int .i64 now), (2, .int .i64 most)] rfl ?_
  refine V_seq ?_
  refine V_region ?_
  refine OI_static 1 [(0, .pointer none), (1, .int .i64 now), (2, .int .i64 most)] (by kernel_rfl) ?_
  refine OI_end rfl ?_
  refine X_then ?_
  refine V_seq ?_
  refine V_seq ?_
  refine V_region ?_
  refine OI_static 2 [(0, .pointer none), (1, .int .i64 now), (2, .int .i64 most), (10, .bool true)] (by kernel_rfl) ?_
  refine OI_end rfl ?_
  refine X_then ?_
  refine V_true rfl ?_
  refine V_seq ?_
  refine V_region ?_
  refine OI_static 1 [(6, .slice none 0 0)] (by kernel_rfl) ?_
  refine OI_end rfl ?_
  refine X_then ?_
  refine V_ret ?_
  refine X_ret_then ?_
  exact X_return (.slice none 0 0) rfl ⟨rfl, hK0⟩

theorem all1_nil (c : Nat) (enc : Nat → Array Value) : Iter Try.prog 30 #[.pointer (some ⟨c, 0, none⟩)] 0 enc (fun W => Blk W c [.pointer none] 23) (fun _ => True) := by
  intro l J Jx w hc hJ hJx hY hOk h0
  have hclt := hc.lt
  show Calls Try.prog 30 #[.func (.yield l) #[] #[], .pointer (some ⟨c, 0, none⟩)] w _
  have hK0 : Keep none_ w w := Keep.refl _ _
  have hzhK0 := Keep.size hK0
  refine enterV Try.func30 rfl [.func (.yield l) #[] #[], .pointer (some ⟨c, 0, none⟩)] 21 rfl rfl rfl ?_
  refine V_pick [(0, .func (.yield l) #[] #[]), (1, .pointer (some ⟨c, 0, none⟩))] rfl ?_
  refine V_seq ?_
  refine V_seq ?_
  refine V_region ?_
  refine OI_cell 23 (.tmp 1) 0 (.pointer none) (some 5) (by kernel_rfl) (by kernel_rfl) hc (m := 1) (by kernel_rfl) rfl ?_
  refine OI_static 2 [(0, .func (.yield l) #[] #[]), (1, .pointer (some ⟨c, 0, none⟩)), (6, .bool true)] (by kernel_rfl) ?_
  refine OI_end rfl ?_
  refine X_then ?_
  refine V_true rfl ?_
  refine V_ret ?_
  refine X_ret_then ?_
  exact X_return _ rfl ⟨⟨_, rfl⟩, .inl (hJ _ _ _ h0 (Keep.ofNone hK0))⟩

theorem all_nil (w : World) : Calls Try.prog 16 #[.pointer none] w fun e w' => e = .returned (.tuple #[.slice none 0 0, .bool true]) ∧ Keep none_ w w' := by
  have hK0 : Keep none_ w w := Keep.refl _ _
  have hzhK0 := Keep.size hK0
  refine enterM Try.func16 rfl [.pointer none] 21 rfl rfl rfl ?_
  refine V_pick [(0, .pointer none)] rfl ?_
  refine V_seq ?_
  refine V_region ?_
  refine OI_alloc 31 (.slice none 0 0) [.slice none 0 0] (some 2) (by kernel_rfl) (by kernel_rfl) (by kernel_rfl) ?_
  intro b1 w1 e1 hb1 k1 z1
  replace hK0 := Keep.tr hK0 (Keep.ofNone k1); have hzhK0 := Keep.size hK0
  have hb1lt := hb1.lt
  refine OI_alloc 4 (.bool false) [.bool false] (some 3) (by kernel_rfl) (by kernel_rfl) (by kernel_rfl) ?_
  intro b2 w2 e2 hb2 k2 z2
  replace hb1 := hb1.keep k2 (fun f => f)
  have hb1lt := hb1.lt
  replace hK0 := Keep.tr hK0 (Keep.ofNone k2); have hzhK0 := Keep.size hK0
  have hb2lt := hb2.lt
  refine OI_end rfl ?_
  refine X_then ?_
  refine V_seq ?_
  refine V_region ?_
  refine OI_static 1 [(2, .pointer (some ⟨b1, 0, none⟩)), (3, .pointer (some ⟨b2, 0, none⟩)), (7, .pointer none)] (by kernel_rfl) ?_
  refine OI_call { callee := (Callee.value (Operand.func 22)), args := #[(Operand.tmp 7)], argTypes := #[23] } 22 #[.pointer none] (some 8) (by kernel_rfl) (by kernel_rfl) (by kernel_rfl) (allfn_spec _ rfl _) ?_
  rintro _ w3 ⟨c5, rfl, hc5, hk4, hgec5⟩
  refine ⟨_, rfl, ?_⟩
  replace hb1 := hb1.keep hk4 (fun f => f)
  have hb1lt := hb1.lt
  replace hb2 := hb2.keep hk4 (fun f => f)
  have hb2lt := hb2.lt
  replace hK0 := Keep.tr hK0 (Keep.ofNone hk4); have hzhK0 := Keep.size hK0
  have hc5lt := hc5.lt
  refine OI_static 3 [(2, .pointer (some ⟨b1, 0, none⟩)), (3, .pointer (some ⟨b2, 0, none⟩)), (4, .func (.func 30) #[] #[.pointer (some ⟨c5, 0, none⟩)])] (by kernel_rfl) ?_
  refine OI_end rfl ?_
  refine X_then ?_
  refine V_seq ?_
  refine V_seq ?_
  refine V_region ?_
  refine OI_static 2 [(2, .pointer (some ⟨b1, 0, none⟩)), (3, .pointer (some ⟨b2, 0, none⟩)), (4, .func (.func 30) #[] #[.pointer (some ⟨c5, 0, none⟩)]), (10, .bool false)] (by kernel_rfl) ?_
  refine OI_end rfl ?_
  refine X_then ?_
  refine V_false rfl ?_
  refine V_skip ?_
  refine X_then ?_
  refine V_seq ?_
  refine V_region ?_
  refine OI_alloc 31 (.slice none 0 0) [.slice none 0 0] (some 5) (by kernel_rfl) (by kernel_rfl) (by kernel_rfl) ?_
  intro b6 w6 e6 hb6 k6 z6
  replace hb1 := hb1.keep k6 (fun f => f)
  have hb1lt := hb1.lt
  replace hb2 := hb2.keep k6 (fun f => f)
  have hb2lt := hb2.lt
  replace hc5 := hc5.keep k6 (fun f => f)
  have hc5lt := hc5.lt
  replace hK0 := Keep.tr hK0 (Keep.ofNone k6); have hzhK0 := Keep.size hK0
  have hb6lt := hb6.lt
  refine OI_end rfl ?_
  refine X_then ?_
  refine V_seq ?_
  refine V_seq ?_
  refine V_region ?_
  refine OI_static 1 [(2, .pointer (some ⟨b1, 0, none⟩)), (3, .pointer (some ⟨b2, 0, none⟩)), (5, .pointer (some ⟨b6, 0, none⟩)), (11, .func (.func 30) #[] #[.pointer (some ⟨c5, 0, none⟩)])] (by kernel_rfl) ?_
  refine OI_end rfl ?_
  refine X_then ?_
  refine V_block ?_
  refine V_pick [(2, .pointer (some ⟨b1, 0, none⟩)), (3, .pointer (some ⟨b2, 0, none⟩)), (5, .pointer (some ⟨b6, 0, none⟩)), (11, .func (.func 30) #[] #[.pointer (some ⟨c5, 0, none⟩)])] rfl ?_
  have hN0 : w.heap.size ≤ w6.heap.size := hzhK0
  refine V_range (gf := 30) (caps := #[.pointer (some ⟨c5, 0, none⟩)]) (enc := fun _ => #[undef]) (by kernel_rfl) (by kernel_rfl) (by kernel_rfl) (all1_nil c5 _) hc5 (fun W W' h k => Blk.quiet h k) (fun _ => rfl) (fun k W => Blk W b6 [.slice none 0 0] 31 ∧ Blk W b1 [.slice none 0 0] 31 ∧ Blk W b2 [.bool false] 4 ∧ Keep none_ w W) (fun _ _ _ => False) (fun k W W' h hk => by obtain ⟨h1, h4, h5, h7⟩ := h; exact ⟨h1.quiet hk, h4.quiet hk, h5.quiet hk, h7.quiet hk hN0⟩) (fun _ _ _ _ h _ => h.elim) ⟨hb6, hb1, hb2, hK0⟩ (fun k W h => trivial) (fun _ _ _ _ _ _ _ h => absurd h (Nat.not_lt_zero _)) ?_ (fun _ _ _ _ _ _ h _ => h.elim)
  intro D W hD ⟨hb5, hb2, hb3, hK0⟩ hDD
  have hzhK0 := Keep.size hK0
  have hb6lt := hb5.lt
  have hb1lt := hb2.lt
  have hb2lt := hb3.lt
  refine X_block ?_
  refine X_then ?_
  refine V_seq ?_
  refine V_region ?_
  refine OI_cell 31 (.tmp 5) 0 (.slice none 0 0) (some 20) (by kernel_rfl) (by kernel_rfl) hb5 (m := 1) (by kernel_rfl) rfl ?_
  refine OI_set (m := 1) (kd := false) 31 (.tmp 2) (.tmp 20) 0 (.slice none 0 0) [.slice none 0 0] none (by kernel_rfl) (by kernel_rfl) (by kernel_rfl) hb2 (by kernel_rfl) (by kernel_rfl) (by kernel_rfl) (Nat.le_of_ble_eq_true (by kernel_rfl)) (by simp [Value.oneCell']) ?_
  intro w7 hb1_10 hk8 hz9
  replace hb1_10 : Blk w7 b1 [.slice none 0 0] 31 := hb1_10
  replace hb5 := hb5.keep hk8 (by show ¬ (_ = _); omega)
  have hb6lt := hb5.lt
  replace hb3 := hb3.keep hk8 (by show ¬ (_ = _); omega)
  have hb2lt := hb3.lt
  replace hK0 := Keep.fresh hK0 hk8 (by intro i hi hs; first | exact hs | exact Or.inl hs | exact Or.inr hs | (exfalso; have hs2 : i = b1 := hs; omega)); have hzhK0 := Keep.size hK0
  replace hDD := (Keep.block hk8 _ (Array.getElem?_eq_some_iff.1 hDD).1 (by show ¬ (_ = _); omega)).trans hDD
  refine OI_set (m := 1) (kd := false) 4 (.tmp 3) (.const (Value.bool true)) 0 (.bool true) [.bool true] none (by kernel_rfl) (by kernel_rfl) (by kernel_rfl) hb3 (by kernel_rfl) (by kernel_rfl) (by kernel_rfl) (Nat.le_of_ble_eq_true (by kernel_rfl)) (by simp [Value.oneCell']) ?_
  intro w11 hb2_14 hk12 hz13
  replace hb2_14 : Blk w11 b2 [.bool true] 4 := hb2_14
  replace hb5 := hb5.keep hk12 (by show ¬ (_ = _); omega)
  have hb6lt := hb5.lt
  replace hb1_10 := hb1_10.keep hk12 (by show ¬ (_ = _); omega)
  have hb1lt := hb1_10.lt
  replace hK0 := Keep.fresh hK0 hk12 (by intro i hi hs; first | exact hs | exact Or.inl hs | exact Or.inr hs | (exfalso; have hs2 : i = b2 := hs; omega)); have hzhK0 := Keep.size hK0
  replace hDD := (Keep.block hk12 _ (Array.getElem?_eq_some_iff.1 hDD).1 (by show ¬ (_ = _); omega)).trans hDD
  refine OI_end rfl ?_
  refine X_then ?_
  refine V_ret ?_
  exact leave1 (.tuple #[.slice none 0 0, .bool true]) (.inl rfl) hDD (fun w' hk => ⟨res_cells2 (n1 := 1) (n2 := 1) rfl rfl rfl (by kernel_rfl) (by kernel_rfl) (Blk.quiet hb1_10 hk) (Blk.quiet hb2_14 hk), rfl, Keep.quiet hK0 hk (by omega)⟩)

theorem walk_AgendaOfNothing (t : Tk) (n : Int) (w : World) : Calls Try.prog 10 #[.agg t.cells.toArray, .int .i64 n] w fun e w' => e = .returned (.bool true) ∧ Keep none_ w w' := by
  have hK0 : Keep none_ w w := Keep.refl _ _
  have hzhK0 := Keep.size hK0
  refine enterV Try.func10 rfl [.agg (Tk.cells t).toArray, .int .i64 n] 43 rfl rfl rfl ?_
  refine V_pick [(0, .agg (Tk.cells t).toArray), (1, .int .i64 n)] rfl ?_
  refine V_seq ?_
  refine V_region ?_
  refine OI_box 28 (.tmp 0) (.agg (Tk.cells t).toArray) (Tk.cells t) (some 2) (by kernel_rfl) (by kernel_rfl) rfl ?_
  intro b1 w1 e1 hb1 k1 z1
  replace hK0 := Keep.tr hK0 (Keep.ofNone k1); have hzhK0 := Keep.size hK0
  have hb1lt := hb1.lt
  refine OI_static 2 [(1, .int .i64 n), (2, .pointer (some ⟨b1, 0, none⟩))] (by kernel_rfl) ?_
  refine OI_end rfl ?_
  refine X_then ?_
  refine V_seq ?_
  refine V_region ?_
  refine OI_static 1 [(1, .int .i64 n), (2, .pointer (some ⟨b1, 0, none⟩)), (5, .pointer none)] (by kernel_rfl) ?_
  refine OI_end rfl ?_
  refine X_then ?_
  refine V_seq ?_
  refine V_region ?_
  refine OI_static 1 [(1, .int .i64 n), (2, .pointer (some ⟨b1, 0, none⟩)), (5, .pointer none), (9, .pointer none)] (by kernel_rfl) ?_
  refine OI_call { callee := (Callee.value (Operand.func 16)), args := #[(Operand.tmp 9)], argTypes := #[23] } 16 #[.pointer none] (some 10) (by kernel_rfl) (by kernel_rfl) (by kernel_rfl) (all_nil _) ?_
  rintro _ w2 ⟨rfl, hk3⟩
  refine ⟨_, rfl, ?_⟩
  replace hb1 := hb1.keep hk3 (fun f => f)
  have hb1lt := hb1.lt
  replace hK0 := Keep.tr hK0 (Keep.ofNone hk3); have hzhK0 := Keep.size hK0
  refine OI_static 7 [(1, .int .i64 n), (2, .pointer (some ⟨b1, 0, none⟩)), (5, .pointer none), (6, .slice none 0 0)] (by kernel_rfl) ?_
  refine OI_end rfl ?_
  refine X_then ?_
  refine V_seq ?_
  refine V_region ?_
  refine OI_static 1 [(1, .int .i64 n), (2, .pointer (some ⟨b1, 0, none⟩)), (5, .pointer none), (6, .slice none 0 0), (13, .pointer none)] (by kernel_rfl) ?_
  refine OI_agg 28 (.tmp 2) 0 (Tk.cells t) (some 14) (by kernel_rfl) (by kernel_rfl) hb1 (m := 36) (by kernel_rfl) (take_all (Tk.len _)) (Tk.len _) ?_
  refine OI_call { callee := (Callee.value (Operand.func 12)), args := #[(Operand.tmp 13), (Operand.tmp 14)], argTypes := #[23, 28] } 12 #[.pointer none, .agg (Tk.cells t).toArray] (some 15) (by kernel_rfl) (by kernel_rfl) (by kernel_rfl) (put_nil t _) ?_
  rintro _ w4 ⟨rfl, hk5⟩
  refine ⟨_, rfl, ?_⟩
  replace hb1 := hb1.keep hk5 (fun f => f)
  have hb1lt := hb1.lt
  replace hK0 := Keep.tr hK0 (Keep.ofNone hk5); have hzhK0 := Keep.size hK0
  refine OI_static 7 [(1, .int .i64 n), (5, .pointer none), (6, .slice none 0 0), (17, .bool true), (18, .pointer none), (19, .int .i64 n)] (by kernel_rfl) ?_
  refine OI_call { callee := (Callee.value (Operand.func 18)), args := #[(Operand.tmp 18), (Operand.tmp 19)], argTypes := #[23, 3] } 18 #[.pointer none, .int .i64 n] (some 20) (by kernel_rfl) (by kernel_rfl) (by kernel_rfl) (cancel_nil n _) ?_
  rintro _ w6 ⟨rfl, hk7⟩
  refine ⟨_, rfl, ?_⟩
  replace hb1 := hb1.keep hk7 (fun f => f)
  have hb1lt := hb1.lt
  replace hK0 := Keep.tr hK0 (Keep.ofNone hk7); have hzhK0 := Keep.size hK0
  refine OI_static 13 [(5, .pointer none), (6, .slice none 0 0), (23, .bool true), (24, .pointer none), (25, .int .i64 n)] (by kernel_rfl) ?_
  refine OI_call { callee := (Callee.value (Operand.func 13)), args := #[(Operand.tmp 24), (Operand.tmp 25), (Operand.const (Value.int IntKind.i64 5))], argTypes := #[23, 3, 3] } 13 #[.pointer none, .int .i64 n, .int .i64 5] (some 26) (by kernel_rfl) (by kernel_rfl) (by kernel_rfl) (due_nil n 5 _) ?_
  rintro _ w8 ⟨rfl, hk9⟩
  refine ⟨_, rfl, ?_⟩
  replace hb1 := hb1.keep hk9 (fun f => f)
  have hb1lt := hb1.lt
  replace hK0 := Keep.tr hK0 (Keep.ofNone hk9); have hzhK0 := Keep.size hK0
  refine OI_static 19 [(6, .slice none 0 0), (30, .bool true), (31, .pointer none)] (by kernel_rfl) ?_
  refine OI_call { callee := (Callee.value (Operand.func 14)), args := #[(Operand.tmp 31)], argTypes := #[23] } 14 #[.pointer none] (some 32) (by kernel_rfl) (by kernel_rfl) (by kernel_rfl) (len_nil _) ?_
  rintro _ w8 ⟨rfl, rfl⟩
  refine ⟨_, rfl, ?_⟩
  refine OI_static 28 [(40, .bool true)] (by kernel_rfl) ?_
  refine OI_call { callee := (Callee.value (Operand.func 15)), args := #[], argTypes := #[] } 15 #[] (some 41) (by kernel_rfl) (by kernel_rfl) (by kernel_rfl) (known_spec _) ?_
  rintro _ w13 ⟨rfl, hk14⟩
  refine ⟨_, rfl, ?_⟩
  replace hb1 := hb1.keep hk14 (fun f => f)
  have hb1lt := hb1.lt
  replace hK0 := Keep.tr hK0 (Keep.ofNone hk14); have hzhK0 := Keep.size hK0
  refine OI_static 31 [(4, .bool true)] (by kernel_rfl) ?_
  refine OI_end rfl ?_
  refine X_then ?_
  refine V_ret ?_
  exact X_return (.bool true) rfl ⟨rfl, hK0⟩

theorem over_AgendaOfNothing {H : Type} {enc : TypeId × Value → H} {c : Array Value} {d : DataW H} {ps : List MemPlace} {w : World} (h : DataW.Trod enc Try.prog w 0 (fun _ => true) true 28 (.agg c) d ps) (n : Int) : Calls Try.prog 10 #[.agg c, .int .i64 n] w fun e w' => e = .returned (.bool true) ∧ Keep none_ w w' := by
  have hf := read_agg (n := 4) (ks := ksT) (by kernel_rfl) h
  obtain ⟨t, ht⟩ := lift_tk _ hf
  have hc : c = t.cells.toArray := by rw [ht]
  subst hc
  exact walk_AgendaOfNothing t n w
end Go.Al
