/-
  Walks of package ledger: locks.
-/
import Derived.Test.YtmflbilhdoiihaaLe2
namespace Go.Al
open Go Go.RowKit Go.Proofs
theorem locks_spec (l g : Nat) (sv : Value) (a : Int) (w : World) (hl : Blk w l [sv, .pointer (some ⟨g, 0, none⟩)] 66) : Calls Try.prog 37 #[.pointer (some ⟨l, 0, none⟩), .int .i64 a] w fun e w' => ∃ bg bs bn, e = .returned (.func (.func 68) #[] #[.pointer (some ⟨bg, 0, none⟩), .pointer (some ⟨bs, 0, none⟩), .pointer (some ⟨bn, 0, none⟩)]) ∧ Blk w' bg [.pointer (some ⟨g, 0, none⟩)] 62 ∧ Blk w' bs [.int .i64 0] 3 ∧ Blk w' bn [.int .i64 a] 3 ∧ Keep none_ w w' ∧ w.heap.size ≤ bg ∧ w.heap.size ≤ bs ∧ w.heap.size ≤ bn := by
  have hllt := hl.lt
  have hK0 : Keep none_ w w := Keep.refl _ _
  have hzhK0 := Keep.size hK0
  refine enterV Try.func37 rfl [.pointer (some ⟨l, 0, none⟩), .int .i64 a] 15 rfl rfl rfl ?_
  refine V_pick [(0, .pointer (some ⟨l, 0, none⟩)), (1, .int .i64 a)] rfl ?_
  refine V_seq ?_
  refine V_region ?_
  refine OI_static 1 [(0, .pointer (some ⟨l, 0, none⟩)), (1, .int .i64 a)] (by kernel_rfl) ?_
  refine OI_end rfl ?_
  refine X_then ?_
  refine V_seq ?_
  refine V_seq ?_
  refine V_region ?_
  refine OI_static 2 [(0, .pointer (some ⟨l, 0, none⟩)), (1, .int .i64 a), (6, .bool false)] (by kernel_rfl) ?_
  refine OI_end rfl ?_
  refine X_then ?_
  refine V_false rfl ?_
  refine V_skip ?_
  refine X_then ?_
  refine V_seq ?_
  refine V_region ?_
  refine OI_static 3 [(1, .int .i64 a), (11, .pointer (some ⟨l, 1, none⟩))] (by kernel_rfl) ?_
  refine OI_cell 62 (.tmp 11) 1 (.pointer (some ⟨g, 0, none⟩)) (some 12) (by kernel_rfl) (by kernel_rfl) hl (m := 1) (by kernel_rfl) rfl ?_
  refine OI_static 5 [(12, .pointer (some ⟨g, 0, none⟩)), (13, .int .i64 a)] (by kernel_rfl) ?_
  refine OI_call { callee := (Callee.value (Operand.func 55)), args := #[(Operand.tmp 12), (Operand.tmp 13)], argTypes := #[62, 3] } 55 #[.pointer (some ⟨g, 0, none⟩), .int .i64 a] (some 14) (by kernel_rfl) (by kernel_rfl) (by kernel_rfl) (row_spec _ rfl a _) ?_
  rintro _ w1 ⟨bg3, bs4, bn5, rfl, hbg3, hbs4, hbn5, hk2, hgebg3, hgebs4, hgebn5⟩
  refine ⟨_, rfl, ?_⟩
  have hsz6 := Keep.size hk2
  replace hl := hl.keep hk2 (fun f => f)
  have hllt := hl.lt
  replace hK0 := Keep.tr hK0 (Keep.ofNone hk2); have hzhK0 := Keep.size hK0
  have hbg3lt := hbg3.lt
  have hbs4lt := hbs4.lt
  have hbn5lt := hbn5.lt
  refine OI_static 7 [(4, .func (.func 68) #[] #[.pointer (some ⟨bg3, 0, none⟩), .pointer (some ⟨bs4, 0, none⟩), .pointer (some ⟨bn5, 0, none⟩)])] (by kernel_rfl) ?_
  refine OI_end rfl ?_
  refine X_then ?_
  refine V_ret ?_
  exact X_return _ rfl ⟨bg3, bs4, bn5, rfl, hbg3, hbs4, hbn5, hK0, by omega, by omega, by omega⟩

theorem locks_nil (a : Int) (w : World) : Calls Try.prog 37 #[.pointer none, .int .i64 a] w fun e w' => ∃ bg bs bn, e = .returned (.func (.func 68) #[] #[.pointer (some ⟨bg, 0, none⟩), .pointer (some ⟨bs, 0, none⟩), .pointer (some ⟨bn, 0, none⟩)]) ∧ Blk w' bg [.pointer none] 62 ∧ Blk w' bs [.int .i64 0] 3 ∧ Blk w' bn [.int .i64 a] 3 ∧ Keep none_ w w' ∧ w.heap.size ≤ bg ∧ w.heap.size ≤ bs ∧ w.heap.size ≤ bn := by
  have hK0 : Keep none_ w w := Keep.refl _ _
  have hzhK0 := Keep.size hK0
  refine enterV Try.func37 rfl [.pointer none, .int .i64 a] 15 rfl rfl rfl ?_
  refine V_pick [(0, .pointer none), (1, .int .i64 a)] rfl ?_
  refine V_seq ?_
  refine V_region ?_
  refine OI_static 1 [(0, .pointer none), (1, .int .i64 a)] (by kernel_rfl) ?_
  refine OI_end rfl ?_
  refine X_then ?_
  refine V_seq ?_
  refine V_seq ?_
  refine V_region ?_
  refine OI_static 2 [(0, .pointer none), (1, .int .i64 a), (6, .bool true)] (by kernel_rfl) ?_
  refine OI_end rfl ?_
  refine X_then ?_
  refine V_true rfl ?_
  refine V_seq ?_
  refine V_region ?_
  refine OI_static 1 [(7, .int .i64 a)] (by kernel_rfl) ?_
  refine OI_call { callee := (Callee.value (Operand.func 55)), args := #[(Operand.const (Value.pointer none)), (Operand.tmp 7)], argTypes := #[62, 3] } 55 #[.pointer none, .int .i64 a] (some 8) (by kernel_rfl) (by kernel_rfl) (by kernel_rfl) (row_spec _ rfl a _) ?_
  rintro _ w1 ⟨bg3, bs4, bn5, rfl, hbg3, hbs4, hbn5, hk2, hgebg3, hgebs4, hgebn5⟩
  refine ⟨_, rfl, ?_⟩
  have hsz6 := Keep.size hk2
  replace hK0 := Keep.tr hK0 (Keep.ofNone hk2); have hzhK0 := Keep.size hK0
  have hbg3lt := hbg3.lt
  have hbs4lt := hbs4.lt
  have hbn5lt := hbn5.lt
  refine OI_static 3 [(4, .func (.func 68) #[] #[.pointer (some ⟨bg3, 0, none⟩), .pointer (some ⟨bs4, 0, none⟩), .pointer (some ⟨bn5, 0, none⟩)])] (by kernel_rfl) ?_
  refine OI_end rfl ?_
  refine X_then ?_
  refine V_ret ?_
  refine X_ret_then ?_
  exact X_return _ rfl ⟨bg3, bs4, bn5, rfl, hbg3, hbs4, hbn5, hK0, by omega, by omega, by omega⟩

theorem locked_nil (a : Int) (w : World) : Calls Try.prog 16 #[.pointer none, .int .i64 a] w fun e w' => e = .returned (.int .i64 0) ∧ Keep none_ w w' := by
  have hK0 : Keep none_ w w := Keep.refl _ _
  have hzhK0 := Keep.size hK0
  refine enterM Try.func16 rfl [.pointer none, .int .i64 a] 17 rfl rfl rfl ?_
  refine V_pick [(0, .pointer none), (1, .int .i64 a)] rfl ?_
  refine V_seq ?_
  refine V_region ?_
  refine OI_static 1 [(0, .pointer none), (1, .int .i64 a), (4, .int .i64 0)] (by kernel_rfl) ?_
  refine OI_end rfl ?_
  refine X_then ?_
  refine V_seq ?_
  refine V_region ?_
  refine OI_alloc 3 (.int .i64 0) [.int .i64 0] (some 5) (by kernel_rfl) (by kernel_rfl) (by kernel_rfl) ?_
  intro b1 w1 e1 hb1 k1 z1
  have hsz2 := Keep.size k1
  replace hK0 := Keep.tr hK0 (Keep.ofNone k1); have hzhK0 := Keep.size hK0
  have hb1lt := hb1.lt
  refine OI_set (m := 1) (kd := false) 3 (.tmp 5) (.const (Value.int IntKind.i64 0)) 0 (.int .i64 0) [.int .i64 0] none (by kernel_rfl) (by kernel_rfl) (by kernel_rfl) hb1 (by kernel_rfl) (by kernel_rfl) (by kernel_rfl) (Nat.le_of_ble_eq_true (by kernel_rfl)) (by simp [Value.oneCell']) ?_
  intro w3 hb1_6 hk4 hz5
  replace hb1_6 : Blk w3 b1 [.int .i64 0] 3 := hb1_6
  have hsz7 := Keep.size hk4
  replace hK0 := Keep.fresh hK0 hk4 (by intro i hi hs; first | exact hs | exact Or.inl hs | exact Or.inr hs | (exfalso; have hs2 : i = b1 := hs; omega)); have hzhK0 := Keep.size hK0
  refine OI_end rfl ?_
  refine X_then ?_
  refine V_seq ?_
  refine V_seq ?_
  refine V_region ?_
  refine OI_static 2 [(4, .int .i64 0), (5, .pointer (some ⟨b1, 0, none⟩)), (8, .pointer none), (9, .int .i64 a)] (by kernel_rfl) ?_
  refine OI_call { callee := (Callee.value (Operand.func 37)), args := #[(Operand.tmp 8), (Operand.tmp 9)], argTypes := #[22, 3] } 37 #[.pointer none, .int .i64 a] (some 10) (by kernel_rfl) (by kernel_rfl) (by kernel_rfl) (locks_nil a _) ?_
  rintro _ w8 ⟨bg10, bs11, bn12, rfl, hbg10, hbs11, hbn12, hk9, hgebg10, hgebs11, hgebn12⟩
  refine ⟨_, rfl, ?_⟩
  have hsz13 := Keep.size hk9
  replace hb1_6 := hb1_6.keep hk9 (fun f => f)
  have hb1lt := hb1_6.lt
  replace hK0 := Keep.tr hK0 (Keep.ofNone hk9); have hzhK0 := Keep.size hK0
  have hbg10lt := hbg10.lt
  have hbs11lt := hbs11.lt
  have hbn12lt := hbn12.lt
  refine OI_end rfl ?_
  refine X_then ?_
  refine V_block ?_
  refine V_pick [(5, .pointer (some ⟨b1, 0, none⟩)), (10, .func (.func 68) #[] #[.pointer (some ⟨bg10, 0, none⟩), .pointer (some ⟨bs11, 0, none⟩), .pointer (some ⟨bn12, 0, none⟩)])] rfl ?_
  have hN0 : w.heap.size ≤ w8.heap.size := hzhK0
  refine V_range2 (gf := 68) (caps := #[.pointer (some ⟨bg10, 0, none⟩), .pointer (some ⟨bs11, 0, none⟩), .pointer (some ⟨bn12, 0, none⟩)]) (m := 0) (by kernel_rfl) (by kernel_rfl) (by kernel_rfl) (along1_nil bg10 bs11 bn12 0 (fun _ => #[undef, undef]) a) (⟨hbg10, trivial⟩) (fun W W' h k => ⟨h.1.quiet k, trivial⟩) (fun _ => rfl) (fun M1 k W => (Blk W b1 [.int .i64 0] 3) ∧ (Keep none_ w W)) (fun M1 c k W => False) (fun M1 k W W' h hk => by obtain ⟨jb1, jhK0⟩ := h; exact ⟨jb1.quiet hk, jhK0.quiet hk (by omega)⟩) (fun _ _ _ _ _ h _ => h.elim) (fun M1 hM1 => ⟨hb1_6, hK0⟩) (fun M1 k W h => by obtain ⟨jb1, jhK0⟩ := h; exact trivial) ?_ ?_ (fun _ _ _ _ _ _ _ _ h _ => h.elim)
  · skip
    intro lp D M1 k W hD hl hM hMW hkm ⟨jb1, jhK0⟩ ⟨rr, hrr⟩ hDD
    exact absurd hkm (Nat.not_lt_zero _)
  · skip
    intro D M1 W hD hM ⟨jb1, jhK0⟩ hDD
    have hzjhK0 := Keep.size jhK0
    have hb1lt := jb1.lt
    refine X_block ?_
    refine X_then ?_
    refine V_seq ?_
    refine V_region ?_
    refine OI_cell 3 (.tmp 5) 0 (.int .i64 0) (some 16) (by kernel_rfl) (by kernel_rfl) jb1 (m := 1) (by kernel_rfl) rfl ?_
    refine OI_static 2 [(4, .int .i64 0)] (by kernel_rfl) ?_
    refine OI_end rfl ?_
    refine X_then ?_
    refine V_ret ?_
    exact leave1 (.int .i64 0) (.inl rfl) hDD (fun w' hk => ⟨res_tmps rfl, ⟨rfl, Keep.quiet jhK0 hk (by omega)⟩⟩)

theorem locked_spec (F : Nat → Prop) (l : Nat) (xs : List Acc) (cs : List Ci) (a : Int) (w : World) (h : Led F w l xs cs) : Calls Try.prog 16 #[.pointer (some ⟨l, 0, none⟩), .int .i64 a] w fun e w' => e = .returned (.int .i64 (lockedL cs a)) ∧ Keep none_ w w' := by
  obtain ⟨hinv, hFl, hFlt, g, A, cap, D, hat, hG, hAF, hDF, hAD⟩ := h
  have hl := hat.blk
  have hA := hat.sl
  have hllt := hl.lt
  have hAl : ∀ q, inA A q → q ≠ l := fun q hq => (hAF q hq).2
  have hAlt := SlT.lt hA
  have hDl : ∀ q, D q → q ≠ l := fun q hq => (hDF q hq).2
  have hDlt := Grd.lt hG
  have hx10 := hinv.1
  have hcl := hG.len
  have hK0 : Keep none_ w w := Keep.refl _ _
  have hzhK0 := Keep.size hK0
  refine enterM Try.func16 rfl [.pointer (some ⟨l, 0, none⟩), .int .i64 a] 17 rfl rfl rfl ?_
  refine V_pick [(0, .pointer (some ⟨l, 0, none⟩)), (1, .int .i64 a)] rfl ?_
  refine V_seq ?_
  refine V_region ?_
  refine OI_static 1 [(0, .pointer (some ⟨l, 0, none⟩)), (1, .int .i64 a), (4, .int .i64 0)] (by kernel_rfl) ?_
  refine OI_end rfl ?_
  refine X_then ?_
  refine V_seq ?_
  refine V_region ?_
  refine OI_alloc 3 (.int .i64 0) [.int .i64 0] (some 5) (by kernel_rfl) (by kernel_rfl) (by kernel_rfl) ?_
  intro b1 w1 e1 hb1 k1 z1
  have hsz2 := Keep.size k1
  replace hl := hl.keep k1 (fun f => f)
  have hllt := hl.lt
  replace hA := SlT.keep0 hA k1
  replace hG := Grd.keep hG k1 (fun _ _ f => f)
  replace hK0 := Keep.tr hK0 (Keep.ofNone k1); have hzhK0 := Keep.size hK0
  have hb1lt := hb1.lt
  refine OI_set (m := 1) (kd := false) 3 (.tmp 5) (.const (Value.int IntKind.i64 0)) 0 (.int .i64 0) [.int .i64 0] none (by kernel_rfl) (by kernel_rfl) (by kernel_rfl) hb1 (by kernel_rfl) (by kernel_rfl) (by kernel_rfl) (Nat.le_of_ble_eq_true (by kernel_rfl)) (by simp [Value.oneCell']) ?_
  intro w3 hb1_6 hk4 hz5
  replace hb1_6 : Blk w3 b1 [.int .i64 0] 3 := hb1_6
  have hsz7 := Keep.size hk4
  replace hl := hl.keep hk4 (by show ¬ (_ = _); omega)
  have hllt := hl.lt
  replace hA := SlT.keep hA hk4 (fun q hq hs => by have hs : q = b1 := hs; have g0 := hAl q hq; have g1 := hAlt q hq; omega)
  replace hG := Grd.keep hG hk4 (fun q hq hs => by have hs : q = b1 := hs; have g0 := hDl q hq; have g1 := hDlt q hq; omega)
  replace hK0 := Keep.fresh hK0 hk4 (by intro i hi hs; first | exact hs | exact Or.inl hs | exact Or.inr hs | (exfalso; have hs2 : i = b1 := hs; omega)); have hzhK0 := Keep.size hK0
  refine OI_end rfl ?_
  refine X_then ?_
  refine V_seq ?_
  refine V_seq ?_
  refine V_region ?_
  refine OI_static 2 [(4, .int .i64 0), (5, .pointer (some ⟨b1, 0, none⟩)), (8, .pointer (some ⟨l, 0, none⟩)), (9, .int .i64 a)] (by kernel_rfl) ?_
  refine OI_call { callee := (Callee.value (Operand.func 37)), args := #[(Operand.tmp 8), (Operand.tmp 9)], argTypes := #[22, 3] } 37 #[.pointer (some ⟨l, 0, none⟩), .int .i64 a] (some 10) (by kernel_rfl) (by kernel_rfl) (by kernel_rfl) (locks_spec l g _ a _ hl) ?_
  rintro _ w8 ⟨bg10, bs11, bn12, rfl, hbg10, hbs11, hbn12, hk9, hgebg10, hgebs11, hgebn12⟩
  refine ⟨_, rfl, ?_⟩
  have hsz13 := Keep.size hk9
  replace hl := hl.keep hk9 (fun f => f)
  have hllt := hl.lt
  replace hb1_6 := hb1_6.keep hk9 (fun f => f)
  have hb1lt := hb1_6.lt
  replace hA := SlT.keep0 hA hk9
  replace hG := Grd.keep hG hk9 (fun _ _ f => f)
  replace hK0 := Keep.tr hK0 (Keep.ofNone hk9); have hzhK0 := Keep.size hK0
  have hbg10lt := hbg10.lt
  have hbs11lt := hbs11.lt
  have hbn12lt := hbn12.lt
  refine OI_end rfl ?_
  refine X_then ?_
  refine V_block ?_
  obtain ⟨_, _, _, _, A2, cap2, hat2, hAD2⟩ := hG
  have hA2 := hat2.sl
  have owA2 : ∀ q, inA A2 q → q < w.heap.size := fun q hq => hDlt q (hAD2 q hq)
  refine V_pick [(5, .pointer (some ⟨b1, 0, none⟩)), (10, .func (.func 68) #[] #[.pointer (some ⟨bg10, 0, none⟩), .pointer (some ⟨bs11, 0, none⟩), .pointer (some ⟨bn12, 0, none⟩)])] rfl ?_
  have hN0 : w.heap.size ≤ w8.heap.size := hzhK0
  refine V_range2 (gf := 68) (caps := #[.pointer (some ⟨bg10, 0, none⟩), .pointer (some ⟨bs11, 0, none⟩), .pointer (some ⟨bn12, 0, none⟩)]) (m := (rowL a cs).length) (by kernel_rfl) (by kernel_rfl) (by kernel_rfl) (along1_iter0 bg10 bs11 bn12 g cap2 A2 cs a (by omega)) (⟨hbg10, hat2, ⟨hbs11, hbn12, hA2⟩⟩) (fun W W' h k => ⟨h.1.quiet k, h.2.1.quiet k, h.2.2.quiet k⟩) (enc2_size _) (fun M1 k W => (Blk W bs11 [.int .i64 0] 3) ∧ (Blk W bn12 [.int .i64 a] 3) ∧ (SlT W 3 Ci.cells A2 cap2 cs) ∧ (Keep none_ w W) ∧ (Blk W b1 [.int .i64 (lockM ((rowL a cs).take k) 0)] 3)) (fun M1 c k W => False) (fun M1 k W W' h hk => by obtain ⟨jbs11, jbn12, jA2, jhK0, jb1⟩ := h; exact ⟨jbs11.quiet hk, jbn12.quiet hk, jA2.quiet hk, jhK0.quiet hk (by omega), jb1.quiet hk⟩) (fun _ _ _ _ _ h _ => h.elim) (fun M1 hM1 => ⟨hbs11, hbn12, hA2, hK0, hb1_6⟩) (fun M1 k W h => by obtain ⟨jbs11, jbn12, jA2, jhK0, jb1⟩ := h; exact ⟨jbs11, jbn12, jA2⟩) ?_ ?_ (fun _ _ _ _ _ _ _ _ h _ => h.elim)
  · skip
    intro lp D M1 k W hD hl hM hMW hkm ⟨jbs11, jbn12, jA2, jhK0, jb1⟩ ⟨rr, hrr⟩ hDD
    have hzjhK0 := Keep.size jhK0
    have hb1lt := jb1.lt
    have hbs11lt := jbs11.lt
    have hbn12lt := jbn12.lt
    have ltjA2 := SlT.lt jA2
    obtain ⟨x, hx⟩ : ∃ x, (rowL a cs)[k]? = some x := ⟨_, List.getElem?_eq_getElem hkm⟩
    rw [enc2_at hx]
    have hstp : lockM ((rowL a cs).take (k + 1)) 0 = if x.2 > lockM ((rowL a cs).take k) 0 then x.2 else lockM ((rowL a cs).take k) 0 := by obtain ⟨h1, h2⟩ := List.getElem?_eq_some_iff.1 hx; rw [List.take_succ_eq_append_getElem h1, h2, lockM_app]
    refine V_pick [(5, .pointer (some ⟨b1, 0, none⟩)), (12, .int .i64 x.2)] rfl ?_
    have hfen : Keep (fen w8.heap.size M1) W W := Keep.refl _ _
    have hzhfen := Keep.size hfen
    refine V_region ?_
    refine OI_static 1 [(5, .pointer (some ⟨b1, 0, none⟩)), (7, .int .i64 x.2)] (by kernel_rfl) ?_
    refine OI_end rfl ?_
    refine X_begin2 hfen ?_
    intro W2 hk2 ⟨r2, hr2⟩ hD2
    have hsz14 := Keep.size hk2
    replace jb1 := Blk.quiet jb1 hk2
    have hb1lt := jb1.lt
    replace jbs11 := Blk.quiet jbs11 hk2
    have hbs11lt := jbs11.lt
    replace jbn12 := Blk.quiet jbn12 hk2
    have hbn12lt := jbn12.lt
    replace jA2 := SlT.quiet jA2 hk2
    replace jhK0 := Keep.quiet jhK0 hk2 (by omega); have hzjhK0 := Keep.size jhK0
    have hzhk2 := Keep.size hk2
    have hfenb : Keep (fen w8.heap.size M1) W2 W2 := Keep.refl _ _
    have hzhfenb := Keep.size hfenb
    refine V_block ?_
    refine V_region ?_
    refine OI_cell 3 (.tmp 5) 0 (.int .i64 (lockM ((rowL a cs).take k) 0)) (some 13) (by kernel_rfl) (by kernel_rfl) jb1 (m := 1) (by kernel_rfl) rfl ?_
    refine OI_static 3 [(5, .pointer (some ⟨b1, 0, none⟩)), (15, .int .i64 (if x.2 > lockM ((rowL a cs).take k) 0 then x.2 else lockM ((rowL a cs).take k) 0))] (by kernel_rfl) ?_
    refine OI_set (m := 1) (kd := false) 3 (.tmp 5) (.tmp 15) 0 (.int .i64 (if x.2 > lockM ((rowL a cs).take k) 0 then x.2 else lockM ((rowL a cs).take k) 0)) [.int .i64 (if x.2 > lockM ((rowL a cs).take k) 0 then x.2 else lockM ((rowL a cs).take k) 0)] none (by kernel_rfl) (by kernel_rfl) (by kernel_rfl) jb1 (by kernel_rfl) (by kernel_rfl) (by kernel_rfl) (Nat.le_of_ble_eq_true (by kernel_rfl)) (by simp [Value.oneCell']) ?_
    intro w15 hb1_18 hk16 hz17
    replace hb1_18 : Blk w15 b1 [.int .i64 (if x.2 > lockM ((rowL a cs).take k) 0 then x.2 else lockM ((rowL a cs).take k) 0)] 3 := hb1_18
    have hsz19 := Keep.size hk16
    replace jbs11 := jbs11.keep hk16 (by show ¬ (_ = _); omega)
    have hbs11lt := jbs11.lt
    replace jbn12 := jbn12.keep hk16 (by show ¬ (_ = _); omega)
    have hbn12lt := jbn12.lt
    replace jA2 := SlT.keep jA2 hk16 (fun q hq hs => by have hs : q = b1 := hs; have g0 := owA2 q hq; have g1 := ltjA2 q hq; omega)
    replace jhK0 := Keep.fresh jhK0 hk16 (by intro i hi hs; first | exact hs | exact Or.inl hs | exact Or.inr hs | (exfalso; have hs2 : i = b1 := hs; omega)); have hzjhK0 := Keep.size jhK0
    replace hfenb := Keep.fresh hfenb hk16 (by intro i hi hs; have hs2 : i = b1 := hs; show _ ∨ _; omega); have hzhfenb := Keep.size hfenb
    refine OI_end rfl ?_
    refine X_block ?_
    exact fun a _ => ⟨hfenb, jbs11, jbn12, jA2, jhK0, by rw [hstp]; exact hb1_18⟩
  · skip
    intro D M1 W hD hM ⟨jbs11, jbn12, jA2, jhK0, jb1⟩ hDD
    have hzjhK0 := Keep.size jhK0
    have hb1lt := jb1.lt
    have hbs11lt := jbs11.lt
    have hbn12lt := jbn12.lt
    have ltjA2 := SlT.lt jA2
    rw [List.take_length] at jb1
    refine X_block ?_
    refine X_then ?_
    refine V_seq ?_
    refine V_region ?_
    refine OI_cell 3 (.tmp 5) 0 (.int .i64 (lockM (rowL a cs) 0)) (some 16) (by kernel_rfl) (by kernel_rfl) jb1 (m := 1) (by kernel_rfl) rfl ?_
    refine OI_static 2 [(4, .int .i64 (lockM (rowL a cs) 0))] (by kernel_rfl) ?_
    refine OI_end rfl ?_
    refine X_then ?_
    refine V_ret ?_
    exact leave1 (.int .i64 (lockM (rowL a cs) 0)) (.inl rfl) hDD (fun w' hk => ⟨res_tmps rfl, ⟨rfl, Keep.quiet jhK0 hk (by omega)⟩⟩)

theorem spends_spec (F : Nat → Prop) (l : Nat) (xs : List Acc) (cs : List Ci) (a n : Int) (w : World) (h : Led F w l xs cs) : Calls Try.prog 38 #[.pointer (some ⟨l, 0, none⟩), .int .i64 a, .int .i64 n] w fun e w' => e = .returned (.int .i64 (spendsE xs cs a n)) ∧ Keep none_ w w' := by
  have hFlt := Led.lt h
  have hllt := hFlt _ (Led.at_ h)
  have hinv := Led.inv h
  obtain ⟨hab1, hab2, hab3⟩ := acct_bnd hinv a
  have hK0 : Keep none_ w w := Keep.refl _ _
  have hzhK0 := Keep.size hK0
  refine enterV Try.func38 rfl [.pointer (some ⟨l, 0, none⟩), .int .i64 a, .int .i64 n] 41 rfl rfl rfl ?_
  refine V_pick [(0, .pointer (some ⟨l, 0, none⟩)), (1, .int .i64 a), (2, .int .i64 n)] rfl ?_
  refine V_seq ?_
  refine V_region ?_
  refine OI_static 1 [(0, .pointer (some ⟨l, 0, none⟩)), (1, .int .i64 a), (2, .int .i64 n)] (by kernel_rfl) ?_
  refine OI_end rfl ?_
  refine X_then ?_
  refine V_seq ?_
  refine V_region ?_
  refine OI_static 2 [(0, .pointer (some ⟨l, 0, none⟩)), (1, .int .i64 a), (2, .int .i64 n), (10, .pointer (some ⟨l, 0, none⟩)), (11, .int .i64 a)] (by kernel_rfl) ?_
  refine OI_call { callee := (Callee.value (Operand.func 34)), args := #[(Operand.tmp 10), (Operand.tmp 11)], argTypes := #[22, 3] } 34 #[.pointer (some ⟨l, 0, none⟩), .int .i64 a] (some 12) (by kernel_rfl) (by kernel_rfl) (by kernel_rfl) (account_spec F l xs cs a _ h) ?_
  rintro _ w5 ⟨rfl, hk6⟩
  refine ⟨_, rfl, ?_⟩
  have hsz7 := Keep.size hk6
  replace h := Led.keep h hk6 (fun _ _ f => f)
  replace hK0 := Keep.tr hK0 (Keep.ofNone hk6); have hzhK0 := Keep.size hK0
  refine OI_static 6 [(0, .pointer (some ⟨l, 0, none⟩)), (1, .int .i64 a), (2, .int .i64 n), (13, .agg (Acc.cells (acct xs a)).toArray), (14, .bool (isA a))] (by kernel_rfl) ?_
  refine OI_alloc 68 (.agg #[.int .i64 0, .int .i64 0]) [.int .i64 0, .int .i64 0] (some 7) (by kernel_rfl) (by kernel_rfl) (by kernel_rfl) ?_
  intro b8 w8 e8 hb8 k8 z8
  have hsz9 := Keep.size k8
  replace h := Led.keep h k8 (fun _ _ f => f)
  replace hK0 := Keep.tr hK0 (Keep.ofNone k8); have hzhK0 := Keep.size hK0
  have hb8lt := hb8.lt
  refine OI_set (m := 2) (kd := true) 68 (.tmp 7) (.tmp 13) 0 (.agg (Acc.cells (acct xs a)).toArray) (Acc.cells (acct xs a)) none (by kernel_rfl) (by kernel_rfl) (by kernel_rfl) hb8 (by kernel_rfl) rfl (Acc.len _) (Nat.le_of_ble_eq_true (by kernel_rfl)) (Acc.one _) ?_
  intro w10 hb8_13 hk11 hz12
  replace hb8_13 : Blk w10 b8 (Acc.cells (acct xs a)) 68 := (by rwa [over_whole (by rw [Acc.len]; rfl)] at hb8_13)
  have hsz14 := Keep.size hk11
  replace h := Led.keep h hk11 (fun q hq hs => by have hs : q = b8 := hs; have g1 := hFlt q hq; omega)
  replace hK0 := Keep.fresh hK0 hk11 (by intro i hi hs; first | exact hs | exact Or.inl hs | exact Or.inr hs | (exfalso; have hs2 : i = b8 := hs; omega)); have hzhK0 := Keep.size hK0
  refine OI_static 9 [(0, .pointer (some ⟨l, 0, none⟩)), (1, .int .i64 a), (2, .int .i64 n), (7, .pointer (some ⟨b8, 0, none⟩)), (8, .bool (isA a))] (by kernel_rfl) ?_
  refine OI_end rfl ?_
  refine X_then ?_
  refine V_seq ?_
  refine V_block ?_
  refine V_seq ?_
  refine V_region ?_
  refine OI_static 3 [(0, .pointer (some ⟨l, 0, none⟩)), (1, .int .i64 a), (2, .int .i64 n), (7, .pointer (some ⟨b8, 0, none⟩)), (18, .bool (!(isA a)))] (by kernel_rfl) ?_
  cases hg15 : (!(isA a))
  · skip
    refine OI_eq [(0, .pointer (some ⟨l, 0, none⟩)), (1, .int .i64 a), (2, .int .i64 n), (7, .pointer (some ⟨b8, 0, none⟩)), (18, .bool false)] (by first | rfl | rw [hg15]) ?_
    refine OI_static 4 [(0, .pointer (some ⟨l, 0, none⟩)), (1, .int .i64 a), (2, .int .i64 n), (7, .pointer (some ⟨b8, 0, none⟩)), (18, .bool false), (19, .int .i64 n)] (by kernel_rfl) ?_
    refine OI_call { callee := (Callee.value (Operand.func 33)), args := #[(Operand.tmp 19)], argTypes := #[3] } 33 #[.int .i64 n] (some 20) (by kernel_rfl) (by kernel_rfl) (by kernel_rfl) (isAmount_spec n _) ?_
    rintro _ w10 ⟨rfl, rfl⟩
    refine ⟨_, rfl, ?_⟩
    refine OI_static 8 [(0, .pointer (some ⟨l, 0, none⟩)), (1, .int .i64 a), (2, .int .i64 n), (7, .pointer (some ⟨b8, 0, none⟩)), (15, .bool (!(decide (0 ≤ n ∧ n ≤ 1073741824))))] (by kernel_rfl) ?_
    refine OI_end rfl ?_
    refine X_then ?_
    refine V_not (0 ≤ n ∧ n ≤ 1073741824) (by kernel_rfl) (fun hc21 => ?_) (fun hc21 => ?_)
    · skip
      refine V_seq ?_
      refine V_region ?_
      refine OI_static 1 [(6, .int .i64 1)] (by kernel_rfl) ?_
      refine OI_end rfl ?_
      refine X_then ?_
      refine V_ret ?_
      refine X_ret_block ?_
      refine X_ret_then ?_
      exact X_return (.int .i64 1) rfl ⟨by unfold spendsE; simp_all <;> omega, hK0⟩
    · skip
      refine V_seq ?_
      refine V_region ?_
      refine OI_static 2 [(0, .pointer (some ⟨l, 0, none⟩)), (1, .int .i64 a), (2, .int .i64 n), (7, .pointer (some ⟨b8, 0, none⟩)), (24, .int .i64 n), (25, .pointer (some ⟨b8, 0, none⟩))] (by kernel_rfl) ?_
      refine OI_cell 3 (.tmp 25) 0 (.int .i64 ((acct xs a).free)) (some 26) (by kernel_rfl) (by kernel_rfl) hb8_13 (m := 1) (by kernel_rfl) rfl ?_
      refine OI_static 5 [(0, .pointer (some ⟨l, 0, none⟩)), (1, .int .i64 a), (2, .int .i64 n), (7, .pointer (some ⟨b8, 0, none⟩)), (23, .bool (decide (n > (acct xs a).free)))] (by kernel_rfl) ?_
      refine OI_end rfl ?_
      refine X_then ?_
      refine V_if (n > (acct xs a).free) (by kernel_rfl) (fun hc22 => ?_) (fun hc22 => ?_)
      · skip
        refine V_seq ?_
        refine V_region ?_
        refine OI_static 1 [(6, .int .i64 6)] (by kernel_rfl) ?_
        refine OI_end rfl ?_
        refine X_then ?_
        refine V_ret ?_
        refine X_ret_block ?_
        refine X_ret_then ?_
        exact X_return (.int .i64 6) rfl ⟨by unfold spendsE; simp_all <;> omega, hK0⟩
      · skip
        refine V_seq ?_
        refine V_draws (acts [9]) none_ [[0, 1, 2, 7, 8, 9, 3, 4, 5, 6, 10, 11, 12]] (by kernel_rfl) (by repeat first | exact sure_body (by rintro _ _ ⟨h, _⟩; exact ⟨_, h⟩) | refine sure_then ?_ | refine sure_block ?_ | refine sure_join ?_) (by kernel_rfl) ?_
        intro w24 hk23 he25 L hL26
        have hsz27 := Keep.size hk23
        replace hb8_13 := hb8_13.keep hk23 (fun f => f)
        have hb8lt := hb8_13.lt
        replace h := Led.keep h hk23 (fun _ _ f => f)
        replace hK0 := Keep.tr hK0 (Keep.ofNone hk23); have hzhK0 := Keep.size hK0
        have qhb8_13 := hb8_13
        have K28 : Keep none_ w24 w24 := Keep.refl _ _
        obtain rfl := List.mem_singleton.1 hL26
        refine GI_static [7, 8, 9, 3, 4, 5, 6, 10, 11, 12] [(0, .pointer (some ⟨l, 0, none⟩)), (1, .int .i64 a), (2, .int .i64 n), (7, .pointer (some ⟨b8, 0, none⟩)), (31, .bool (decide (n > 0)))] (by kernel_rfl) ?_
        by_cases hg29 : n > 0
        · skip
          refine GI_eq [(0, .pointer (some ⟨l, 0, none⟩)), (1, .int .i64 a), (2, .int .i64 n), (7, .pointer (some ⟨b8, 0, none⟩)), (31, .bool true)] (by first | simp [hg29] | rfl) ?_
          refine GI_static [9, 3, 4, 5, 6, 10, 11, 12] [(2, .int .i64 n), (7, .pointer (some ⟨b8, 0, none⟩)), (31, .bool true), (36, .pointer (some ⟨l, 0, none⟩)), (37, .int .i64 a)] (by kernel_rfl) ?_
          refine GI_call { callee := (Callee.value (Operand.func 16)), args := #[(Operand.tmp 36), (Operand.tmp 37)], argTypes := #[22, 3] } 16 #[.pointer (some ⟨l, 0, none⟩), .int .i64 a] (some 38) (by kernel_rfl) (by kernel_rfl) (by kernel_rfl) (by kernel_rfl) (locked_spec F l xs cs a _ h) ?_
          rintro _ w30 ⟨rfl, hk31⟩
          have K32 := K28.tr (Keep.ofNone hk31)
          refine ⟨_, rfl, K32, ?_⟩
          have hzK32 := Keep.size K32
          have hsz33 := Keep.size hk31
          replace hb8_13 := hb8_13.keep hk31 (fun f => f)
          have hb8lt := hb8_13.lt
          replace h := Led.keep h hk31 (fun _ _ f => f)
          replace hK0 := Keep.tr hK0 (Keep.ofNone hk31); have hzhK0 := Keep.size hK0
          refine GI_static [4, 5, 6, 10, 11, 12] [(2, .int .i64 n), (31, .bool true), (32, .pointer (some ⟨b8, 0, none⟩)), (38, .int .i64 (lockedL cs a))] (by kernel_rfl) ?_
          refine GI_cell 3 (.tmp 32) 0 (.int .i64 ((acct xs a).free)) (some 33) (by kernel_rfl) (by kernel_rfl) (by kernel_rfl) qhb8_13 (fun f => f) (m := 1) (by kernel_rfl) rfl ?_
          have hw34 : IntKind.i64.wrap (((acct xs a).free) - n) = ((acct xs a).free) - n := (wrap64_id (by omega) (by omega)).trans (by omega)
          refine GI_static [10, 11, 12] [(31, .bool true), (35, .int .i64 (IntKind.i64.wrap (((acct xs a).free) - n))), (38, .int .i64 (lockedL cs a))] (by kernel_rfl) ?_
          refine GI_eq [(31, .bool true), (35, .int .i64 (((acct xs a).free) - n)), (38, .int .i64 (lockedL cs a))] (by rw [hw34]) ?_
          refine GI_static [] [(28, .bool (decide (((acct xs a).free) - n < lockedL cs a)))] (by kernel_rfl) ?_
          refine GI_end ?_
          refine X_then ?_
          refine V_if (((acct xs a).free) - n < lockedL cs a) (by kernel_rfl) (fun hc35 => ?_) (fun hc35 => ?_)
          · skip
            refine V_seq ?_
            refine V_region ?_
            refine OI_static 1 [(6, .int .i64 7)] (by kernel_rfl) ?_
            refine OI_end rfl ?_
            refine X_then ?_
            refine V_ret ?_
            refine X_ret_block ?_
            refine X_ret_then ?_
            exact X_return (.int .i64 7) rfl ⟨by unfold spendsE; simp_all <;> omega, hK0⟩
          · skip
            refine V_skip ?_
            refine X_block ?_
            refine X_then ?_
            refine V_seq ?_
            refine V_region ?_
            refine OI_static 1 [(6, .int .i64 0)] (by kernel_rfl) ?_
            refine OI_end rfl ?_
            refine X_then ?_
            refine V_ret ?_
            exact X_return (.int .i64 0) rfl ⟨by unfold spendsE; simp_all <;> omega, hK0⟩
        · skip
          refine GI_eq [(0, .pointer (some ⟨l, 0, none⟩)), (1, .int .i64 a), (2, .int .i64 n), (7, .pointer (some ⟨b8, 0, none⟩)), (31, .bool false)] (by first | simp [hg29] | rfl) ?_
          refine GI_static [] [(28, .bool false)] (by kernel_rfl) ?_
          refine GI_end ?_
          refine X_then ?_
          refine V_false rfl ?_
          refine V_skip ?_
          refine X_block ?_
          refine X_then ?_
          refine V_seq ?_
          refine V_region ?_
          refine OI_static 1 [(6, .int .i64 0)] (by kernel_rfl) ?_
          refine OI_end rfl ?_
          refine X_then ?_
          refine V_ret ?_
          exact X_return (.int .i64 0) rfl ⟨by unfold spendsE; simp_all <;> omega, hK0⟩
  · skip
    refine OI_eq [(0, .pointer (some ⟨l, 0, none⟩)), (1, .int .i64 a), (2, .int .i64 n), (7, .pointer (some ⟨b8, 0, none⟩)), (18, .bool true)] (by first | rfl | rw [hg15]) ?_
    refine OI_static 8 [(0, .pointer (some ⟨l, 0, none⟩)), (1, .int .i64 a), (2, .int .i64 n), (7, .pointer (some ⟨b8, 0, none⟩)), (15, .bool true)] (by kernel_rfl) ?_
    refine OI_end rfl ?_
    refine X_then ?_
    refine V_true rfl ?_
    refine V_seq ?_
    refine V_region ?_
    refine OI_static 1 [(6, .int .i64 1)] (by kernel_rfl) ?_
    refine OI_end rfl ?_
    refine X_then ?_
    refine V_ret ?_
    refine X_ret_block ?_
    refine X_ret_then ?_
    exact X_return (.int .i64 1) rfl ⟨by unfold spendsE; simp_all <;> omega, hK0⟩

theorem spends_nil (a n : Int) (w : World) : Calls Try.prog 38 #[.pointer none, .int .i64 a, .int .i64 n] w fun e w' => e = .returned (.int .i64 1) ∧ Keep none_ w w' := by
  have hK0 : Keep none_ w w := Keep.refl _ _
  have hzhK0 := Keep.size hK0
  refine enterV Try.func38 rfl [.pointer none, .int .i64 a, .int .i64 n] 41 rfl rfl rfl ?_
  refine V_pick [(0, .pointer none), (1, .int .i64 a), (2, .int .i64 n)] rfl ?_
  refine V_seq ?_
  refine V_region ?_
  refine OI_static 1 [(0, .pointer none), (1, .int .i64 a), (2, .int .i64 n)] (by kernel_rfl) ?_
  refine OI_end rfl ?_
  refine X_then ?_
  refine V_seq ?_
  refine V_region ?_
  refine OI_static 2 [(0, .pointer none), (1, .int .i64 a), (2, .int .i64 n), (10, .pointer none), (11, .int .i64 a)] (by kernel_rfl) ?_
  refine OI_call { callee := (Callee.value (Operand.func 34)), args := #[(Operand.tmp 10), (Operand.tmp 11)], argTypes := #[22, 3] } 34 #[.pointer none, .int .i64 a] (some 12) (by kernel_rfl) (by kernel_rfl) (by kernel_rfl) (account_nil a _) ?_
  rintro _ w5 ⟨rfl, hk6⟩
  refine ⟨_, rfl, ?_⟩
  have hsz7 := Keep.size hk6
  replace hK0 := Keep.tr hK0 (Keep.ofNone hk6); have hzhK0 := Keep.size hK0
  refine OI_static 6 [(0, .pointer none), (1, .int .i64 a), (2, .int .i64 n), (13, .agg #[.int .i64 0, .int .i64 0]), (14, .bool false)] (by kernel_rfl) ?_
  refine OI_alloc 68 (.agg #[.int .i64 0, .int .i64 0]) [.int .i64 0, .int .i64 0] (some 7) (by kernel_rfl) (by kernel_rfl) (by kernel_rfl) ?_
  intro b8 w8 e8 hb8 k8 z8
  have hsz9 := Keep.size k8
  replace hK0 := Keep.tr hK0 (Keep.ofNone k8); have hzhK0 := Keep.size hK0
  have hb8lt := hb8.lt
  refine OI_set (m := 2) (kd := true) 68 (.tmp 7) (.tmp 13) 0 (.agg #[.int .i64 0, .int .i64 0]) [.int .i64 0, .int .i64 0] none (by kernel_rfl) (by kernel_rfl) (by kernel_rfl) hb8 (by kernel_rfl) (by kernel_rfl) (by kernel_rfl) (Nat.le_of_ble_eq_true (by kernel_rfl)) (by simp [Value.oneCell']) ?_
  intro w10 hb8_13 hk11 hz12
  replace hb8_13 : Blk w10 b8 [.int .i64 0, .int .i64 0] 68 := hb8_13
  have hsz14 := Keep.size hk11
  replace hK0 := Keep.fresh hK0 hk11 (by intro i hi hs; first | exact hs | exact Or.inl hs | exact Or.inr hs | (exfalso; have hs2 : i = b8 := hs; omega)); have hzhK0 := Keep.size hK0
  refine OI_static 9 [(0, .pointer none), (1, .int .i64 a), (2, .int .i64 n), (7, .pointer (some ⟨b8, 0, none⟩)), (8, .bool false)] (by kernel_rfl) ?_
  refine OI_end rfl ?_
  refine X_then ?_
  refine V_seq ?_
  refine V_block ?_
  refine V_seq ?_
  refine V_region ?_
  refine OI_static 8 [(0, .pointer none), (1, .int .i64 a), (2, .int .i64 n), (7, .pointer (some ⟨b8, 0, none⟩)), (15, .bool true)] (by kernel_rfl) ?_
  refine OI_end rfl ?_
  refine X_then ?_
  refine V_true rfl ?_
  refine V_seq ?_
  refine V_region ?_
  refine OI_static 1 [(6, .int .i64 1)] (by kernel_rfl) ?_
  refine OI_end rfl ?_
  refine X_then ?_
  refine V_ret ?_
  refine X_ret_block ?_
  refine X_ret_then ?_
  exact X_return (.int .i64 1) rfl ⟨rfl, hK0⟩
end Go.Al
