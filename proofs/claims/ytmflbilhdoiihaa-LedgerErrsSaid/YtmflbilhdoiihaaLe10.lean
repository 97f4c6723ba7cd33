/-
  Walks of the laws of ledger: all locks; a nil ledger.
-/
import Derived.Test.YtmflbilhdoiihaaLe9
namespace Go.Al
open Go Go.RowKit Go.Proofs
def lkc (q : Int × Int) : List Value := [.int .i64 q.1, .int .i64 q.2]
theorem lkc_len (q : Int × Int) : (lkc q).length = 2 := rfl
theorem lkc_one (q : Int × Int) : ∀ u ∈ lkc q, u.oneCell' = true := one_all' rfl

theorem lockl_nil (a : Int) (w : World) : Calls Try.prog 31 #[.pointer none, .int .i64 a] w fun e w' => e = .returned (.tuple #[.slice none 0 0, .bool true]) ∧ Keep none_ w w' := by
  have hK0 : Keep none_ w w := Keep.refl _ _
  have hzhK0 := Keep.size hK0
  refine enterM Try.func31 rfl [.pointer none, .int .i64 a] 28 rfl rfl rfl ?_
  refine V_pick [(0, .pointer none), (1, .int .i64 a)] rfl ?_
  refine V_seq ?_
  refine V_region ?_
  refine OI_alloc 52 (.slice none 0 0) [.slice none 0 0] (some 4) (by kernel_rfl) (by kernel_rfl) (by kernel_rfl) ?_
  intro b1 w1 e1 hb1 k1 z1
  have hsz2 := Keep.size k1
  replace hK0 := Keep.tr hK0 (Keep.ofNone k1); have hzhK0 := Keep.size hK0
  have hb1lt := hb1.lt
  refine OI_alloc 4 (.bool false) [.bool false] (some 5) (by kernel_rfl) (by kernel_rfl) (by kernel_rfl) ?_
  intro b3 w3 e3 hb3 k3 z3
  have hsz4 := Keep.size k3
  replace hb1 := hb1.keep k3 (fun f => f)
  have hb1lt := hb1.lt
  replace hK0 := Keep.tr hK0 (Keep.ofNone k3); have hzhK0 := Keep.size hK0
  have hb3lt := hb3.lt
  refine OI_end rfl ?_
  refine X_then ?_
  refine V_seq ?_
  refine V_region ?_
  refine OI_static 2 [(4, .pointer (some ⟨b1, 0, none⟩)), (5, .pointer (some ⟨b3, 0, none⟩)), (10, .pointer none), (11, .int .i64 a)] (by kernel_rfl) ?_
  refine OI_call { callee := (Callee.value (Operand.func 37)), args := #[(Operand.tmp 10), (Operand.tmp 11)], argTypes := #[22, 3] } 37 #[.pointer none, .int .i64 a] (some 12) (by kernel_rfl) (by kernel_rfl) (by kernel_rfl) (locks_nil a _) ?_
  rintro _ w5 ⟨bg7, bs8, bn9, rfl, hbg7, hbs8, hbn9, hk6, hgebg7, hgebs8, hgebn9⟩
  refine ⟨_, rfl, ?_⟩
  have hsz10 := Keep.size hk6
  replace hb1 := hb1.keep hk6 (fun f => f)
  have hb1lt := hb1.lt
  replace hb3 := hb3.keep hk6 (fun f => f)
  have hb3lt := hb3.lt
  replace hK0 := Keep.tr hK0 (Keep.ofNone hk6); have hzhK0 := Keep.size hK0
  have hbg7lt := hbg7.lt
  have hbs8lt := hbs8.lt
  have hbn9lt := hbn9.lt
  refine OI_static 4 [(4, .pointer (some ⟨b1, 0, none⟩)), (5, .pointer (some ⟨b3, 0, none⟩)), (6, .func (.func 68) #[] #[.pointer (some ⟨bg7, 0, none⟩), .pointer (some ⟨bs8, 0, none⟩), .pointer (some ⟨bn9, 0, none⟩)])] (by kernel_rfl) ?_
  refine OI_end rfl ?_
  refine X_then ?_
  refine V_seq ?_
  refine V_seq ?_
  refine V_region ?_
  refine OI_static 2 [(4, .pointer (some ⟨b1, 0, none⟩)), (5, .pointer (some ⟨b3, 0, none⟩)), (6, .func (.func 68) #[] #[.pointer (some ⟨bg7, 0, none⟩), .pointer (some ⟨bs8, 0, none⟩), .pointer (some ⟨bn9, 0, none⟩)]), (14, .bool false)] (by kernel_rfl) ?_
  refine OI_end rfl ?_
  refine X_then ?_
  refine V_false rfl ?_
  refine V_skip ?_
  refine X_then ?_
  refine V_seq ?_
  refine V_region ?_
  refine OI_alloc 52 (.slice none 0 0) [.slice none 0 0] (some 7) (by kernel_rfl) (by kernel_rfl) (by kernel_rfl) ?_
  intro b11 w11 e11 hb11 k11 z11
  have hsz12 := Keep.size k11
  replace hb1 := hb1.keep k11 (fun f => f)
  have hb1lt := hb1.lt
  replace hb3 := hb3.keep k11 (fun f => f)
  have hb3lt := hb3.lt
  replace hbg7 := hbg7.keep k11 (fun f => f)
  have hbg7lt := hbg7.lt
  replace hbs8 := hbs8.keep k11 (fun f => f)
  have hbs8lt := hbs8.lt
  replace hbn9 := hbn9.keep k11 (fun f => f)
  have hbn9lt := hbn9.lt
  replace hK0 := Keep.tr hK0 (Keep.ofNone k11); have hzhK0 := Keep.size hK0
  have hb11lt := hb11.lt
  refine OI_end rfl ?_
  refine X_then ?_
  refine V_seq ?_
  refine V_seq ?_
  refine V_region ?_
  refine OI_static 1 [(4, .pointer (some ⟨b1, 0, none⟩)), (5, .pointer (some ⟨b3, 0, none⟩)), (7, .pointer (some ⟨b11, 0, none⟩)), (15, .func (.func 68) #[] #[.pointer (some ⟨bg7, 0, none⟩), .pointer (some ⟨bs8, 0, none⟩), .pointer (some ⟨bn9, 0, none⟩)])] (by kernel_rfl) ?_
  refine OI_end rfl ?_
  refine X_then ?_
  refine V_block ?_
  refine V_pick [(4, .pointer (some ⟨b1, 0, none⟩)), (5, .pointer (some ⟨b3, 0, none⟩)), (7, .pointer (some ⟨b11, 0, none⟩)), (15, .func (.func 68) #[] #[.pointer (some ⟨bg7, 0, none⟩), .pointer (some ⟨bs8, 0, none⟩), .pointer (some ⟨bn9, 0, none⟩)])] rfl ?_
  have hN0 : w.heap.size ≤ w11.heap.size := hzhK0
  refine V_range2 (gf := 68) (caps := #[.pointer (some ⟨bg7, 0, none⟩), .pointer (some ⟨bs8, 0, none⟩), .pointer (some ⟨bn9, 0, none⟩)]) (m := 0) (by kernel_rfl) (by kernel_rfl) (by kernel_rfl) (along1_nil bg7 bs8 bn9 0 (fun _ => #[undef, undef]) a) (⟨hbg7, trivial⟩) (fun W W' h k => ⟨h.1.quiet k, trivial⟩) (fun _ => rfl) (fun M1 k W => (Blk W b1 [.slice none 0 0] 52) ∧ (Blk W b3 [.bool false] 4) ∧ (Blk W b11 [.slice none 0 0] 52) ∧ (Keep none_ w W)) (fun M1 c k W => False) (fun M1 k W W' h hk => by obtain ⟨jb1, jb3, jb11, jhK0⟩ := h; exact ⟨jb1.quiet hk, jb3.quiet hk, jb11.quiet hk, jhK0.quiet hk (by omega)⟩) (fun _ _ _ _ _ h _ => h.elim) (fun M1 hM1 => ⟨hb1, hb3, hb11, hK0⟩) (fun M1 k W h => by obtain ⟨jb1, jb3, jb11, jhK0⟩ := h; exact trivial) ?_ ?_ (fun _ _ _ _ _ _ _ _ h _ => h.elim)
  · skip
    intro lp D M1 k W hD hl hM hMW hkm ⟨jb1, jb3, jb11, jhK0⟩ ⟨rr, hrr⟩ hDD
    exact absurd hkm (Nat.not_lt_zero _)
  · skip
    intro D M1 W hD hM ⟨jb1, jb3, jb11, jhK0⟩ hDD
    have hzjhK0 := Keep.size jhK0
    have hb1lt := jb1.lt
    have hb3lt := jb3.lt
    have hb11lt := jb11.lt
    refine X_block ?_
    refine X_then ?_
    refine V_seq ?_
    refine V_region ?_
    refine OI_cell 52 (.tmp 7) 0 (.slice none 0 0) (some 27) (by kernel_rfl) (by kernel_rfl) jb11 (m := 1) (by kernel_rfl) rfl ?_
    refine OI_set (m := 1) (kd := false) 52 (.tmp 4) (.tmp 27) 0 (.slice none 0 0) [.slice none 0 0] none (by kernel_rfl) (by kernel_rfl) (by kernel_rfl) jb1 (by kernel_rfl) (by kernel_rfl) (by kernel_rfl) (Nat.le_of_ble_eq_true (by kernel_rfl)) (by simp [Value.oneCell']) ?_
    intro w13 hb1_16 hk14 hz15
    replace hb1_16 : Blk w13 b1 [.slice none 0 0] 52 := hb1_16
    have hsz17 := Keep.size hk14
    replace jb3 := jb3.keep hk14 (by show ¬ (_ = _); omega)
    have hb3lt := jb3.lt
    replace jb11 := jb11.keep hk14 (by show ¬ (_ = _); omega)
    have hb11lt := jb11.lt
    replace jhK0 := Keep.fresh jhK0 hk14 (by intro i hi hs; first | exact hs | exact Or.inl hs | exact Or.inr hs | (exfalso; have hs2 : i = b1 := hs; omega)); have hzjhK0 := Keep.size jhK0
    replace hDD := (Keep.block hk14 _ (Array.getElem?_eq_some_iff.1 hDD).1 (by show ¬ (_ = _); omega)).trans hDD
    refine OI_set (m := 1) (kd := false) 4 (.tmp 5) (.const (Value.bool true)) 0 (.bool true) [.bool true] none (by kernel_rfl) (by kernel_rfl) (by kernel_rfl) jb3 (by kernel_rfl) (by kernel_rfl) (by kernel_rfl) (Nat.le_of_ble_eq_true (by kernel_rfl)) (by simp [Value.oneCell']) ?_
    intro w18 hb3_21 hk19 hz20
    replace hb3_21 : Blk w18 b3 [.bool true] 4 := hb3_21
    have hsz22 := Keep.size hk19
    replace hb1_16 := hb1_16.keep hk19 (by show ¬ (_ = _); omega)
    have hb1lt := hb1_16.lt
    replace jb11 := jb11.keep hk19 (by show ¬ (_ = _); omega)
    have hb11lt := jb11.lt
    replace jhK0 := Keep.fresh jhK0 hk19 (by intro i hi hs; first | exact hs | exact Or.inl hs | exact Or.inr hs | (exfalso; have hs2 : i = b3 := hs; omega)); have hzjhK0 := Keep.size jhK0
    replace hDD := (Keep.block hk19 _ (Array.getElem?_eq_some_iff.1 hDD).1 (by show ¬ (_ = _); omega)).trans hDD
    refine OI_end rfl ?_
    refine X_then ?_
    refine V_ret ?_
    exact leave1 (.tuple #[.slice none 0 0, .bool true]) (.inl rfl) hDD (fun w' hk => ⟨res_cells2 (n1 := 1) (n2 := 1) rfl rfl rfl (by kernel_rfl) (by kernel_rfl) (Blk.quiet hb1_16 hk) (Blk.quiet hb3_21 hk) , ⟨rfl, Keep.quiet jhK0 hk (by omega)⟩⟩)

set_option maxRecDepth 10000 in
theorem lockl_spec (F : Nat → Prop) (l : Nat) (xs : List Acc) (cs : List Ci) (a : Int) (w : World) (h : Led F w l xs cs) (hmax : cs.length ≤ 200) : Calls Try.prog 31 #[.pointer (some ⟨l, 0, none⟩), .int .i64 a] w fun e w' => ∃ Ak capk, e = .returned (.tuple #[.slice Ak (rowL a cs).length capk, .bool true]) ∧ SlT w' 2 lkc Ak capk (rowL a cs) ∧ Keep none_ w w' ∧ (∀ q, inA Ak q → w.heap.size ≤ q) := by
  obtain ⟨hinv, hFl, hFlt, g, A, cap, D, hat, hG, hAF, hDF, hAD⟩ := h
  have hl := hat.blk
  have hA := hat.sl
  have hllt := hl.lt
  have hAl : ∀ q, inA A q → q ≠ l := fun q hq => (hAF q hq).2
  have hAlt := SlT.lt hA
  have hDl : ∀ q, D q → q ≠ l := fun q hq => (hDF q hq).2
  have hDlt := Grd.lt hG
  have hx10 := hinv.1
  have hK0 : Keep none_ w w := Keep.refl _ _
  have hzhK0 := Keep.size hK0
  refine enterM Try.func31 rfl [.pointer (some ⟨l, 0, none⟩), .int .i64 a] 28 rfl rfl rfl ?_
  refine V_pick [(0, .pointer (some ⟨l, 0, none⟩)), (1, .int .i64 a)] rfl ?_
  refine V_seq ?_
  refine V_region ?_
  refine OI_alloc 52 (.slice none 0 0) [.slice none 0 0] (some 4) (by kernel_rfl) (by kernel_rfl) (by kernel_rfl) ?_
  intro b1 w1 e1 hb1 k1 z1
  have hsz2 := Keep.size k1
  replace hl := hl.keep k1 (fun f => f)
  have hllt := hl.lt
  replace hA := SlT.keep0 hA k1
  replace hG := Grd.keep hG k1 (fun _ _ f => f)
  replace hK0 := Keep.tr hK0 (Keep.ofNone k1); have hzhK0 := Keep.size hK0
  have hb1lt := hb1.lt
  refine OI_alloc 4 (.bool false) [.bool false] (some 5) (by kernel_rfl) (by kernel_rfl) (by kernel_rfl) ?_
  intro b3 w3 e3 hb3 k3 z3
  have hsz4 := Keep.size k3
  replace hl := hl.keep k3 (fun f => f)
  have hllt := hl.lt
  replace hb1 := hb1.keep k3 (fun f => f)
  have hb1lt := hb1.lt
  replace hA := SlT.keep0 hA k3
  replace hG := Grd.keep hG k3 (fun _ _ f => f)
  replace hK0 := Keep.tr hK0 (Keep.ofNone k3); have hzhK0 := Keep.size hK0
  have hb3lt := hb3.lt
  refine OI_end rfl ?_
  refine X_then ?_
  refine V_seq ?_
  refine V_region ?_
  refine OI_static 2 [(4, .pointer (some ⟨b1, 0, none⟩)), (5, .pointer (some ⟨b3, 0, none⟩)), (10, .pointer (some ⟨l, 0, none⟩)), (11, .int .i64 a)] (by kernel_rfl) ?_
  refine OI_call { callee := (Callee.value (Operand.func 37)), args := #[(Operand.tmp 10), (Operand.tmp 11)], argTypes := #[22, 3] } 37 #[.pointer (some ⟨l, 0, none⟩), .int .i64 a] (some 12) (by kernel_rfl) (by kernel_rfl) (by kernel_rfl) (locks_spec l g _ a _ hl) ?_
  rintro _ w5 ⟨bg7, bs8, bn9, rfl, hbg7, hbs8, hbn9, hk6, hgebg7, hgebs8, hgebn9⟩
  refine ⟨_, rfl, ?_⟩
  have hsz10 := Keep.size hk6
  replace hl := hl.keep hk6 (fun f => f)
  have hllt := hl.lt
  replace hb1 := hb1.keep hk6 (fun f => f)
  have hb1lt := hb1.lt
  replace hb3 := hb3.keep hk6 (fun f => f)
  have hb3lt := hb3.lt
  replace hA := SlT.keep0 hA hk6
  replace hG := Grd.keep hG hk6 (fun _ _ f => f)
  replace hK0 := Keep.tr hK0 (Keep.ofNone hk6); have hzhK0 := Keep.size hK0
  have hbg7lt := hbg7.lt
  have hbs8lt := hbs8.lt
  have hbn9lt := hbn9.lt
  refine OI_static 4 [(4, .pointer (some ⟨b1, 0, none⟩)), (5, .pointer (some ⟨b3, 0, none⟩)), (6, .func (.func 68) #[] #[.pointer (some ⟨bg7, 0, none⟩), .pointer (some ⟨bs8, 0, none⟩), .pointer (some ⟨bn9, 0, none⟩)])] (by kernel_rfl) ?_
  refine OI_end rfl ?_
  refine X_then ?_
  refine V_seq ?_
  refine V_seq ?_
  refine V_region ?_
  refine OI_static 2 [(4, .pointer (some ⟨b1, 0, none⟩)), (5, .pointer (some ⟨b3, 0, none⟩)), (6, .func (.func 68) #[] #[.pointer (some ⟨bg7, 0, none⟩), .pointer (some ⟨bs8, 0, none⟩), .pointer (some ⟨bn9, 0, none⟩)]), (14, .bool false)] (by kernel_rfl) ?_
  refine OI_end rfl ?_
  refine X_then ?_
  refine V_false rfl ?_
  refine V_skip ?_
  refine X_then ?_
  refine V_seq ?_
  refine V_region ?_
  refine OI_alloc 52 (.slice none 0 0) [.slice none 0 0] (some 7) (by kernel_rfl) (by kernel_rfl) (by kernel_rfl) ?_
  intro b11 w11 e11 hb11 k11 z11
  have hsz12 := Keep.size k11
  replace hl := hl.keep k11 (fun f => f)
  have hllt := hl.lt
  replace hb1 := hb1.keep k11 (fun f => f)
  have hb1lt := hb1.lt
  replace hb3 := hb3.keep k11 (fun f => f)
  have hb3lt := hb3.lt
  replace hbg7 := hbg7.keep k11 (fun f => f)
  have hbg7lt := hbg7.lt
  replace hbs8 := hbs8.keep k11 (fun f => f)
  have hbs8lt := hbs8.lt
  replace hbn9 := hbn9.keep k11 (fun f => f)
  have hbn9lt := hbn9.lt
  replace hA := SlT.keep0 hA k11
  replace hG := Grd.keep hG k11 (fun _ _ f => f)
  replace hK0 := Keep.tr hK0 (Keep.ofNone k11); have hzhK0 := Keep.size hK0
  have hb11lt := hb11.lt
  refine OI_end rfl ?_
  refine X_then ?_
  refine V_seq ?_
  refine V_seq ?_
  refine V_region ?_
  refine OI_static 1 [(4, .pointer (some ⟨b1, 0, none⟩)), (5, .pointer (some ⟨b3, 0, none⟩)), (7, .pointer (some ⟨b11, 0, none⟩)), (15, .func (.func 68) #[] #[.pointer (some ⟨bg7, 0, none⟩), .pointer (some ⟨bs8, 0, none⟩), .pointer (some ⟨bn9, 0, none⟩)])] (by kernel_rfl) ?_
  refine OI_end rfl ?_
  refine X_then ?_
  refine V_block ?_
  obtain ⟨_, _, _, _, A2, cap2, hat2, hAD2⟩ := hG
  have hA2 := hat2.sl
  have owA2 : ∀ q, inA A2 q → q < w.heap.size := fun q hq => hDlt q (hAD2 q hq)
  have hrl : (rowL a cs).length ≤ 200 := by unfold rowL; rw [List.length_map]; exact Nat.le_trans (List.length_filter_le _ _) hmax
  refine V_pick [(4, .pointer (some ⟨b1, 0, none⟩)), (5, .pointer (some ⟨b3, 0, none⟩)), (7, .pointer (some ⟨b11, 0, none⟩)), (15, .func (.func 68) #[] #[.pointer (some ⟨bg7, 0, none⟩), .pointer (some ⟨bs8, 0, none⟩), .pointer (some ⟨bn9, 0, none⟩)])] rfl ?_
  have hN0 : w.heap.size ≤ w11.heap.size := hzhK0
  refine V_range2 (gf := 68) (caps := #[.pointer (some ⟨bg7, 0, none⟩), .pointer (some ⟨bs8, 0, none⟩), .pointer (some ⟨bn9, 0, none⟩)]) (m := (rowL a cs).length) (by kernel_rfl) (by kernel_rfl) (by kernel_rfl) (along1_iter0 bg7 bs8 bn9 g cap2 A2 cs a (by omega)) (⟨hbg7, hat2, ⟨hbs8, hbn9, hA2⟩⟩) (fun W W' h k => ⟨h.1.quiet k, h.2.1.quiet k, h.2.2.quiet k⟩) (enc2_size _) (fun M1 k W => ∃ Ak : Option Addr, ∃ capk : Nat, (Blk W b1 [.slice none 0 0] 52) ∧ (Blk W b3 [.bool false] 4) ∧ (Blk W bs8 [.int .i64 0] 3) ∧ (Blk W bn9 [.int .i64 a] 3) ∧ (SlT W 3 Ci.cells A2 cap2 cs) ∧ (Keep none_ w W) ∧ (Blk W b11 [.slice Ak (((rowL a cs).take k).length) capk] 52) ∧ (SlT W 2 lkc Ak capk ((rowL a cs).take k)) ∧ (∀ q, inA Ak q → M1 ≤ q)) (fun M1 c k W => False) (fun M1 k W W' h hk => by obtain ⟨Ak, capk, jb1, jb3, jbs8, jbn9, jA2, jhK0, jb11, jAk, ownk⟩ := h; exact ⟨Ak, capk, jb1.quiet hk, jb3.quiet hk, jbs8.quiet hk, jbn9.quiet hk, jA2.quiet hk, jhK0.quiet hk (by omega), jb11.quiet hk, jAk.quiet hk, ownk⟩) (fun _ _ _ _ _ h _ => h.elim) (fun M1 hM1 => ⟨none, 0, hb1, hb3, hbs8, hbn9, hA2, hK0, hb11, SlT.nil _ _ _, fun q h => (inA_none h).elim⟩) (fun M1 k W h => by obtain ⟨Ak, capk, jb1, jb3, jbs8, jbn9, jA2, jhK0, jb11, jAk, ownk⟩ := h; exact ⟨jbs8, jbn9, jA2⟩) ?_ ?_ (fun _ _ _ _ _ _ _ _ h _ => h.elim)
  · skip
    intro lp D M1 k W hD hl hM hMW hkm ⟨Ak, capk, jb1, jb3, jbs8, jbn9, jA2, jhK0, jb11, jAk, ownk⟩ ⟨rr, hrr⟩ hDD
    have hzjhK0 := Keep.size jhK0
    have hb1lt := jb1.lt
    have hb3lt := jb3.lt
    have hbs8lt := jbs8.lt
    have hbn9lt := jbn9.lt
    have hb11lt := jb11.lt
    have ltjA2 := SlT.lt jA2
    have ltjAk := SlT.lt jAk
    obtain ⟨x, hx⟩ : ∃ x, (rowL a cs)[k]? = some x := ⟨_, List.getElem?_eq_getElem hkm⟩
    rw [enc2_at hx]
    have hlk : ((rowL a cs).take k).length = k := by rw [List.length_take]; omega
    have hs1 : (rowL a cs).take (k + 1) = (rowL a cs).take k ++ [x] := by obtain ⟨h1, h2⟩ := List.getElem?_eq_some_iff.1 hx; rw [List.take_succ_eq_append_getElem h1, h2]
    refine V_pick [(4, .pointer (some ⟨b1, 0, none⟩)), (5, .pointer (some ⟨b3, 0, none⟩)), (7, .pointer (some ⟨b11, 0, none⟩)), (16, .int .i64 x.1), (17, .int .i64 x.2)] rfl ?_
    have hfen : Keep (fen w11.heap.size M1) W W := Keep.refl _ _
    have hzhfen := Keep.size hfen
    refine V_seq ?_
    refine V_region ?_
    refine OI_static 1 [(4, .pointer (some ⟨b1, 0, none⟩)), (5, .pointer (some ⟨b3, 0, none⟩)), (7, .pointer (some ⟨b11, 0, none⟩)), (8, .int .i64 x.1), (17, .int .i64 x.2)] (by kernel_rfl) ?_
    refine OI_end rfl ?_
    refine X_then ?_
    refine V_region ?_
    refine OI_static 1 [(4, .pointer (some ⟨b1, 0, none⟩)), (5, .pointer (some ⟨b3, 0, none⟩)), (7, .pointer (some ⟨b11, 0, none⟩)), (8, .int .i64 x.1), (9, .int .i64 x.2)] (by kernel_rfl) ?_
    refine OI_end rfl ?_
    refine X_begin2 hfen ?_
    intro W2 hk2 ⟨r2, hr2⟩ hD2
    have hsz13 := Keep.size hk2
    replace jb1 := Blk.quiet jb1 hk2
    have hb1lt := jb1.lt
    replace jb3 := Blk.quiet jb3 hk2
    have hb3lt := jb3.lt
    replace jbs8 := Blk.quiet jbs8 hk2
    have hbs8lt := jbs8.lt
    replace jbn9 := Blk.quiet jbn9 hk2
    have hbn9lt := jbn9.lt
    replace jb11 := Blk.quiet jb11 hk2
    have hb11lt := jb11.lt
    replace jA2 := SlT.quiet jA2 hk2
    replace jAk := SlT.quiet jAk hk2
    replace jhK0 := Keep.quiet jhK0 hk2 (by omega); have hzjhK0 := Keep.size jhK0
    have hzhk2 := Keep.size hk2
    have hfenb : Keep (fen w11.heap.size M1) W2 W2 := Keep.refl _ _
    have hzhfenb := Keep.size hfenb
    refine V_block ?_
    refine V_seq ?_
    refine V_region ?_
    refine OI_cell 52 (.tmp 7) 0 (.slice Ak (((rowL a cs).take k).length) capk) (some 18) (by kernel_rfl) (by kernel_rfl) jb11 (m := 1) (by kernel_rfl) rfl ?_
    refine OI_static 4 [(4, .pointer (some ⟨b1, 0, none⟩)), (5, .pointer (some ⟨b3, 0, none⟩)), (7, .pointer (some ⟨b11, 0, none⟩)), (18, .slice Ak (((rowL a cs).take k).length) capk), (21, .agg #[.int .i64 x.1, .int .i64 x.2])] (by kernel_rfl) ?_
    refine OI_slit (E := 61) (zv := .agg #[.int .i64 0, .int .i64 0]) (sz := 2) (by_ := 16) 52 1 #[(0, (Operand.tmp 21))] [.agg #[.int .i64 x.1, .int .i64 x.2]] [.int .i64 x.1, .int .i64 x.2] (some 22) (by kernel_rfl) (by kernel_rfl) (by kernel_rfl) (by omega) rfl (by omega) (by intro v hv; simp only [List.mem_cons, List.not_mem_nil, or_false] at hv; rcases hv with rfl <;> rfl) (by kernel_rfl) rfl ?_
    intro b14 w14 e14 hb14 k14 z14
    have hsz15 := Keep.size k14
    replace jb1 := jb1.keep k14 (fun f => f)
    have hb1lt := jb1.lt
    replace jb3 := jb3.keep k14 (fun f => f)
    have hb3lt := jb3.lt
    replace jbs8 := jbs8.keep k14 (fun f => f)
    have hbs8lt := jbs8.lt
    replace jbn9 := jbn9.keep k14 (fun f => f)
    have hbn9lt := jbn9.lt
    replace jb11 := jb11.keep k14 (fun f => f)
    have hb11lt := jb11.lt
    replace jA2 := SlT.keep0 jA2 k14
    replace jAk := SlT.keep0 jAk k14
    replace jhK0 := Keep.tr jhK0 (Keep.ofNone k14); have hzjhK0 := Keep.size jhK0
    replace hfenb := Keep.tr hfenb (Keep.ofNone k14); have hzhfenb := Keep.size hfenb
    have hb14lt := hb14.lt
    refine OI_append (t := 52) (at2 := 52) (E := 61) (E2 := 61) (sz := 2) (by_ := 16) (zv := .agg #[.int .i64 0, .int .i64 0]) (m := ((rowL a cs).take k).length) (k := 1) (.tmp 18) (.tmp 22) (.slice Ak (((rowL a cs).take k).length) capk) (.slice (some ⟨b14, 0, none⟩) 1 1) (some 23) (by kernel_rfl) (by kernel_rfl) (by kernel_rfl) (by kernel_rfl) (by kernel_rfl) (by kernel_rfl) (by kernel_rfl) (SlT.slr jAk) (slr_one hb14 (lkc_len x)) (lkc_one x) (by first | omega | (simp only [List.length_nil]; omega)) (by omega) (by first | omega | (simp only [List.length_nil]; omega)) (by omega) ?_
    intro vv9 w16 hap
    obtain ⟨A16, cap16, rfl, hA16, hk16, own16x⟩ := app_one (f := lkc) (xs := ((rowL a cs).take k)) (x := x) (A := Ak) (cap := capk) hap (fun x _ => lkc_len x) (lkc_len _)
    have own16 : ∀ q, inA A16 q → M1 ≤ q := fun q hq => by rcases own16x q hq with h | h; exact ownk q h; (show M1 ≤ q; omega)
    have hsz17 := Keep.size hk16
    replace jb1 := jb1.keep hk16 (fun hs => by have h1 := ownk _ hs; have h2 := ltjAk _ hs; omega)
    have hb1lt := jb1.lt
    replace jb3 := jb3.keep hk16 (fun hs => by have h1 := ownk _ hs; have h2 := ltjAk _ hs; omega)
    have hb3lt := jb3.lt
    replace jbs8 := jbs8.keep hk16 (fun hs => by have h1 := ownk _ hs; have h2 := ltjAk _ hs; omega)
    have hbs8lt := jbs8.lt
    replace jbn9 := jbn9.keep hk16 (fun hs => by have h1 := ownk _ hs; have h2 := ltjAk _ hs; omega)
    have hbn9lt := jbn9.lt
    replace jb11 := jb11.keep hk16 (fun hs => by have h1 := ownk _ hs; have h2 := ltjAk _ hs; omega)
    have hb11lt := jb11.lt
    replace jA2 := SlT.keep jA2 hk16 (fun q hq hs => by have g0 := owA2 q hq; have g1 := ltjA2 q hq; have h1 := ownk q hs; have h2 := ltjAk q hs; omega)
    replace jhK0 := Keep.fresh jhK0 hk16 (by intro i hi hs; first | exact hs | (exfalso; have h1 := ownk i hs; have h2 := ltjAk i hs; omega) | (have h1 := ownk i hs; have h2 := ltjAk i hs; show _ ∨ _; omega)); have hzjhK0 := Keep.size jhK0
    replace hfenb := Keep.fresh hfenb hk16 (by intro i hi hs; have h1 := ownk i hs; have h2 := ltjAk i hs; show _ ∨ _; omega); have hzhfenb := Keep.size hfenb
    have lt16 := SlT.lt hA16
    refine OI_set (m := 1) (kd := false) 52 (.tmp 7) (.tmp 23) 0 (.slice A16 ((((rowL a cs).take k) ++ [x]).length) cap16) [.slice A16 ((((rowL a cs).take k) ++ [x]).length) cap16] none (by kernel_rfl) (by kernel_rfl) (by kernel_rfl) jb11 (by kernel_rfl) (by kernel_rfl) (by kernel_rfl) (Nat.le_of_ble_eq_true (by kernel_rfl)) (by simp [Value.oneCell']) ?_
    intro w18 hb11_21 hk19 hz20
    replace hb11_21 : Blk w18 b11 [.slice A16 ((((rowL a cs).take k) ++ [x]).length) cap16] 52 := hb11_21
    have hsz22 := Keep.size hk19
    replace jb1 := jb1.keep hk19 (by show ¬ (_ = _); omega)
    have hb1lt := jb1.lt
    replace jb3 := jb3.keep hk19 (by show ¬ (_ = _); omega)
    have hb3lt := jb3.lt
    replace jbs8 := jbs8.keep hk19 (by show ¬ (_ = _); omega)
    have hbs8lt := jbs8.lt
    replace jbn9 := jbn9.keep hk19 (by show ¬ (_ = _); omega)
    have hbn9lt := jbn9.lt
    replace jA2 := SlT.keep jA2 hk19 (fun q hq hs => by have hs : q = b11 := hs; have g0 := owA2 q hq; have g1 := ltjA2 q hq; omega)
    replace hA16 := SlT.keep hA16 hk19 (fun q hq hs => by have hs : q = b11 := hs; have g0 := own16 q hq; have g1 := lt16 q hq; omega)
    replace jhK0 := Keep.fresh jhK0 hk19 (by intro i hi hs; first | exact hs | exact Or.inl hs | exact Or.inr hs | (exfalso; have hs2 : i = b11 := hs; omega)); have hzjhK0 := Keep.size jhK0
    replace hfenb := Keep.fresh hfenb hk19 (by intro i hi hs; have hs2 : i = b11 := hs; show _ ∨ _; omega); have hzhfenb := Keep.size hfenb
    refine OI_end rfl ?_
    refine X_then ?_
    refine V_seq ?_
    refine V_region ?_
    refine OI_cell 52 (.tmp 7) 0 (.slice A16 ((((rowL a cs).take k) ++ [x]).length) cap16) (some 24) (by kernel_rfl) (by kernel_rfl) hb11_21 (m := 1) (by kernel_rfl) rfl ?_
    refine OI_static 3 [(4, .pointer (some ⟨b1, 0, none⟩)), (5, .pointer (some ⟨b3, 0, none⟩)), (26, .bool (decide ((((((rowL a cs).take k) ++ [x]).length : Nat) : Int) > 200)))] (by kernel_rfl) ?_
    refine OI_end rfl ?_
    refine X_then ?_
    refine V_if ((((((rowL a cs).take k) ++ [x]).length : Nat) : Int) > 200) (by kernel_rfl) (fun hc23 => ?_) (fun hc23 => ?_)
    · skip
      exact (by simp only [List.length_append, List.length_cons, List.length_nil] at hc23; omega : False).elim
    · skip
      refine V_skip ?_
      refine X_block ?_
      exact fun a _ => ⟨hfenb, A16, cap16, jb1, jb3, jbs8, jbn9, jA2, jhK0, by rw [hs1]; exact hb11_21, by rw [hs1]; exact hA16, own16⟩
  · skip
    intro D M1 W hD hM ⟨Ak, capk, jb1, jb3, jbs8, jbn9, jA2, jhK0, jb11, jAk, ownk⟩ hDD
    have hzjhK0 := Keep.size jhK0
    have hb1lt := jb1.lt
    have hb3lt := jb3.lt
    have hbs8lt := jbs8.lt
    have hbn9lt := jbn9.lt
    have hb11lt := jb11.lt
    have ltjA2 := SlT.lt jA2
    have ltjAk := SlT.lt jAk
    rw [List.take_length] at jAk jb11
    refine X_block ?_
    refine X_then ?_
    refine V_seq ?_
    refine V_region ?_
    refine OI_cell 52 (.tmp 7) 0 (.slice Ak ((rowL a cs).length) capk) (some 27) (by kernel_rfl) (by kernel_rfl) jb11 (m := 1) (by kernel_rfl) rfl ?_
    refine OI_set (m := 1) (kd := false) 52 (.tmp 4) (.tmp 27) 0 (.slice Ak ((rowL a cs).length) capk) [.slice Ak ((rowL a cs).length) capk] none (by kernel_rfl) (by kernel_rfl) (by kernel_rfl) jb1 (by kernel_rfl) (by kernel_rfl) (by kernel_rfl) (Nat.le_of_ble_eq_true (by kernel_rfl)) (by simp [Value.oneCell']) ?_
    intro w24 hb1_27 hk25 hz26
    replace hb1_27 : Blk w24 b1 [.slice Ak ((rowL a cs).length) capk] 52 := hb1_27
    have hsz28 := Keep.size hk25
    replace jb3 := jb3.keep hk25 (by show ¬ (_ = _); omega)
    have hb3lt := jb3.lt
    replace jbs8 := jbs8.keep hk25 (by show ¬ (_ = _); omega)
    have hbs8lt := jbs8.lt
    replace jbn9 := jbn9.keep hk25 (by show ¬ (_ = _); omega)
    have hbn9lt := jbn9.lt
    replace jb11 := jb11.keep hk25 (by show ¬ (_ = _); omega)
    have hb11lt := jb11.lt
    replace jA2 := SlT.keep jA2 hk25 (fun q hq hs => by have hs : q = b1 := hs; have g0 := owA2 q hq; have g1 := ltjA2 q hq; omega)
    replace jAk := SlT.keep jAk hk25 (fun q hq hs => by have hs : q = b1 := hs; have g0 := ownk q hq; have g1 := ltjAk q hq; omega)
    replace jhK0 := Keep.fresh jhK0 hk25 (by intro i hi hs; first | exact hs | exact Or.inl hs | exact Or.inr hs | (exfalso; have hs2 : i = b1 := hs; omega)); have hzjhK0 := Keep.size jhK0
    replace hDD := (Keep.block hk25 _ (Array.getElem?_eq_some_iff.1 hDD).1 (by show ¬ (_ = _); omega)).trans hDD
    refine OI_set (m := 1) (kd := false) 4 (.tmp 5) (.const (Value.bool true)) 0 (.bool true) [.bool true] none (by kernel_rfl) (by kernel_rfl) (by kernel_rfl) jb3 (by kernel_rfl) (by kernel_rfl) (by kernel_rfl) (Nat.le_of_ble_eq_true (by kernel_rfl)) (by simp [Value.oneCell']) ?_
    intro w29 hb3_32 hk30 hz31
    replace hb3_32 : Blk w29 b3 [.bool true] 4 := hb3_32
    have hsz33 := Keep.size hk30
    replace hb1_27 := hb1_27.keep hk30 (by show ¬ (_ = _); omega)
    have hb1lt := hb1_27.lt
    replace jbs8 := jbs8.keep hk30 (by show ¬ (_ = _); omega)
    have hbs8lt := jbs8.lt
    replace jbn9 := jbn9.keep hk30 (by show ¬ (_ = _); omega)
    have hbn9lt := jbn9.lt
    replace jb11 := jb11.keep hk30 (by show ¬ (_ = _); omega)
    have hb11lt := jb11.lt
    replace jA2 := SlT.keep jA2 hk30 (fun q hq hs => by have hs : q = b3 := hs; have g0 := owA2 q hq; have g1 := ltjA2 q hq; omega)
    replace jAk := SlT.keep jAk hk30 (fun q hq hs => by have hs : q = b3 := hs; have g0 := ownk q hq; have g1 := ltjAk q hq; omega)
    replace jhK0 := Keep.fresh jhK0 hk30 (by intro i hi hs; first | exact hs | exact Or.inl hs | exact Or.inr hs | (exfalso; have hs2 : i = b3 := hs; omega)); have hzjhK0 := Keep.size jhK0
    replace hDD := (Keep.block hk30 _ (Array.getElem?_eq_some_iff.1 hDD).1 (by show ¬ (_ = _); omega)).trans hDD
    refine OI_end rfl ?_
    refine X_then ?_
    refine V_ret ?_
    exact leave1 (.tuple #[.slice Ak (rowL a cs).length capk, .bool true]) (.inl rfl) hDD (fun w' hk => ⟨res_cells2 (n1 := 1) (n2 := 1) rfl rfl rfl (by kernel_rfl) (by kernel_rfl) (Blk.quiet hb1_27 hk) (Blk.quiet hb3_32 hk) , ⟨Ak, capk, rfl, SlT.quiet jAk hk, Keep.quiet jhK0 hk (by omega), fun q h => (by have := ownk q h; omega)⟩⟩)

theorem walk_LedgerOfNothing (a n : Int) (w : World) : Calls Try.prog 13 #[.int .i64 a, .int .i64 n] w fun e w' => e = .returned (.bool true) ∧ Keep none_ w w' := by
  have hK0 : Keep none_ w w := Keep.refl _ _
  have hzhK0 := Keep.size hK0
  refine enterV Try.func13 rfl [.int .i64 a, .int .i64 n] 77 rfl rfl rfl ?_
  refine V_pick [(0, .int .i64 a), (1, .int .i64 n)] rfl ?_
  refine V_seq ?_
  refine V_region ?_
  refine OI_static 1 [(0, .int .i64 a), (1, .int .i64 n)] (by kernel_rfl) ?_
  refine OI_end rfl ?_
  refine X_then ?_
  refine V_seq ?_
  refine V_region ?_
  refine OI_static 1 [(0, .int .i64 a), (1, .int .i64 n), (5, .pointer none)] (by kernel_rfl) ?_
  refine OI_end rfl ?_
  refine X_then ?_
  refine V_seq ?_
  refine V_region ?_
  refine OI_static 3 [(0, .int .i64 a), (1, .int .i64 n), (5, .pointer none), (8, .pointer none), (9, .int .i64 a), (10, .int .i64 n)] (by kernel_rfl) ?_
  refine OI_call { callee := (Callee.value (Operand.func 15)), args := #[(Operand.tmp 8), (Operand.tmp 9), (Operand.const (Value.int IntKind.i64 1)), (Operand.tmp 10)], argTypes := #[22, 3, 3, 3] } 15 #[.pointer none, .int .i64 a, .int .i64 1, .int .i64 n] (some 11) (by kernel_rfl) (by kernel_rfl) (by kernel_rfl) (lock_nil a 1 n _) ?_
  rintro _ w1 ⟨rfl, hk2⟩
  refine ⟨_, rfl, ?_⟩
  have hsz3 := Keep.size hk2
  replace hK0 := Keep.tr hK0 (Keep.ofNone hk2); have hzhK0 := Keep.size hK0
  refine OI_end rfl ?_
  refine X_then ?_
  refine V_seq ?_
  refine V_region ?_
  refine OI_static 2 [(0, .int .i64 a), (1, .int .i64 n), (5, .pointer none), (13, .pointer none), (14, .int .i64 a)] (by kernel_rfl) ?_
  refine OI_call { callee := (Callee.value (Operand.func 31)), args := #[(Operand.tmp 13), (Operand.tmp 14)], argTypes := #[22, 3] } 31 #[.pointer none, .int .i64 a] (some 15) (by kernel_rfl) (by kernel_rfl) (by kernel_rfl) (lockl_nil a _) ?_
  rintro _ w4 ⟨rfl, hk5⟩
  refine ⟨_, rfl, ?_⟩
  have hsz6 := Keep.size hk5
  replace hK0 := Keep.tr hK0 (Keep.ofNone hk5); have hzhK0 := Keep.size hK0
  refine OI_static 8 [(0, .int .i64 a), (1, .int .i64 n), (5, .pointer none), (6, .slice none 0 0)] (by kernel_rfl) ?_
  refine OI_end rfl ?_
  refine X_then ?_
  refine V_seq ?_
  refine V_region ?_
  refine OI_static 2 [(0, .int .i64 a), (1, .int .i64 n), (5, .pointer none), (6, .slice none 0 0), (18, .pointer none), (19, .int .i64 a)] (by kernel_rfl) ?_
  refine OI_call { callee := (Callee.value (Operand.func 20)), args := #[(Operand.tmp 18), (Operand.tmp 19)], argTypes := #[22, 3] } 20 #[.pointer none, .int .i64 a] (some 20) (by kernel_rfl) (by kernel_rfl) (by kernel_rfl) (free_nil a _) ?_
  rintro _ w7 ⟨rfl, hk8⟩
  refine ⟨_, rfl, ?_⟩
  have hsz9 := Keep.size hk8
  replace hK0 := Keep.tr hK0 (Keep.ofNone hk8); have hzhK0 := Keep.size hK0
  refine OI_static 5 [(0, .int .i64 a), (1, .int .i64 n), (5, .pointer none), (6, .slice none 0 0), (20, .int .i64 0), (21, .pointer none), (22, .int .i64 a)] (by kernel_rfl) ?_
  refine OI_call { callee := (Callee.value (Operand.func 22)), args := #[(Operand.tmp 21), (Operand.tmp 22)], argTypes := #[22, 3] } 22 #[.pointer none, .int .i64 a] (some 23) (by kernel_rfl) (by kernel_rfl) (by kernel_rfl) (held_nil a _) ?_
  rintro _ w10 ⟨rfl, hk11⟩
  refine ⟨_, rfl, ?_⟩
  have hsz12 := Keep.size hk11
  replace hK0 := Keep.tr hK0 (Keep.ofNone hk11); have hzhK0 := Keep.size hK0
  refine OI_static 9 [(0, .int .i64 a), (1, .int .i64 n), (5, .pointer none), (6, .slice none 0 0), (24, .int .i64 0), (25, .pointer none), (26, .int .i64 a)] (by kernel_rfl) ?_
  refine OI_call { callee := (Callee.value (Operand.func 16)), args := #[(Operand.tmp 25), (Operand.tmp 26)], argTypes := #[22, 3] } 16 #[.pointer none, .int .i64 a] (some 27) (by kernel_rfl) (by kernel_rfl) (by kernel_rfl) (locked_nil a _) ?_
  rintro _ w13 ⟨rfl, hk14⟩
  refine ⟨_, rfl, ?_⟩
  have hsz15 := Keep.size hk14
  replace hK0 := Keep.tr hK0 (Keep.ofNone hk14); have hzhK0 := Keep.size hK0
  refine OI_static 12 [(0, .int .i64 a), (1, .int .i64 n), (5, .pointer none), (6, .slice none 0 0), (28, .int .i64 0), (29, .pointer none)] (by kernel_rfl) ?_
  refine OI_call { callee := (Callee.value (Operand.func 19)), args := #[(Operand.tmp 29)], argTypes := #[22] } 19 #[.pointer none] (some 30) (by kernel_rfl) (by kernel_rfl) (by kernel_rfl) (issued_nil _) ?_
  rintro _ w16 ⟨rfl, hk17⟩
  refine ⟨_, rfl, ?_⟩
  have hsz18 := Keep.size hk17
  replace hK0 := Keep.tr hK0 (Keep.ofNone hk17); have hzhK0 := Keep.size hK0
  refine OI_static 17 [(0, .int .i64 a), (1, .int .i64 n), (5, .pointer none), (6, .slice none 0 0), (31, .int .i64 0), (32, .pointer none), (33, .int .i64 a), (34, .int .i64 n)] (by kernel_rfl) ?_
  refine OI_call { callee := (Callee.value (Operand.func 27)), args := #[(Operand.tmp 32), (Operand.tmp 33), (Operand.tmp 34)], argTypes := #[22, 3, 3] } 27 #[.pointer none, .int .i64 a, .int .i64 n] (some 35) (by kernel_rfl) (by kernel_rfl) (by kernel_rfl) (release_nil a n _) ?_
  rintro _ w19 ⟨rfl, hk20⟩
  refine ⟨_, rfl, ?_⟩
  have hsz21 := Keep.size hk20
  replace hK0 := Keep.tr hK0 (Keep.ofNone hk20); have hzhK0 := Keep.size hK0
  refine OI_static 22 [(0, .int .i64 a), (1, .int .i64 n), (5, .pointer none), (6, .slice none 0 0), (36, .int .i64 0), (37, .pointer none), (38, .int .i64 a), (39, .int .i64 n)] (by kernel_rfl) ?_
  refine OI_call { callee := (Callee.value (Operand.func 26)), args := #[(Operand.tmp 37), (Operand.tmp 38), (Operand.tmp 39)], argTypes := #[22, 3, 3] } 26 #[.pointer none, .int .i64 a, .int .i64 n] (some 40) (by kernel_rfl) (by kernel_rfl) (by kernel_rfl) (slash_nil a n _) ?_
  rintro _ w22 ⟨rfl, hk23⟩
  refine ⟨_, rfl, ?_⟩
  have hsz24 := Keep.size hk23
  replace hK0 := Keep.tr hK0 (Keep.ofNone hk23); have hzhK0 := Keep.size hK0
  refine OI_static 32 [(0, .int .i64 a), (1, .int .i64 n), (5, .pointer none), (46, .bool true), (47, .pointer none), (48, .int .i64 a), (49, .int .i64 n)] (by kernel_rfl) ?_
  refine OI_call { callee := (Callee.value (Operand.func 17)), args := #[(Operand.tmp 47), (Operand.tmp 48), (Operand.const (Value.int IntKind.i64 1)), (Operand.tmp 49)], argTypes := #[22, 3, 3, 3] } 17 #[.pointer none, .int .i64 a, .int .i64 1, .int .i64 n] (some 50) (by kernel_rfl) (by kernel_rfl) (by kernel_rfl) (transfer_nil a 1 n _) ?_
  rintro _ w25 ⟨rfl, hk26⟩
  refine ⟨_, rfl, ?_⟩
  have hsz27 := Keep.size hk26
  replace hK0 := Keep.tr hK0 (Keep.ofNone hk26); have hzhK0 := Keep.size hK0
  refine OI_static 39 [(0, .int .i64 a), (1, .int .i64 n), (5, .pointer none), (53, .bool true), (54, .pointer none), (55, .int .i64 a), (56, .int .i64 n)] (by kernel_rfl) ?_
  refine OI_call { callee := (Callee.value (Operand.func 21)), args := #[(Operand.tmp 54), (Operand.tmp 55), (Operand.tmp 56)], argTypes := #[22, 3, 3] } 21 #[.pointer none, .int .i64 a, .int .i64 n] (some 57) (by kernel_rfl) (by kernel_rfl) (by kernel_rfl) (reserve_nil a n _) ?_
  rintro _ w28 ⟨rfl, hk29⟩
  refine ⟨_, rfl, ?_⟩
  have hsz30 := Keep.size hk29
  replace hK0 := Keep.tr hK0 (Keep.ofNone hk29); have hzhK0 := Keep.size hK0
  refine OI_static 46 [(0, .int .i64 a), (1, .int .i64 n), (5, .pointer none), (60, .bool true), (61, .pointer none), (62, .int .i64 a), (63, .int .i64 n)] (by kernel_rfl) ?_
  refine OI_call { callee := (Callee.value (Operand.func 23)), args := #[(Operand.tmp 61), (Operand.tmp 62), (Operand.tmp 63)], argTypes := #[22, 3, 3] } 23 #[.pointer none, .int .i64 a, .int .i64 n] (some 64) (by kernel_rfl) (by kernel_rfl) (by kernel_rfl) (mint_nil a n _) ?_
  rintro _ w31 ⟨rfl, hk32⟩
  refine ⟨_, rfl, ?_⟩
  have hsz33 := Keep.size hk32
  replace hK0 := Keep.tr hK0 (Keep.ofNone hk32); have hzhK0 := Keep.size hK0
  refine OI_static 53 [(67, .bool true), (68, .pointer none), (69, .int .i64 a), (70, .int .i64 n)] (by kernel_rfl) ?_
  refine OI_call { callee := (Callee.value (Operand.func 24)), args := #[(Operand.tmp 68), (Operand.tmp 69), (Operand.tmp 70)], argTypes := #[22, 3, 3] } 24 #[.pointer none, .int .i64 a, .int .i64 n] (some 71) (by kernel_rfl) (by kernel_rfl) (by kernel_rfl) (burn_nil a n _) ?_
  rintro _ w34 ⟨rfl, hk35⟩
  refine ⟨_, rfl, ?_⟩
  have hsz36 := Keep.size hk35
  replace hK0 := Keep.tr hK0 (Keep.ofNone hk35); have hzhK0 := Keep.size hK0
  refine OI_static 57 [(74, .bool true)] (by kernel_rfl) ?_
  refine OI_call { callee := (Callee.value (Operand.func 18)), args := #[], argTypes := #[] } 18 #[] (some 75) (by kernel_rfl) (by kernel_rfl) (by kernel_rfl) (known_spec _) ?_
  rintro _ w37 ⟨rfl, hk38⟩
  refine ⟨_, rfl, ?_⟩
  have hsz39 := Keep.size hk38
  replace hK0 := Keep.tr hK0 (Keep.ofNone hk38); have hzhK0 := Keep.size hK0
  refine OI_static 60 [(4, .bool true)] (by kernel_rfl) ?_
  refine OI_end rfl ?_
  refine X_then ?_
  refine V_ret ?_
  exact X_return (.bool true) rfl ⟨rfl, hK0⟩
end Go.Al
