/-
  Walks of package agenda: all tasks.
-/
import Derived.Test.YtbfecgncndaodaaAg7
import Derived.Test.YtbfecgncndaodaaRng
namespace Go.Al
open Go Go.RowKit Go.Proofs
/-! ### All tasks, one behind the other -/
def encT (ts : List Tk) (k : Nat) : Array Value := #[match ts[k]? with | some t => .agg t.cells.toArray | none => undef]
theorem encT_at {ts : List Tk} {k : Nat} {t : Tk} (h : ts[k]? = some t) : encT ts k = #[.agg t.cells.toArray] := by unfold encT; rw [h]

theorem all1_iter (c g cap : Nat) (A : Option Addr) (ts : List Tk) (hn : ts.length ≤ 1000000) : Iter Try.prog 30 #[.pointer (some ⟨c, 0, none⟩)] ts.length (encT ts) (fun W => Blk W c [.pointer (some ⟨g, 0, none⟩)] 23 ∧ AgAt W g A cap ts) (fun W => SlT W 36 Tk.cells A cap ts) := by
  intro l J Jx w hPre hJ hJx hY hOk h0
  obtain ⟨hc, h⟩ := hPre
  have hg := h.blk
  have hA := h.sl
  have hglt := hg.lt
  have hclt := hc.lt
  show Calls Try.prog 30 #[.func (.yield l) #[] #[], .pointer (some ⟨c, 0, none⟩)] w _
  have hK0 : Keep none_ w w := Keep.refl _ _
  have hzhK0 := Keep.size hK0
  refine enterV Try.func30 rfl [.func (.yield l) #[] #[], .pointer (some ⟨c, 0, none⟩)] 21 rfl rfl rfl ?_
  refine V_pick [(0, .func (.yield l) #[] #[]), (1, .pointer (some ⟨c, 0, none⟩))] rfl ?_
  refine V_seq ?_
  refine V_seq ?_
  refine V_region ?_
  refine OI_cell 23 (.tmp 1) 0 (.pointer (some ⟨g, 0, none⟩)) (some 5) (by kernel_rfl) (by kernel_rfl) hc (m := 1) (by kernel_rfl) rfl ?_
  refine OI_static 2 [(0, .func (.yield l) #[] #[]), (1, .pointer (some ⟨c, 0, none⟩)), (6, .bool false)] (by kernel_rfl) ?_
  refine OI_end rfl ?_
  refine X_then ?_
  refine V_false rfl ?_
  refine V_skip ?_
  refine X_then ?_
  refine V_seq ?_
  refine V_region ?_
  refine OI_cell 23 (.tmp 1) 0 (.pointer (some ⟨g, 0, none⟩)) (some 7) (by kernel_rfl) (by kernel_rfl) hc (m := 1) (by kernel_rfl) rfl ?_
  refine OI_static 3 [(0, .func (.yield l) #[] #[]), (9, .pointer (some ⟨g, 0, none⟩))] (by kernel_rfl) ?_
  refine OI_cell 31 (.tmp 9) 0 (.slice A ts.length cap) (some 10) (by kernel_rfl) (by kernel_rfl) hg (m := 1) (by kernel_rfl) rfl ?_
  refine OI_static 6 [(0, .func (.yield l) #[] #[]), (10, .slice A ts.length cap), (11, .int .i64 ((ts.length : Nat) : Int)), (12, .int .i64 0)] (by kernel_rfl) ?_
  refine OI_end rfl ?_
  refine X_then ?_
  refine V_block ?_
  have hj0 := hJ 0 _ _ h0 (Keep.ofNone hK0)
  refine V_pick [(0, .func (.yield l) #[] #[]), (10, .slice A ts.length cap), (11, .int .i64 ((ts.length : Nat) : Int)), (12, .int .i64 0)] rfl ?_
  refine V_loop (fun k wI e => ∃ i : Nat, (k + i = ts.length) ∧ (J i wI) ∧ e = [(0, .func (.yield l) #[] #[]), (10, .slice A ts.length cap), (11, .int .i64 ((ts.length : Nat) : Int)), (12, .int .i64 ((i : Nat) : Int))]) ts.length ⟨0, rfl, hj0, rfl⟩ ?_
  rintro k2 w1 _ ⟨i, hki, hj, rfl⟩
  have hA := hOk _ _ hj
  have hkh : Keep none_ w1 w1 := Keep.refl _ _
  have hzhkh := Keep.size hkh
  refine V_seq ?_
  refine V_region ?_
  refine OI_static 1 [(0, .func (.yield l) #[] #[]), (10, .slice A ts.length cap), (11, .int .i64 ((ts.length : Nat) : Int)), (12, .int .i64 ((i : Nat) : Int)), (13, .bool (decide (((i : Nat) : Int) < ((ts.length : Nat) : Int))))] (by kernel_rfl) ?_
  refine OI_end rfl ?_
  refine X_then ?_
  refine V_seq ?_
  refine V_if (((i : Nat) : Int) < ((ts.length : Nat) : Int)) (by kernel_rfl) (fun hc4 => ?_) (fun hc4 => ?_)
  · skip
    refine V_skip ?_
    refine X_then ?_
    refine V_seq ?_
    refine V_block ?_
    refine V_seq ?_
    refine V_region ?_
    obtain ⟨b5, o5, L5, T5, rfl, hat5⟩ := SlT.open_ hA (by first | omega | simp | (simp; omega))
    have hb5lt := hat5.blk.lt
    refine OI_pure (some 14) (.indexAddr 31 (.tmp 10) (.tmp 12)) (by kernel_rfl) (pure_idxN (b := b5) (o := o5) (len := ts.length) (cap := cap) (kd := .i64) (j := i) (E := 28) (sz := 36) (by_ := 64) (by kernel_rfl) (by kernel_rfl) (by kernel_rfl) (by omega)) ?_
    obtain ⟨x6, hx7⟩ : ∃ x, ts[i]? = some x := ⟨_, List.getElem?_eq_getElem (by omega)⟩
    refine OI_agg 28 (.tmp 14) (o5 + i * 36) (Tk.cells x6) (some 15) (by kernel_rfl) (by kernel_rfl) hat5.blk (m := 36) (by kernel_rfl) (At.elem' hat5 (es_at hx7)) (At.len hat5 (es_at hx7)) ?_
    refine OI_alloc 28 (.agg #[.int .i64 0, .int .i64 0, .int .i64 0, .int .u8 0, .int .u8 0, .int .u8 0, .int .u8 0, .int .u8 0, .int .u8 0, .int .u8 0, .int .u8 0, .int .u8 0, .int .u8 0, .int .u8 0, .int .u8 0, .int .u8 0, .int .u8 0, .int .u8 0, .int .u8 0, .int .u8 0, .int .u8 0, .int .u8 0, .int .u8 0, .int .u8 0, .int .u8 0, .int .u8 0, .int .u8 0, .int .u8 0, .int .u8 0, .int .u8 0, .int .u8 0, .int .u8 0, .int .u8 0, .int .u8 0, .int .u8 0, .int .i64 0]) [.int .i64 0, .int .i64 0, .int .i64 0, .int .u8 0, .int .u8 0, .int .u8 0, .int .u8 0, .int .u8 0, .int .u8 0, .int .u8 0, .int .u8 0, .int .u8 0, .int .u8 0, .int .u8 0, .int .u8 0, .int .u8 0, .int .u8 0, .int .u8 0, .int .u8 0, .int .u8 0, .int .u8 0, .int .u8 0, .int .u8 0, .int .u8 0, .int .u8 0, .int .u8 0, .int .u8 0, .int .u8 0, .int .u8 0, .int .u8 0, .int .u8 0, .int .u8 0, .int .u8 0, .int .u8 0, .int .u8 0, .int .i64 0] (some 4) (by kernel_rfl) (by kernel_rfl) (by kernel_rfl) ?_
    intro b8 w8 e8 hb8 k8 z8
    replace hat5 := hat5.keep k8 (fun f => f)
    have hb5lt := hat5.blk.lt
    replace hkh := Keep.tr hkh (Keep.ofNone k8); have hzhkh := Keep.size hkh
    have hb8lt := hb8.lt
    refine OI_set (m := 36) (kd := true) 28 (.tmp 4) (.tmp 15) 0 (.agg (Tk.cells x6).toArray) (Tk.cells x6) none (by kernel_rfl) (by kernel_rfl) (by kernel_rfl) hb8 (by kernel_rfl) rfl (Tk.len _) (Nat.le_of_ble_eq_true (by kernel_rfl)) (Tk.one _) ?_
    intro w9 hb8_12 hk10 hz11
    replace hb8_12 : Blk w9 b8 (Tk.cells x6) 28 := (by rwa [over_whole (by rw [Tk.len]; rfl)] at hb8_12)
    replace hat5 := hat5.keep hk10 (by show ¬ (_ = _); omega)
    have hb5lt := hat5.blk.lt
    replace hkh := Keep.fresh hkh hk10 (by intro i hi hs; first | exact hs | exact Or.inl hs | exact Or.inr hs | (exfalso; have hs2 : i = b8 := hs; omega)); have hzhkh := Keep.size hkh
    refine OI_end rfl ?_
    refine X_then ?_
    refine V_seq ?_
    refine V_region ?_
    refine OI_static 1 [(0, .func (.yield l) #[] #[]), (4, .pointer (some ⟨b8, 0, none⟩)), (10, .slice (some ⟨b5, o5, none⟩) ts.length cap), (11, .int .i64 ((ts.length : Nat) : Int)), (12, .int .i64 ((i : Nat) : Int)), (16, .func (.yield l) #[] #[])] (by kernel_rfl) ?_
    refine OI_agg 28 (.tmp 4) 0 (Tk.cells x6) (some 17) (by kernel_rfl) (by kernel_rfl) hb8_12 (m := 36) (by kernel_rfl) (take_all (Tk.len _)) (Tk.len _) ?_
    refine OI_yield { callee := (Callee.value (Operand.tmp 16)), args := #[(Operand.tmp 17)], argTypes := #[28] } l #[.agg (Tk.cells x6).toArray] (some 18) (by kernel_rfl) (by kernel_rfl) (by have hy := hY i _ (by omega) (hJ i _ _ hj (Keep.ofNone hkh)); rw [encT_at hx7] at hy; exact hy) ?_
    rintro _ w13 (⟨rfl, hj14⟩ | ⟨rfl, hj14⟩)
    · skip
      refine ⟨_, rfl, ?_⟩
      refine OI_static 4 [(0, .func (.yield l) #[] #[]), (10, .slice (some ⟨b5, o5, none⟩) ts.length cap), (11, .int .i64 ((ts.length : Nat) : Int)), (12, .int .i64 ((i : Nat) : Int)), (19, .bool false)] (by kernel_rfl) ?_
      refine OI_end rfl ?_
      refine X_then ?_
      refine V_false rfl ?_
      refine V_skip ?_
      refine X_block ?_
      refine X_then ?_
      refine V_region ?_
      have hw15 : IntKind.i64.wrap (((i : Nat) : Int) + 1) = ((i + 1 : Nat) : Int) := (wrap64_id (by omega) (by omega)).trans (by omega)
      refine OI_static 1 [(0, .func (.yield l) #[] #[]), (10, .slice (some ⟨b5, o5, none⟩) ts.length cap), (11, .int .i64 ((ts.length : Nat) : Int)), (20, .int .i64 (IntKind.i64.wrap (((i : Nat) : Int) + 1)))] (by kernel_rfl) ?_
      refine OI_eq [(0, .func (.yield l) #[] #[]), (10, .slice (some ⟨b5, o5, none⟩) ts.length cap), (11, .int .i64 ((ts.length : Nat) : Int)), (20, .int .i64 ((i + 1 : Nat) : Int))] (by rw [hw15]) ?_
      refine OI_static 2 [(0, .func (.yield l) #[] #[]), (10, .slice (some ⟨b5, o5, none⟩) ts.length cap), (11, .int .i64 ((ts.length : Nat) : Int)), (12, .int .i64 ((i + 1 : Nat) : Int))] (by kernel_rfl) ?_
      refine OI_end rfl ?_
      exact V_again (k2 - 1) (by omega) [(0, .func (.yield l) #[] #[]), (10, .slice (some ⟨b5, o5, none⟩) ts.length cap), (11, .int .i64 ((ts.length : Nat) : Int)), (12, .int .i64 ((i + 1 : Nat) : Int))] rfl ⟨i + 1, by omega, hj14, rfl⟩
    · skip
      refine ⟨_, rfl, ?_⟩
      refine OI_static 4 [(0, .func (.yield l) #[] #[]), (10, .slice (some ⟨b5, o5, none⟩) ts.length cap), (11, .int .i64 ((ts.length : Nat) : Int)), (12, .int .i64 ((i : Nat) : Int)), (19, .bool true)] (by kernel_rfl) ?_
      refine OI_end rfl ?_
      refine X_then ?_
      refine V_true rfl ?_
      refine V_ret ?_
      refine X_ret_block ?_
      refine X_ret_then ?_
      refine X_ret_then ?_
      refine X_ret_block ?_
      exact X_return _ rfl ⟨⟨_, rfl⟩, .inr ⟨i + 1, by omega, hj14⟩⟩
  · skip
    refine V_exit ?_
    refine X_exit_then ?_
    refine X_exit_then ?_
    refine X_exit_here ?_
    have he : i = ts.length := by omega
    rw [he] at hj
    exact X_end _ rfl ⟨⟨_, rfl⟩, .inl (hJ _ _ _ hj (Keep.ofNone hkh))⟩

theorem allfn_spec (v : Value) (hv : v.cells = [v].toArray) (w : World) : Calls Try.prog 22 #[v] w fun e w' => ∃ c, e = .returned (.func (.func 30) #[] #[.pointer (some ⟨c, 0, none⟩)]) ∧ Blk w' c [v] 23 ∧ Keep none_ w w' ∧ w.heap.size ≤ c := by
  have hK0 : Keep none_ w w := Keep.refl _ _
  have hzhK0 := Keep.size hK0
  refine enterV Try.func22 rfl [v] 4 rfl rfl rfl ?_
  refine V_pick [(0, v)] rfl ?_
  refine V_seq ?_
  refine V_region ?_
  refine OI_box 23 (.tmp 0) v [v] (some 1) (by kernel_rfl) (by kernel_rfl) hv ?_
  intro b1 w1 e1 hb1 k1 z1
  replace hK0 := Keep.tr hK0 (Keep.ofNone k1); have hzhK0 := Keep.size hK0
  have hb1lt := hb1.lt
  refine OI_static 2 [(1, .pointer (some ⟨b1, 0, none⟩))] (by kernel_rfl) ?_
  refine OI_end rfl ?_
  refine X_then ?_
  refine V_seq ?_
  refine V_region ?_
  refine OI_static 2 [(2, .func (.func 30) #[] #[.pointer (some ⟨b1, 0, none⟩)])] (by kernel_rfl) ?_
  refine OI_end rfl ?_
  refine X_then ?_
  refine V_ret ?_
  exact X_return _ rfl ⟨_, rfl, hb1, hK0, by omega⟩

theorem all_spec (D0 : Nat → Prop) (g : Nat) (ts : List Tk) (w : World) (h : Ag D0 w g ts) : Calls Try.prog 16 #[.pointer (some ⟨g, 0, none⟩)] w fun e w' => ∃ A' cap', e = .returned (.tuple #[.slice A' ts.length cap', .bool true]) ∧ SlT w' 36 Tk.cells A' cap' ts ∧ Keep none_ w w' ∧ (∀ k, inA A' k → w.heap.size ≤ k) := by
  obtain ⟨hs, hlen, A, cap, h, hDA⟩ := h
  have hgA := h.off
  have hg := h.blk
  have hA := h.sl
  have hglt := hg.lt
  have hltA := SlT.lt hA
  have hK0 : Keep none_ w w := Keep.refl _ _
  have hzhK0 := Keep.size hK0
  refine enterM Try.func16 rfl [.pointer (some ⟨g, 0, none⟩)] 21 rfl rfl rfl ?_
  refine V_pick [(0, .pointer (some ⟨g, 0, none⟩))] rfl ?_
  refine V_seq ?_
  refine V_region ?_
  refine OI_alloc 31 (.slice none 0 0) [.slice none 0 0] (some 2) (by kernel_rfl) (by kernel_rfl) (by kernel_rfl) ?_
  intro b1 w1 e1 hb1 k1 z1
  replace hg := hg.keep k1 (fun f => f)
  have hglt := hg.lt
  replace hA := SlT.keep0 hA k1
  replace hK0 := Keep.tr hK0 (Keep.ofNone k1); have hzhK0 := Keep.size hK0
  have hb1lt := hb1.lt
  refine OI_alloc 4 (.bool false) [.bool false] (some 3) (by kernel_rfl) (by kernel_rfl) (by kernel_rfl) ?_
  intro b2 w2 e2 hb2 k2 z2
  replace hg := hg.keep k2 (fun f => f)
  have hglt := hg.lt
  replace hb1 := hb1.keep k2 (fun f => f)
  have hb1lt := hb1.lt
  replace hA := SlT.keep0 hA k2
  replace hK0 := Keep.tr hK0 (Keep.ofNone k2); have hzhK0 := Keep.size hK0
  have hb2lt := hb2.lt
  refine OI_end rfl ?_
  refine X_then ?_
  refine V_seq ?_
  refine V_region ?_
  refine OI_static 1 [(2, .pointer (some ⟨b1, 0, none⟩)), (3, .pointer (some ⟨b2, 0, none⟩)), (7, .pointer (some ⟨g, 0, none⟩))] (by kernel_rfl) ?_
  refine OI_call { callee := (Callee.value (Operand.func 22)), args := #[(Operand.tmp 7)], argTypes := #[23] } 22 #[.pointer (some ⟨g, 0, none⟩)] (some 8) (by kernel_rfl) (by kernel_rfl) (by kernel_rfl) (allfn_spec _ rfl _) ?_
  rintro _ w3 ⟨c5, rfl, hc5, hk4, hgec5⟩
  refine ⟨_, rfl, ?_⟩
  replace hg := hg.keep hk4 (fun f => f)
  have hglt := hg.lt
  replace hb1 := hb1.keep hk4 (fun f => f)
  have hb1lt := hb1.lt
  replace hb2 := hb2.keep hk4 (fun f => f)
  have hb2lt := hb2.lt
  replace hA := SlT.keep0 hA hk4
  replace hK0 := Keep.tr hK0 (Keep.ofNone hk4); have hzhK0 := Keep.size hK0
  have hc5lt := hc5.lt
  refine OI_static 3 [(2, .pointer (some ⟨b1, 0, none⟩)), (3, .pointer (some ⟨b2, 0, none⟩)), (4, .func (.func 30) #[] #[.pointer (some ⟨c5, 0, none⟩)])] (by kernel_rfl) ?_
  refine OI_end rfl ?_
  refine X_then ?_
  refine V_seq ?_
  refine V_seq ?_
  refine V_region ?_
  refine OI_static 2 [(2, .pointer (some ⟨b1, 0, none⟩)), (3, .pointer (some ⟨b2, 0, none⟩)), (4, .func (.func 30) #[] #[.pointer (some ⟨c5, 0, none⟩)]), (10, .bool false)] (by kernel_rfl) ?_
  refine OI_end rfl ?_
  refine X_then ?_
  refine V_false rfl ?_
  refine V_skip ?_
  refine X_then ?_
  refine V_seq ?_
  refine V_region ?_
  refine OI_alloc 31 (.slice none 0 0) [.slice none 0 0] (some 5) (by kernel_rfl) (by kernel_rfl) (by kernel_rfl) ?_
  intro b6 w6 e6 hb6 k6 z6
  replace hg := hg.keep k6 (fun f => f)
  have hglt := hg.lt
  replace hb1 := hb1.keep k6 (fun f => f)
  have hb1lt := hb1.lt
  replace hb2 := hb2.keep k6 (fun f => f)
  have hb2lt := hb2.lt
  replace hc5 := hc5.keep k6 (fun f => f)
  have hc5lt := hc5.lt
  replace hA := SlT.keep0 hA k6
  replace hK0 := Keep.tr hK0 (Keep.ofNone k6); have hzhK0 := Keep.size hK0
  have hb6lt := hb6.lt
  refine OI_end rfl ?_
  refine X_then ?_
  refine V_seq ?_
  refine V_seq ?_
  refine V_region ?_
  refine OI_static 1 [(2, .pointer (some ⟨b1, 0, none⟩)), (3, .pointer (some ⟨b2, 0, none⟩)), (5, .pointer (some ⟨b6, 0, none⟩)), (11, .func (.func 30) #[] #[.pointer (some ⟨c5, 0, none⟩)])] (by kernel_rfl) ?_
  refine OI_end rfl ?_
  refine X_then ?_
  refine V_block ?_
  refine V_pick [(2, .pointer (some ⟨b1, 0, none⟩)), (3, .pointer (some ⟨b2, 0, none⟩)), (5, .pointer (some ⟨b6, 0, none⟩)), (11, .func (.func 30) #[] #[.pointer (some ⟨c5, 0, none⟩)])] rfl ?_
  have hN0 : w.heap.size ≤ w6.heap.size := hzhK0
  refine V_range (gf := 30) (caps := #[.pointer (some ⟨c5, 0, none⟩)]) (by kernel_rfl) (by kernel_rfl) (by kernel_rfl) (all1_iter c5 g cap A ts (by omega)) ⟨hc5, ⟨hg, hA, hgA⟩⟩ (fun W W' h k => ⟨h.1.quiet k, ⟨h.2.blk.quiet k, h.2.sl.quiet k, h.2.off⟩⟩) (fun _ => rfl) (fun k W => ∃ A1 cap1, Blk W b6 [.slice A1 (ts.take k).length cap1] 31 ∧ SlT W 36 Tk.cells A1 cap1 (ts.take k) ∧ (∀ q, inA A1 q → w.heap.size ≤ q ∧ q ≠ b1 ∧ q ≠ b2 ∧ q ≠ b6) ∧ Blk W b1 [.slice none 0 0] 31 ∧ Blk W b2 [.bool false] 4 ∧ SlT W 36 Tk.cells A cap ts ∧ Keep none_ w W) (fun _ _ _ => False) (fun k W W' h hk => by obtain ⟨A1, cap1, h1, h2, h3, h4, h5, h6, h7⟩ := h; exact ⟨A1, cap1, h1.quiet hk, h2.quiet hk, h3, h4.quiet hk, h5.quiet hk, h6.quiet hk, h7.quiet hk hN0⟩) (fun _ _ _ _ h _ => h.elim) ⟨none, 0, hb6, SlT.nil _ _ _, fun q hq => (inA_none hq).elim, hb1, hb2, hA, hK0⟩ (fun k W h => by obtain ⟨A1, cap1, h1, h2, h3, h4, h5, h6, h7⟩ := h; exact h6) ?_ ?_ (fun _ _ _ _ _ _ h _ => h.elim)
  · skip
    intro l D k W hD hl hlW hkm ⟨A1, cap1, hb5, hout, howno, hb2, hb3, hA, hK0⟩ ⟨rr, hrr⟩ hDD
    have hzhK0 := Keep.size hK0
    have hltno := SlT.lt hout
    have hb6lt := hb5.lt
    have hb1lt := hb2.lt
    have hb2lt := hb3.lt
    obtain ⟨x, hx⟩ : ∃ x, ts[k]? = some x := ⟨_, List.getElem?_eq_getElem (by omega)⟩
    rw [encT_at hx]
    have hcl0 : Keep (cl W) W W := Keep.refl _ _
    refine V_pick [(2, .pointer (some ⟨b1, 0, none⟩)), (3, .pointer (some ⟨b2, 0, none⟩)), (5, .pointer (some ⟨b6, 0, none⟩)), (12, .agg (Tk.cells x).toArray)] rfl ?_
    refine V_region ?_
    refine OI_alloc 28 (.agg #[.int .i64 0, .int .i64 0, .int .i64 0, .int .u8 0, .int .u8 0, .int .u8 0, .int .u8 0, .int .u8 0, .int .u8 0, .int .u8 0, .int .u8 0, .int .u8 0, .int .u8 0, .int .u8 0, .int .u8 0, .int .u8 0, .int .u8 0, .int .u8 0, .int .u8 0, .int .u8 0, .int .u8 0, .int .u8 0, .int .u8 0, .int .u8 0, .int .u8 0, .int .u8 0, .int .u8 0, .int .u8 0, .int .u8 0, .int .u8 0, .int .u8 0, .int .u8 0, .int .u8 0, .int .u8 0, .int .u8 0, .int .i64 0]) [.int .i64 0, .int .i64 0, .int .i64 0, .int .u8 0, .int .u8 0, .int .u8 0, .int .u8 0, .int .u8 0, .int .u8 0, .int .u8 0, .int .u8 0, .int .u8 0, .int .u8 0, .int .u8 0, .int .u8 0, .int .u8 0, .int .u8 0, .int .u8 0, .int .u8 0, .int .u8 0, .int .u8 0, .int .u8 0, .int .u8 0, .int .u8 0, .int .u8 0, .int .u8 0, .int .u8 0, .int .u8 0, .int .u8 0, .int .u8 0, .int .u8 0, .int .u8 0, .int .u8 0, .int .u8 0, .int .u8 0, .int .i64 0] (some 6) (by kernel_rfl) (by kernel_rfl) (by kernel_rfl) ?_
    intro b7 w7 e7 hb7 k7 z7
    replace hb5 := hb5.keep k7 (fun f => f)
    have hb6lt := hb5.lt
    replace hb2 := hb2.keep k7 (fun f => f)
    have hb1lt := hb2.lt
    replace hb3 := hb3.keep k7 (fun f => f)
    have hb2lt := hb3.lt
    replace hout := SlT.keep0 hout k7
    replace hA := SlT.keep0 hA k7
    replace hK0 := Keep.tr hK0 (Keep.ofNone k7); have hzhK0 := Keep.size hK0
    replace hcl0 := Keep.tr hcl0 (Keep.ofNone k7); have hzhcl0 := Keep.size hcl0
    have hb7lt := hb7.lt
    refine OI_set (m := 36) (kd := true) 28 (.tmp 6) (.tmp 12) 0 (.agg (Tk.cells x).toArray) (Tk.cells x) none (by kernel_rfl) (by kernel_rfl) (by kernel_rfl) hb7 (by kernel_rfl) rfl (Tk.len _) (Nat.le_of_ble_eq_true (by kernel_rfl)) (Tk.one _) ?_
    intro w8 hb7_11 hk9 hz10
    replace hb7_11 : Blk w8 b7 (Tk.cells x) 28 := (by rwa [over_whole (by rw [Tk.len]; rfl)] at hb7_11)
    replace hb5 := hb5.keep hk9 (by show ¬ (_ = _); omega)
    have hb6lt := hb5.lt
    replace hb2 := hb2.keep hk9 (by show ¬ (_ = _); omega)
    have hb1lt := hb2.lt
    replace hb3 := hb3.keep hk9 (by show ¬ (_ = _); omega)
    have hb2lt := hb3.lt
    replace hout := SlT.keep hout hk9 (fun k hk hs => by have hs : k = b7 := hs; have h2 := howno k hk; have h3 := hltno k hk; omega)
    replace hA := SlT.keep hA hk9 (fun k hk hs => by have hs : k = b7 := hs; have h2 := hltA k hk; omega)
    replace hK0 := Keep.fresh hK0 hk9 (by intro i hi hs; first | exact hs | exact Or.inl hs | exact Or.inr hs | (exfalso; have hs2 : i = b7 := hs; omega)); have hzhK0 := Keep.size hK0
    replace hcl0 := Keep.cl_one hcl0 hk9 hb7; have hzhcl0 := Keep.size hcl0
    refine OI_end rfl ?_
    refine X_begin (Keep.cl_same hcl0 hrr hDD) ?_
    intro W2 hk2 ⟨r2, hr2⟩ hD2
    replace hDD : W2.heap[D]? = some (.deferred (some [])) := hD2.trans ((Keep.cl_same hcl0 hrr hDD).2.trans hDD)
    replace hb5 := Blk.quiet hb5 hk2
    have hb6lt := hb5.lt
    replace hb2 := Blk.quiet hb2 hk2
    have hb1lt := hb2.lt
    replace hb3 := Blk.quiet hb3 hk2
    have hb2lt := hb3.lt
    replace hb7_11 := Blk.quiet hb7_11 hk2
    have hb7lt := hb7_11.lt
    replace hout := SlT.quiet hout hk2
    replace hA := SlT.quiet hA hk2
    replace hK0 := Keep.quiet hK0 hk2 (by omega); have hzhK0 := Keep.size hK0
    have hcl2 : Keep (cl W2) W2 W2 := Keep.refl _ _
    refine V_block ?_
    refine V_seq ?_
    refine V_region ?_
    refine OI_cell 31 (.tmp 5) 0 (.slice A1 ((ts.take k).length) cap1) (some 13) (by kernel_rfl) (by kernel_rfl) hb5 (m := 1) (by kernel_rfl) rfl ?_
    refine OI_agg 28 (.tmp 6) 0 (Tk.cells x) (some 14) (by kernel_rfl) (by kernel_rfl) hb7_11 (m := 36) (by kernel_rfl) (take_all (Tk.len _)) (Tk.len _) ?_
    refine OI_slit (E := 28) (zv := .agg #[.int .i64 0, .int .i64 0, .int .i64 0, .int .u8 0, .int .u8 0, .int .u8 0, .int .u8 0, .int .u8 0, .int .u8 0, .int .u8 0, .int .u8 0, .int .u8 0, .int .u8 0, .int .u8 0, .int .u8 0, .int .u8 0, .int .u8 0, .int .u8 0, .int .u8 0, .int .u8 0, .int .u8 0, .int .u8 0, .int .u8 0, .int .u8 0, .int .u8 0, .int .u8 0, .int .u8 0, .int .u8 0, .int .u8 0, .int .u8 0, .int .u8 0, .int .u8 0, .int .u8 0, .int .u8 0, .int .u8 0, .int .i64 0]) (sz := 36) (by_ := 64) 31 1 #[(0, (Operand.tmp 14))] [.agg (Tk.cells x).toArray] (Tk.cells x) (some 15) (by kernel_rfl) (by kernel_rfl) (by kernel_rfl) (by omega) rfl (by omega) (by intro v hv; obtain rfl := List.mem_singleton.1 hv; show (Tk.cells x).toArray.size = 36; simp [Tk.len]) (by kernel_rfl) (by show (Tk.cells x).toArray.toList ++ [] = _; simp) ?_
    intro b12 w12 e12 hb12 k12 z12
    replace hb5 := hb5.keep k12 (fun f => f)
    have hb6lt := hb5.lt
    replace hb2 := hb2.keep k12 (fun f => f)
    have hb1lt := hb2.lt
    replace hb3 := hb3.keep k12 (fun f => f)
    have hb2lt := hb3.lt
    replace hb7_11 := hb7_11.keep k12 (fun f => f)
    have hb7lt := hb7_11.lt
    replace hout := SlT.keep0 hout k12
    replace hA := SlT.keep0 hA k12
    replace hK0 := Keep.tr hK0 (Keep.ofNone k12); have hzhK0 := Keep.size hK0
    replace hcl2 := Keep.tr hcl2 (Keep.ofNone k12); have hzhcl2 := Keep.size hcl2
    have hb12lt := hb12.lt
    have hxl : (ts.take k).length ≤ 12 := by rw [List.length_take]; omega
    refine OI_append (t := 31) (at2 := 31) (E := 28) (E2 := 28) (sz := 36) (by_ := 64) (zv := .agg #[.int .i64 0, .int .i64 0, .int .i64 0, .int .u8 0, .int .u8 0, .int .u8 0, .int .u8 0, .int .u8 0, .int .u8 0, .int .u8 0, .int .u8 0, .int .u8 0, .int .u8 0, .int .u8 0, .int .u8 0, .int .u8 0, .int .u8 0, .int .u8 0, .int .u8 0, .int .u8 0, .int .u8 0, .int .u8 0, .int .u8 0, .int .u8 0, .int .u8 0, .int .u8 0, .int .u8 0, .int .u8 0, .int .u8 0, .int .u8 0, .int .u8 0, .int .u8 0, .int .u8 0, .int .u8 0, .int .u8 0, .int .i64 0]) (m := (ts.take k).length) (k := 1) (.tmp 13) (.tmp 15) (.slice A1 ((ts.take k).length) cap1) (.slice (some ⟨b12, 0, none⟩) 1 1) (some 16) (by kernel_rfl) (by kernel_rfl) (by kernel_rfl) (by kernel_rfl) (by kernel_rfl) (by kernel_rfl) (by kernel_rfl) (SlT.slr hout) (slr_one hb12 (Tk.len x)) (Tk.one _) (by omega) (by omega) (by omega) (by omega) ?_
    intro v w13 hap
    obtain ⟨A8, cap8, rfl, h8, hk8, hown8x⟩ := app_one (f := Tk.cells) (xs := (ts.take k)) (x := x) hap (fun x _ => Tk.len x) (Tk.len _)
    replace hk8 : Keep (inA A1) w12 w13 := Keep.mono hk8 (fun k _ hk => hk)
    have hown8 : ∀ q, inA A8 q → w.heap.size ≤ q ∧ q ≠ b1 ∧ q ≠ b2 ∧ q ≠ b6 := fun q hq => by rcases hown8x q hq with h | h; exact howno q h; refine ⟨by omega, by omega, by omega, by omega⟩
    replace hb5 := hb5.keep hk8 (fun hs => by have h1 := howno _ hs; have h2 := hltno _ hs; omega)
    have hb6lt := hb5.lt
    replace hb2 := hb2.keep hk8 (fun hs => by have h1 := howno _ hs; have h2 := hltno _ hs; omega)
    have hb1lt := hb2.lt
    replace hb3 := hb3.keep hk8 (fun hs => by have h1 := howno _ hs; have h2 := hltno _ hs; omega)
    have hb2lt := hb3.lt
    replace hb7_11 := hb7_11.keep hk8 (fun hs => by have h1 := howno _ hs; have h2 := hltno _ hs; omega)
    have hb7lt := hb7_11.lt
    replace hA := SlT.keep hA hk8 (fun k hk hs => by have h1 := howno k hs; have h2 := hltA k hk; omega)
    replace hK0 := Keep.fresh hK0 hk8 (by intro i hi hs; exfalso; have := howno i hs; omega); have hzhK0 := Keep.size hK0
    replace hcl2 := Keep.cl_slt hcl2 hk8 hout; have hzhcl2 := Keep.size hcl2
    refine OI_set (m := 1) (kd := false) 31 (.tmp 5) (.tmp 16) 0 (.slice A8 ((ts.take k ++ [x]).length) cap8) [.slice A8 ((ts.take k ++ [x]).length) cap8] none (by kernel_rfl) (by kernel_rfl) (by kernel_rfl) hb5 (by kernel_rfl) (by kernel_rfl) (by kernel_rfl) (Nat.le_of_ble_eq_true (by kernel_rfl)) (by simp [Value.oneCell']) ?_
    intro w14 hb6_17 hk15 hz16
    replace hb6_17 : Blk w14 b6 [.slice A8 ((ts.take k ++ [x]).length) cap8] 31 := hb6_17
    replace hb2 := hb2.keep hk15 (by show ¬ (_ = _); omega)
    have hb1lt := hb2.lt
    replace hb3 := hb3.keep hk15 (by show ¬ (_ = _); omega)
    have hb2lt := hb3.lt
    replace hb7_11 := hb7_11.keep hk15 (by show ¬ (_ = _); omega)
    have hb7lt := hb7_11.lt
    replace hA := SlT.keep hA hk15 (fun k hk hs => by have hs : k = b6 := hs; have h2 := hltA k hk; omega)
    replace h8 := SlT.keep h8 hk15 (fun k hk hs => by have hs : k = b6 := hs; have h2 := hown8 k hk; omega)
    replace hK0 := Keep.fresh hK0 hk15 (by intro i hi hs; first | exact hs | exact Or.inl hs | exact Or.inr hs | (exfalso; have hs2 : i = b6 := hs; omega)); have hzhK0 := Keep.size hK0
    replace hcl2 := Keep.cl_one hcl2 hk15 hb5; have hzhcl2 := Keep.size hcl2
    refine OI_end rfl ?_
    refine X_then ?_
    refine V_seq ?_
    refine V_region ?_
    refine OI_cell 31 (.tmp 5) 0 (.slice A8 ((ts.take k ++ [x]).length) cap8) (some 17) (by kernel_rfl) (by kernel_rfl) hb6_17 (m := 1) (by kernel_rfl) rfl ?_
    refine OI_static 3 [(2, .pointer (some ⟨b1, 0, none⟩)), (3, .pointer (some ⟨b2, 0, none⟩)), (19, .bool (decide ((((ts.take k ++ [x]).length : Nat) : Int) > 200)))] (by kernel_rfl) ?_
    refine OI_end rfl ?_
    refine X_then ?_
    refine V_if ((((ts.take k ++ [x]).length : Nat) : Int) > 200) (by kernel_rfl) (fun hc18 => ?_) (fun hc18 => ?_)
    · skip
      exact (by rw [List.length_append] at hc18; simp only [List.length_cons, List.length_nil] at hc18; omega : False).elim
    · skip
      refine V_skip ?_
      refine X_block ?_
      have htk : ts.take (k + 1) = ts.take k ++ [x] := by obtain ⟨h1, h2⟩ := List.getElem?_eq_some_iff.1 hx; rw [List.take_succ_eq_append_getElem h1, h2]
      exact fun a _ => ⟨Keep.cl_same hcl2 hr2 hDD, A8, cap8, by rw [htk]; exact hb6_17, by rw [htk]; exact h8, hown8, hb2, hb3, hA, hK0⟩
  · skip
    intro D W hD ⟨A1, cap1, hb5, hout, howno, hb2, hb3, hA, hK0⟩ hDD
    rw [List.take_length] at hb5 hout
    have hzhK0 := Keep.size hK0
    have hb6lt := hb5.lt
    have hb1lt := hb2.lt
    have hb2lt := hb3.lt
    refine X_block ?_
    refine X_then ?_
    refine V_seq ?_
    refine V_region ?_
    refine OI_cell 31 (.tmp 5) 0 (.slice A1 ts.length cap1) (some 20) (by kernel_rfl) (by kernel_rfl) hb5 (m := 1) (by kernel_rfl) rfl ?_
    refine OI_set (m := 1) (kd := false) 31 (.tmp 2) (.tmp 20) 0 (.slice A1 ts.length cap1) [.slice A1 ts.length cap1] none (by kernel_rfl) (by kernel_rfl) (by kernel_rfl) hb2 (by kernel_rfl) (by kernel_rfl) (by kernel_rfl) (Nat.le_of_ble_eq_true (by kernel_rfl)) (by simp [Value.oneCell']) ?_
    intro w19 hb1_22 hk20 hz21
    replace hb1_22 : Blk w19 b1 [.slice A1 ts.length cap1] 31 := hb1_22
    replace hb5 := hb5.keep hk20 (by show ¬ (_ = _); omega)
    have hb6lt := hb5.lt
    replace hb3 := hb3.keep hk20 (by show ¬ (_ = _); omega)
    have hb2lt := hb3.lt
    replace hout := SlT.keep hout hk20 (fun k hk hs => by have hs : k = b1 := hs; have h2 := howno k hk; omega)
    replace hA := SlT.keep hA hk20 (fun k hk hs => by have hs : k = b1 := hs; have h2 := hltA k hk; omega)
    replace hK0 := Keep.fresh hK0 hk20 (by intro i hi hs; first | exact hs | exact Or.inl hs | exact Or.inr hs | (exfalso; have hs2 : i = b1 := hs; omega)); have hzhK0 := Keep.size hK0
    replace hDD := (Keep.block hk20 _ (Array.getElem?_eq_some_iff.1 hDD).1 (by show ¬ (_ = _); omega)).trans hDD
    refine OI_set (m := 1) (kd := false) 4 (.tmp 3) (.const (Value.bool true)) 0 (.bool true) [.bool true] none (by kernel_rfl) (by kernel_rfl) (by kernel_rfl) hb3 (by kernel_rfl) (by kernel_rfl) (by kernel_rfl) (Nat.le_of_ble_eq_true (by kernel_rfl)) (by simp [Value.oneCell']) ?_
    intro w23 hb2_26 hk24 hz25
    replace hb2_26 : Blk w23 b2 [.bool true] 4 := hb2_26
    replace hb5 := hb5.keep hk24 (by show ¬ (_ = _); omega)
    have hb6lt := hb5.lt
    replace hb1_22 := hb1_22.keep hk24 (by show ¬ (_ = _); omega)
    have hb1lt := hb1_22.lt
    replace hout := SlT.keep hout hk24 (fun k hk hs => by have hs : k = b2 := hs; have h2 := howno k hk; omega)
    replace hA := SlT.keep hA hk24 (fun k hk hs => by have hs : k = b2 := hs; have h2 := hltA k hk; omega)
    replace hK0 := Keep.fresh hK0 hk24 (by intro i hi hs; first | exact hs | exact Or.inl hs | exact Or.inr hs | (exfalso; have hs2 : i = b2 := hs; omega)); have hzhK0 := Keep.size hK0
    replace hDD := (Keep.block hk24 _ (Array.getElem?_eq_some_iff.1 hDD).1 (by show ¬ (_ = _); omega)).trans hDD
    refine OI_end rfl ?_
    refine X_then ?_
    refine V_ret ?_
    exact leave1 (.tuple #[.slice A1 ts.length cap1, .bool true]) (.inl rfl) hDD (fun w' hk => ⟨res_cells2 (n1 := 1) (n2 := 1) rfl rfl rfl (by kernel_rfl) (by kernel_rfl) (Blk.quiet hb1_22 hk) (Blk.quiet hb2_26 hk), A1, cap1, rfl, SlT.quiet hout hk, Keep.quiet hK0 hk (by omega), fun q hq => (howno q hq).1⟩)
end Go.Al
