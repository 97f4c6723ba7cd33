/-
  Walks of package grid: all cells.
-/
import Derived.Test.YtijhhcnahepdlaaGr4
import Derived.Test.YtijhhcnahepdlaaRng
namespace Go.Al
open Go Go.RowKit Go.Proofs
/-! ### All cells, one behind the other -/
def encC (cs : List Ci) (k : Nat) : Array Value := match cs[k]? with | some c => #[.agg #[.int .i64 c.a, .int .i64 c.b], .int .i64 c.v] | none => #[undef, undef]
theorem encC_at {cs : List Ci} {k : Nat} {c : Ci} (h : cs[k]? = some c) : encC cs k = #[.agg #[.int .i64 c.a, .int .i64 c.b], .int .i64 c.v] := by unfold encC; rw [h]
theorem encC_size (cs : List Ci) (k : Nat) : (encC cs k).size = 2 := by unfold encC; split <;> rfl

theorem cells1_iter (c g cap : Nat) (A : Option Addr) (cs : List Ci) (hn : cs.length ≤ 1000000) : Iter Try.prog 53 #[.pointer (some ⟨c, 0, none⟩)] cs.length (encC cs) (fun W => Blk W c [.pointer (some ⟨g, 0, none⟩)] 22 ∧ GrAt W g A cap cs) (fun W => SlT W 3 Ci.cells A cap cs) := by
  intro l J Jx w hPre hJ hJx hY hOk h0
  obtain ⟨hc, h⟩ := hPre
  have hg := h.blk
  have hA := h.sl
  have hglt := hg.lt
  have hclt := hc.lt
  show Calls Try.prog 53 #[.func (.yield l) #[] #[], .pointer (some ⟨c, 0, none⟩)] w _
  have hK0 : Keep none_ w w := Keep.refl _ _
  have hzhK0 := Keep.size hK0
  refine enterV Try.func53 rfl [.func (.yield l) #[] #[], .pointer (some ⟨c, 0, none⟩)] 24 rfl rfl rfl ?_
  refine V_pick [(0, .func (.yield l) #[] #[]), (1, .pointer (some ⟨c, 0, none⟩))] rfl ?_
  refine V_seq ?_
  refine V_seq ?_
  refine V_region ?_
  refine OI_cell 22 (.tmp 1) 0 (.pointer (some ⟨g, 0, none⟩)) (some 5) (by kernel_rfl) (by kernel_rfl) hc (m := 1) (by kernel_rfl) rfl ?_
  refine OI_static 2 [(0, .func (.yield l) #[] #[]), (1, .pointer (some ⟨c, 0, none⟩)), (6, .bool false)] (by kernel_rfl) ?_
  refine OI_end rfl ?_
  refine X_then ?_
  refine V_false rfl ?_
  refine V_skip ?_
  refine X_then ?_
  refine V_seq ?_
  refine V_region ?_
  refine OI_cell 22 (.tmp 1) 0 (.pointer (some ⟨g, 0, none⟩)) (some 7) (by kernel_rfl) (by kernel_rfl) hc (m := 1) (by kernel_rfl) rfl ?_
  refine OI_static 3 [(0, .func (.yield l) #[] #[]), (9, .pointer (some ⟨g, 0, none⟩))] (by kernel_rfl) ?_
  refine OI_cell 64 (.tmp 9) 0 (.slice A cs.length cap) (some 10) (by kernel_rfl) (by kernel_rfl) hg (m := 1) (by kernel_rfl) rfl ?_
  refine OI_static 6 [(0, .func (.yield l) #[] #[]), (10, .slice A cs.length cap), (11, .int .i64 ((cs.length : Nat) : Int)), (12, .int .i64 0)] (by kernel_rfl) ?_
  refine OI_end rfl ?_
  refine X_then ?_
  refine V_block ?_
  have hj0 := hJ 0 _ _ h0 (Keep.ofNone hK0)
  refine V_pick [(0, .func (.yield l) #[] #[]), (10, .slice A cs.length cap), (11, .int .i64 ((cs.length : Nat) : Int)), (12, .int .i64 0)] rfl ?_
  refine V_loop (fun k wI e => ∃ i : Nat, (k + i = cs.length) ∧ (J i wI) ∧ e = [(0, .func (.yield l) #[] #[]), (10, .slice A cs.length cap), (11, .int .i64 ((cs.length : Nat) : Int)), (12, .int .i64 ((i : Nat) : Int))]) cs.length ⟨0, rfl, hj0, rfl⟩ ?_
  rintro k2 w1 _ ⟨i, hki, hj, rfl⟩
  have hA := hOk _ _ hj
  have hkh : Keep none_ w1 w1 := Keep.refl _ _
  have hzhkh := Keep.size hkh
  refine V_seq ?_
  refine V_region ?_
  refine OI_static 1 [(0, .func (.yield l) #[] #[]), (10, .slice A cs.length cap), (11, .int .i64 ((cs.length : Nat) : Int)), (12, .int .i64 ((i : Nat) : Int)), (13, .bool (decide (((i : Nat) : Int) < ((cs.length : Nat) : Int))))] (by kernel_rfl) ?_
  refine OI_end rfl ?_
  refine X_then ?_
  refine V_seq ?_
  refine V_if (((i : Nat) : Int) < ((cs.length : Nat) : Int)) (by kernel_rfl) (fun hc4 => ?_) (fun hc4 => ?_)
  · skip
    refine V_skip ?_
    refine X_then ?_
    refine V_seq ?_
    refine V_block ?_
    refine V_seq ?_
    refine V_region ?_
    obtain ⟨b5, o5, L5, T5, rfl, hat5⟩ := SlT.open_ hA (by first | omega | (simp only [List.length_map]; omega) | (simp; done) | (simp; omega))
    have hb5lt := hat5.blk.lt
    refine OI_pure (some 14) (.indexAddr 64 (.tmp 10) (.tmp 12)) (by kernel_rfl) (pure_idxN (b := b5) (o := o5) (len := cs.length) (cap := cap) (kd := .i64) (j := i) (E := 70) (sz := 3) (by_ := 24) (by kernel_rfl) (by kernel_rfl) (by kernel_rfl) (by omega)) ?_
    obtain ⟨x6, hx7⟩ : ∃ x, cs[i]? = some x := ⟨_, List.getElem?_eq_getElem (by first | omega | (simp only [List.length_map]; omega))⟩
    refine OI_agg 70 (.tmp 14) (o5 + i * 3) (Ci.cells x6) (some 15) (by kernel_rfl) (by kernel_rfl) hat5.blk (m := 3) (by kernel_rfl) (At.elem' hat5 (es_at hx7)) (At.len hat5 (es_at hx7)) ?_
    refine OI_alloc 70 (.agg #[.int .i64 0, .int .i64 0, .int .i64 0]) [.int .i64 0, .int .i64 0, .int .i64 0] (some 4) (by kernel_rfl) (by kernel_rfl) (by kernel_rfl) ?_
    intro b8 w8 e8 hb8 k8 z8
    have hsz9 := Keep.size k8
    replace hat5 := hat5.keep k8 (fun f => f)
    have hb5lt := hat5.blk.lt
    replace hkh := Keep.tr hkh (Keep.ofNone k8); have hzhkh := Keep.size hkh
    have hb8lt := hb8.lt
    refine OI_set (m := 3) (kd := true) 70 (.tmp 4) (.tmp 15) 0 (.agg (Ci.cells x6).toArray) (Ci.cells x6) none (by kernel_rfl) (by kernel_rfl) (by kernel_rfl) hb8 (by kernel_rfl) rfl (Ci.len _) (Nat.le_of_ble_eq_true (by kernel_rfl)) (Ci.one _) ?_
    intro w10 hb8_13 hk11 hz12
    replace hb8_13 : Blk w10 b8 (Ci.cells x6) 70 := (by rwa [over_whole (by rw [Ci.len]; rfl)] at hb8_13)
    have hsz14 := Keep.size hk11
    replace hat5 := hat5.keep hk11 (by show ¬ (_ = _); omega)
    have hb5lt := hat5.blk.lt
    replace hkh := Keep.fresh hkh hk11 (by intro i hi hs; first | exact hs | exact Or.inl hs | exact Or.inr hs | (exfalso; have hs2 : i = b8 := hs; omega)); have hzhkh := Keep.size hkh
    refine OI_end rfl ?_
    refine X_then ?_
    refine V_seq ?_
    refine V_region ?_
    refine OI_static 2 [(0, .func (.yield l) #[] #[]), (4, .pointer (some ⟨b8, 0, none⟩)), (10, .slice (some ⟨b5, o5, none⟩) cs.length cap), (11, .int .i64 ((cs.length : Nat) : Int)), (12, .int .i64 ((i : Nat) : Int)), (16, .func (.yield l) #[] #[]), (17, .pointer (some ⟨b8, 0, none⟩))] (by kernel_rfl) ?_
    refine OI_agg 68 (.tmp 17) 0 [.int .i64 x6.a, .int .i64 x6.b] (some 18) (by kernel_rfl) (by kernel_rfl) hb8_13 (m := 2) (by kernel_rfl) rfl rfl ?_
    refine OI_static 4 [(0, .func (.yield l) #[] #[]), (10, .slice (some ⟨b5, o5, none⟩) cs.length cap), (11, .int .i64 ((cs.length : Nat) : Int)), (12, .int .i64 ((i : Nat) : Int)), (16, .func (.yield l) #[] #[]), (18, .agg #[.int .i64 x6.a, .int .i64 x6.b]), (19, .pointer (some ⟨b8, 2, none⟩))] (by kernel_rfl) ?_
    refine OI_cell 3 (.tmp 19) 2 (.int .i64 x6.v) (some 20) (by kernel_rfl) (by kernel_rfl) hb8_13 (m := 1) (by kernel_rfl) rfl ?_
    refine OI_yield { callee := (Callee.value (Operand.tmp 16)), args := #[(Operand.tmp 18), (Operand.tmp 20)], argTypes := #[68, 3] } l #[.agg #[.int .i64 x6.a, .int .i64 x6.b], .int .i64 x6.v] (some 21) (by kernel_rfl) (by kernel_rfl) (by have hy := hY i _ (by omega) (hJ i _ _ hj (Keep.ofNone hkh)); rw [encC_at hx7] at hy; exact hy) ?_
    rintro _ w15 (⟨rfl, hj16⟩ | ⟨rfl, hj16⟩)
    · skip
      refine ⟨_, rfl, ?_⟩
      refine OI_static 7 [(0, .func (.yield l) #[] #[]), (10, .slice (some ⟨b5, o5, none⟩) cs.length cap), (11, .int .i64 ((cs.length : Nat) : Int)), (12, .int .i64 ((i : Nat) : Int)), (22, .bool false)] (by kernel_rfl) ?_
      refine OI_end rfl ?_
      refine X_then ?_
      refine V_false rfl ?_
      refine V_skip ?_
      refine X_block ?_
      refine X_then ?_
      refine V_region ?_
      have hw17 : IntKind.i64.wrap (((i : Nat) : Int) + 1) = ((i + 1 : Nat) : Int) := (wrap64_id (by omega) (by omega)).trans (by omega)
      refine OI_static 1 [(0, .func (.yield l) #[] #[]), (10, .slice (some ⟨b5, o5, none⟩) cs.length cap), (11, .int .i64 ((cs.length : Nat) : Int)), (23, .int .i64 (IntKind.i64.wrap (((i : Nat) : Int) + 1)))] (by kernel_rfl) ?_
      refine OI_eq [(0, .func (.yield l) #[] #[]), (10, .slice (some ⟨b5, o5, none⟩) cs.length cap), (11, .int .i64 ((cs.length : Nat) : Int)), (23, .int .i64 ((i + 1 : Nat) : Int))] (by rw [hw17]) ?_
      refine OI_static 2 [(0, .func (.yield l) #[] #[]), (10, .slice (some ⟨b5, o5, none⟩) cs.length cap), (11, .int .i64 ((cs.length : Nat) : Int)), (12, .int .i64 ((i + 1 : Nat) : Int))] (by kernel_rfl) ?_
      refine OI_end rfl ?_
      exact V_again (k2 - 1) (by omega) [(0, .func (.yield l) #[] #[]), (10, .slice (some ⟨b5, o5, none⟩) cs.length cap), (11, .int .i64 ((cs.length : Nat) : Int)), (12, .int .i64 ((i + 1 : Nat) : Int))] rfl ⟨i + 1, by omega, hj16, rfl⟩
    · skip
      refine ⟨_, rfl, ?_⟩
      refine OI_static 7 [(0, .func (.yield l) #[] #[]), (10, .slice (some ⟨b5, o5, none⟩) cs.length cap), (11, .int .i64 ((cs.length : Nat) : Int)), (12, .int .i64 ((i : Nat) : Int)), (22, .bool true)] (by kernel_rfl) ?_
      refine OI_end rfl ?_
      refine X_then ?_
      refine V_true rfl ?_
      refine V_ret ?_
      refine X_ret_block ?_
      refine X_ret_then ?_
      refine X_ret_then ?_
      refine X_ret_block ?_
      exact X_return _ rfl ⟨⟨_, rfl⟩, .inr ⟨i + 1, by omega, hj16⟩⟩
  · skip
    refine V_exit ?_
    refine X_exit_then ?_
    refine X_exit_then ?_
    refine X_exit_here ?_
    have he : i = cs.length := by omega
    rw [he] at hj
    exact X_end _ rfl ⟨⟨_, rfl⟩, .inl (hJ _ _ _ hj (Keep.ofNone hkh))⟩

theorem cells1_nil (c : Nat) (enc : Nat → Array Value) : Iter Try.prog 53 #[.pointer (some ⟨c, 0, none⟩)] 0 enc (fun W => Blk W c [.pointer none] 22) (fun _ => True) := by
  intro l J Jx w hc hJ hJx hY hOk h0
  have hclt := hc.lt
  show Calls Try.prog 53 #[.func (.yield l) #[] #[], .pointer (some ⟨c, 0, none⟩)] w _
  have hK0 : Keep none_ w w := Keep.refl _ _
  have hzhK0 := Keep.size hK0
  refine enterV Try.func53 rfl [.func (.yield l) #[] #[], .pointer (some ⟨c, 0, none⟩)] 24 rfl rfl rfl ?_
  refine V_pick [(0, .func (.yield l) #[] #[]), (1, .pointer (some ⟨c, 0, none⟩))] rfl ?_
  refine V_seq ?_
  refine V_seq ?_
  refine V_region ?_
  refine OI_cell 22 (.tmp 1) 0 (.pointer none) (some 5) (by kernel_rfl) (by kernel_rfl) hc (m := 1) (by kernel_rfl) rfl ?_
  refine OI_static 2 [(0, .func (.yield l) #[] #[]), (1, .pointer (some ⟨c, 0, none⟩)), (6, .bool true)] (by kernel_rfl) ?_
  refine OI_end rfl ?_
  refine X_then ?_
  refine V_true rfl ?_
  refine V_ret ?_
  refine X_ret_then ?_
  exact X_return _ rfl ⟨⟨_, rfl⟩, .inl (hJ _ _ _ h0 (Keep.ofNone hK0))⟩

theorem cellsfn_spec (v : Value) (hv : v.cells = [v].toArray) (w : World) : Calls Try.prog 40 #[v] w fun e w' => ∃ c, e = .returned (.func (.func 53) #[] #[.pointer (some ⟨c, 0, none⟩)]) ∧ Blk w' c [v] 22 ∧ Keep none_ w w' ∧ w.heap.size ≤ c := by
  have hK0 : Keep none_ w w := Keep.refl _ _
  have hzhK0 := Keep.size hK0
  refine enterV Try.func40 rfl [v] 4 rfl rfl rfl ?_
  refine V_pick [(0, v)] rfl ?_
  refine V_seq ?_
  refine V_region ?_
  refine OI_box 22 (.tmp 0) v [v] (some 1) (by kernel_rfl) (by kernel_rfl) hv ?_
  intro b1 w1 e1 hb1 k1 z1
  have hsz2 := Keep.size k1
  replace hK0 := Keep.tr hK0 (Keep.ofNone k1); have hzhK0 := Keep.size hK0
  have hb1lt := hb1.lt
  refine OI_static 2 [(1, .pointer (some ⟨b1, 0, none⟩))] (by kernel_rfl) ?_
  refine OI_end rfl ?_
  refine X_then ?_
  refine V_seq ?_
  refine V_region ?_
  refine OI_static 2 [(2, .func (.func 53) #[] #[.pointer (some ⟨b1, 0, none⟩)])] (by kernel_rfl) ?_
  refine OI_end rfl ?_
  refine X_then ?_
  refine V_ret ?_
  exact X_return _ rfl ⟨_, rfl, hb1, hK0, by omega⟩
end Go.Al
