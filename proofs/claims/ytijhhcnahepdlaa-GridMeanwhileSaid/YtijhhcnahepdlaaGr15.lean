/-
  Walks of the document's grid: rows, columns; equal cells.
-/
import Derived.Test.YtijhhcnahepdlaaGr14
import Derived.Test.YtijhhcnahepdlaaEq
namespace Go.Al
open Go Go.RowKit Go.Proofs
theorem Ci.ints (c : Ci) : ∀ j, j < 3 → ∃ k v, c.cells[j]? = some (.int k v) := by
  intro j hj
  match j, hj with
  | 0, _ => exact ⟨_, _, rfl⟩
  | 1, _ => exact ⟨_, _, rfl⟩
  | 2, _ => exact ⟨_, _, rfl⟩
theorem filt_step (p : Ci → Bool) {cs : List Ci} {k : Nat} {c : Ci} (h : cs[k]? = some c) : (cs.take (k + 1)).filter p = if p c then (cs.take k).filter p ++ [c] else (cs.take k).filter p := by
  obtain ⟨h1, rfl⟩ := List.getElem?_eq_some_iff.1 h
  rw [List.take_succ_eq_append_getElem h1, List.filter_append]
  by_cases hp : p cs[k] = true <;> simp [hp]

set_option maxRecDepth 10000 in
theorem rrow_spec (F : Nat → Prop) (g : Nat) (cs : List Ci) (n : Int) (w : World) (h : Rgd F w g cs) : Calls Try.prog 26 #[.pointer (some ⟨g, 0, none⟩), .int .i64 n] w fun e w' => ∃ A' cap', e = .returned (.slice A' (cs.filter (fun c : Ci => c.a == n)).length cap') ∧ SlT w' 3 Ci.cells A' cap' (cs.filter (fun c : Ci => c.a == n)) ∧ Keep none_ w w' ∧ (∀ q, inA A' q → w.heap.size ≤ q) := by
  obtain ⟨hs, hlen, hFg, hFlt, A, cap, h, hAF⟩ := h
  have hgA := h.off
  have hg := h.blk
  have hA := h.sl
  have hglt := hg.lt
  have hltA := SlT.lt hA
  have hAg : ∀ q, inA A q → q ≠ g := fun q hq he => hgA (he ▸ hq)
  have hK0 : Keep none_ w w := Keep.refl _ _
  have hzhK0 := Keep.size hK0
  refine enterV Try.func26 rfl [.pointer (some ⟨g, 0, none⟩), .int .i64 n] 37 rfl rfl rfl ?_
  refine V_pick [(0, .pointer (some ⟨g, 0, none⟩)), (1, .int .i64 n)] rfl ?_
  refine V_seq ?_
  refine V_region ?_
  refine OI_static 1 [(0, .pointer (some ⟨g, 0, none⟩)), (1, .int .i64 n)] (by kernel_rfl) ?_
  refine OI_end rfl ?_
  refine X_then ?_
  refine V_seq ?_
  refine V_region ?_
  refine OI_static 1 [(0, .pointer (some ⟨g, 0, none⟩)), (1, .int .i64 n), (5, .slice none 0 0)] (by kernel_rfl) ?_
  refine OI_end rfl ?_
  refine X_then ?_
  refine V_seq ?_
  refine V_seq ?_
  refine V_region ?_
  refine OI_static 1 [(0, .pointer (some ⟨g, 0, none⟩)), (1, .int .i64 n), (5, .slice none 0 0), (6, .int .i64 0)] (by kernel_rfl) ?_
  refine OI_end rfl ?_
  refine X_then ?_
  refine V_block ?_
  refine V_pick [(0, .pointer (some ⟨g, 0, none⟩)), (1, .int .i64 n), (5, .slice none 0 0), (6, .int .i64 0)] rfl ?_
  refine V_loop (fun k wI e => ∃ i : Nat, ∃ A2 : Option Addr, ∃ cap2 : Nat, ∃ ms : List Ci, (k + i = cs.length) ∧ (ms = (cs.take i).filter (fun c : Ci => c.a == n)) ∧ (SlT wI 3 Ci.cells A2 cap2 ms) ∧ (∀ q, inA A2 q → w.heap.size ≤ q) ∧ Keep none_ w wI ∧ e = [(0, .pointer (some ⟨g, 0, none⟩)), (1, .int .i64 n), (5, .slice A2 ms.length cap2), (6, .int .i64 ((i : Nat) : Int))]) cs.length ⟨0, none, 0, [], by omega, rfl, SlT.nil _ _ _, fun q h => (inA_none h).elim, Keep.refl _ _, rfl⟩ ?_
  rintro k2 w1 _ ⟨i, A2, cap2, ms, hki, hms, hA2, ow2, hk3, rfl⟩
  have hsz4 := Keep.size hk3
  replace hg := hg.keep hk3 (fun f => f)
  have hglt := hg.lt
  replace hA := SlT.keep0 hA hk3
  replace hK0 := Keep.tr hK0 (Keep.ofNone hk3); have hzhK0 := Keep.size hK0
  have hzhk3 := Keep.size hk3
  have lt2 := SlT.lt hA2
  have hml : ms.length ≤ i := by rw [hms]; exact Nat.le_trans (List.length_filter_le _ _) (by rw [List.length_take]; omega)
  refine V_seq ?_
  refine V_seq ?_
  refine V_region ?_
  refine OI_static 4 [(0, .pointer (some ⟨g, 0, none⟩)), (1, .int .i64 n), (5, .slice A2 ms.length cap2), (6, .int .i64 ((i : Nat) : Int)), (7, .int .i64 ((i : Nat) : Int)), (10, .pointer (some ⟨g, 0, none⟩))] (by kernel_rfl) ?_
  refine OI_cell 47 (.tmp 10) 0 (.slice A cs.length cap) (some 11) (by kernel_rfl) (by kernel_rfl) hg (m := 1) (by kernel_rfl) rfl ?_
  refine OI_static 7 [(0, .pointer (some ⟨g, 0, none⟩)), (1, .int .i64 n), (5, .slice A2 ms.length cap2), (6, .int .i64 ((i : Nat) : Int)), (13, .bool (decide (((i : Nat) : Int) < ((cs.length : Nat) : Int))))] (by kernel_rfl) ?_
  refine OI_end rfl ?_
  refine X_then ?_
  refine V_if (((i : Nat) : Int) < ((cs.length : Nat) : Int)) (by kernel_rfl) (fun hc5 => ?_) (fun hc5 => ?_)
  · skip
    refine V_skip ?_
    refine X_then ?_
    refine V_seq ?_
    refine V_block ?_
    refine V_seq ?_
    refine V_region ?_
    refine OI_static 3 [(0, .pointer (some ⟨g, 0, none⟩)), (1, .int .i64 n), (5, .slice A2 ms.length cap2), (6, .int .i64 ((i : Nat) : Int)), (18, .pointer (some ⟨g, 0, none⟩))] (by kernel_rfl) ?_
    refine OI_cell 47 (.tmp 18) 0 (.slice A cs.length cap) (some 19) (by kernel_rfl) (by kernel_rfl) hg (m := 1) (by kernel_rfl) rfl ?_
    refine OI_static 5 [(0, .pointer (some ⟨g, 0, none⟩)), (1, .int .i64 n), (5, .slice A2 ms.length cap2), (6, .int .i64 ((i : Nat) : Int)), (19, .slice A cs.length cap), (20, .int .i64 ((i : Nat) : Int))] (by kernel_rfl) ?_
    obtain ⟨b6, o6, L6, T6, rfl, hat6⟩ := SlT.open_ hA (by first | omega | (simp only [List.length_map]; omega) | (simp; done) | (simp; omega))
    have hb6lt := hat6.blk.lt
    have hob7 := hAg b6 ⟨_, rfl, rfl⟩
    have hob8 := hltA b6 ⟨_, rfl, rfl⟩
    refine OI_pure (some 21) (.indexAddr 47 (.tmp 19) (.tmp 20)) (by kernel_rfl) (pure_idxN (b := b6) (o := o6) (len := cs.length) (cap := cap) (kd := .i64) (j := i) (E := 59) (sz := 3) (by_ := 24) (by kernel_rfl) (by kernel_rfl) (by kernel_rfl) (by omega)) ?_
    refine OI_static 7 [(0, .pointer (some ⟨g, 0, none⟩)), (1, .int .i64 n), (5, .slice A2 ms.length cap2), (6, .int .i64 ((i : Nat) : Int)), (22, .pointer (some ⟨b6, o6 + i * 3, none⟩))] (by kernel_rfl) ?_
    obtain ⟨x9, hx10⟩ : ∃ x, cs[i]? = some x := ⟨_, List.getElem?_eq_getElem (by first | omega | (simp only [List.length_map]; omega))⟩
    refine OI_cell 3 (.tmp 22) (o6 + i * 3) (.int .i64 x9.a) (some 23) (by kernel_rfl) (by kernel_rfl) hat6.blk (m := 1) (by kernel_rfl) (At.cell0 hat6 (es_at hx10) rfl) ?_
    refine OI_static 10 [(0, .pointer (some ⟨g, 0, none⟩)), (1, .int .i64 n), (5, .slice A2 ms.length cap2), (6, .int .i64 ((i : Nat) : Int)), (25, .bool (decide (x9.a = n)))] (by kernel_rfl) ?_
    refine OI_end rfl ?_
    refine X_then ?_
    refine V_if (x9.a = n) (by kernel_rfl) (fun hc11 => ?_) (fun hc11 => ?_)
    · skip
      refine V_region ?_
      refine OI_static 4 [(0, .pointer (some ⟨g, 0, none⟩)), (1, .int .i64 n), (6, .int .i64 ((i : Nat) : Int)), (26, .slice A2 ms.length cap2), (29, .pointer (some ⟨g, 0, none⟩))] (by kernel_rfl) ?_
      refine OI_cell 47 (.tmp 29) 0 (.slice (some ⟨b6, o6, none⟩) cs.length cap) (some 30) (by kernel_rfl) (by kernel_rfl) hg (m := 1) (by kernel_rfl) rfl ?_
      refine OI_static 6 [(0, .pointer (some ⟨g, 0, none⟩)), (1, .int .i64 n), (6, .int .i64 ((i : Nat) : Int)), (26, .slice A2 ms.length cap2), (30, .slice (some ⟨b6, o6, none⟩) cs.length cap), (31, .int .i64 ((i : Nat) : Int))] (by kernel_rfl) ?_
      refine OI_pure (some 32) (.indexAddr 47 (.tmp 30) (.tmp 31)) (by kernel_rfl) (pure_idxN (b := b6) (o := o6) (len := cs.length) (cap := cap) (kd := .i64) (j := i) (E := 59) (sz := 3) (by_ := 24) (by kernel_rfl) (by kernel_rfl) (by kernel_rfl) (by omega)) ?_
      refine OI_agg 59 (.tmp 32) (o6 + i * 3) (Ci.cells x9) (some 33) (by kernel_rfl) (by kernel_rfl) hat6.blk (m := 3) (by kernel_rfl) (At.elem' hat6 (es_at hx10)) (At.len hat6 (es_at hx10)) ?_
      refine OI_slit (E := 59) (zv := .agg #[.int .i64 0, .int .i64 0, .int .i64 0]) (sz := 3) (by_ := 24) 47 1 #[(0, (Operand.tmp 33))] [.agg (Ci.cells x9).toArray] (Ci.cells x9) (some 34) (by kernel_rfl) (by kernel_rfl) (by kernel_rfl) (by omega) rfl (by omega) (by intro v hv; obtain rfl := List.mem_singleton.1 hv; show (Ci.cells x9).toArray.size = 3; simp [Ci.len]) (by kernel_rfl) (by show (Ci.cells x9).toArray.toList ++ [] = _; simp) ?_
      intro b12 w12 e12 hb12 k12 z12
      have hsz13 := Keep.size k12
      replace hg := hg.keep k12 (fun f => f)
      have hglt := hg.lt
      replace hat6 := hat6.keep k12 (fun f => f)
      have hb6lt := hat6.blk.lt
      replace hA2 := SlT.keep0 hA2 k12
      replace hK0 := Keep.tr hK0 (Keep.ofNone k12); have hzhK0 := Keep.size hK0
      replace hk3 := Keep.tr hk3 (Keep.ofNone k12); have hzhk3 := Keep.size hk3
      have hb12lt := hb12.lt
      refine OI_append (t := 47) (at2 := 47) (E := 59) (E2 := 59) (sz := 3) (by_ := 24) (zv := .agg #[.int .i64 0, .int .i64 0, .int .i64 0]) (m := ms.length) (k := 1) (.tmp 26) (.tmp 34) (.slice A2 ms.length cap2) (.slice (some ⟨b12, 0, none⟩) 1 1) (some 35) (by kernel_rfl) (by kernel_rfl) (by kernel_rfl) (by kernel_rfl) (by kernel_rfl) (by kernel_rfl) (by kernel_rfl) (SlT.slr hA2) (slr_one hb12 (Ci.len x9)) (Ci.one x9) (by first | omega | (simp only [List.length_nil]; omega)) (by omega) (by first | omega | (simp only [List.length_nil]; omega)) (by omega) ?_
      intro vv9 w14 hap
      obtain ⟨A14, cap14, rfl, hA14, hk14, own14x⟩ := app_one (f := Ci.cells) (xs := ms) (x := x9) (A := A2) (cap := cap2) hap (fun x _ => Ci.len x) (Ci.len _)
      have own14 : ∀ q, inA A14 q → w.heap.size ≤ q := fun q hq => by rcases own14x q hq with h | h; exact ow2 q h; (show w.heap.size ≤ q; omega)
      have hsz15 := Keep.size hk14
      replace hg := hg.keep hk14 (fun hs => by have h1 := ow2 _ hs; have h2 := lt2 _ hs; omega)
      have hglt := hg.lt
      replace hat6 := hat6.keep hk14 (fun hs => by have h1 := ow2 _ hs; have h2 := lt2 _ hs; omega)
      have hb6lt := hat6.blk.lt
      replace hK0 := Keep.fresh hK0 hk14 (by intro i hi hs; first | exact hs | (exfalso; have h1 := ow2 i hs; have h2 := lt2 i hs; omega) | (have h1 := ow2 i hs; have h2 := lt2 i hs; show _ ∨ _; omega)); have hzhK0 := Keep.size hK0
      replace hk3 := Keep.fresh hk3 hk14 (by intro i hi hs; first | exact hs | (exfalso; have h1 := ow2 i hs; have h2 := lt2 i hs; omega) | (have h1 := ow2 i hs; have h2 := lt2 i hs; show _ ∨ _; omega)); have hzhk3 := Keep.size hk3
      have lt14 := SlT.lt hA14
      refine OI_static 11 [(0, .pointer (some ⟨g, 0, none⟩)), (1, .int .i64 n), (5, .slice A14 ((ms ++ [x9]).length) cap14), (6, .int .i64 ((i : Nat) : Int))] (by kernel_rfl) ?_
      refine OI_end rfl ?_
      refine X_block ?_
      refine X_then ?_
      refine V_region ?_
      have hw16 : IntKind.i64.wrap (((i : Nat) : Int) + 1) = ((i + 1 : Nat) : Int) := (wrap64_id (by omega) (by omega)).trans (by omega)
      refine OI_static 2 [(0, .pointer (some ⟨g, 0, none⟩)), (1, .int .i64 n), (5, .slice A14 ((ms ++ [x9]).length) cap14), (15, .int .i64 (IntKind.i64.wrap (((i : Nat) : Int) + 1)))] (by kernel_rfl) ?_
      refine OI_eq [(0, .pointer (some ⟨g, 0, none⟩)), (1, .int .i64 n), (5, .slice A14 ((ms ++ [x9]).length) cap14), (15, .int .i64 ((i + 1 : Nat) : Int))] (by rw [hw16]) ?_
      refine OI_static 3 [(0, .pointer (some ⟨g, 0, none⟩)), (1, .int .i64 n), (5, .slice A14 ((ms ++ [x9]).length) cap14), (6, .int .i64 ((i + 1 : Nat) : Int))] (by kernel_rfl) ?_
      refine OI_end rfl ?_
      exact V_again (k2 - 1) (by omega) [(0, .pointer (some ⟨g, 0, none⟩)), (1, .int .i64 n), (5, .slice A14 ((ms ++ [x9]).length) cap14), (6, .int .i64 ((i + 1 : Nat) : Int))] rfl ⟨i + 1, A14, cap14, ms ++ [x9], by omega, by rw [filt_step (fun c : Ci => c.a == n) hx10, if_pos (by simpa using hc11), ← hms], hA14, own14, hk3, rfl⟩
    · skip
      refine V_skip ?_
      refine X_block ?_
      refine X_then ?_
      refine V_region ?_
      have hw17 : IntKind.i64.wrap (((i : Nat) : Int) + 1) = ((i + 1 : Nat) : Int) := (wrap64_id (by omega) (by omega)).trans (by omega)
      refine OI_static 2 [(0, .pointer (some ⟨g, 0, none⟩)), (1, .int .i64 n), (5, .slice A2 ms.length cap2), (15, .int .i64 (IntKind.i64.wrap (((i : Nat) : Int) + 1)))] (by kernel_rfl) ?_
      refine OI_eq [(0, .pointer (some ⟨g, 0, none⟩)), (1, .int .i64 n), (5, .slice A2 ms.length cap2), (15, .int .i64 ((i + 1 : Nat) : Int))] (by rw [hw17]) ?_
      refine OI_static 3 [(0, .pointer (some ⟨g, 0, none⟩)), (1, .int .i64 n), (5, .slice A2 ms.length cap2), (6, .int .i64 ((i + 1 : Nat) : Int))] (by kernel_rfl) ?_
      refine OI_end rfl ?_
      exact V_again (k2 - 1) (by omega) [(0, .pointer (some ⟨g, 0, none⟩)), (1, .int .i64 n), (5, .slice A2 ms.length cap2), (6, .int .i64 ((i + 1 : Nat) : Int))] rfl ⟨i + 1, A2, cap2, ms, by omega, by rw [filt_step (fun c : Ci => c.a == n) hx10, if_neg (by simpa using hc11), ← hms], hA2, ow2, hk3, rfl⟩
  · skip
    obtain rfl : i = cs.length := by omega
    rw [List.take_length] at hms
    refine V_exit ?_
    refine X_exit_then ?_
    refine X_exit_then ?_
    refine X_exit_here ?_
    refine X_then ?_
    refine V_seq ?_
    refine V_region ?_
    refine OI_static 2 [(4, .slice A2 ms.length cap2)] (by kernel_rfl) ?_
    refine OI_end rfl ?_
    refine X_then ?_
    refine V_ret ?_
    rw [hms] at hA2
    exact X_return _ rfl ⟨A2, cap2, by rw [hms], hA2, hK0, ow2⟩

set_option maxRecDepth 10000 in
theorem rcolumn_spec (F : Nat → Prop) (g : Nat) (cs : List Ci) (n : Int) (w : World) (h : Rgd F w g cs) : Calls Try.prog 27 #[.pointer (some ⟨g, 0, none⟩), .int .i64 n] w fun e w' => ∃ A' cap', e = .returned (.slice A' (cs.filter (fun c : Ci => c.b == n)).length cap') ∧ SlT w' 3 Ci.cells A' cap' (cs.filter (fun c : Ci => c.b == n)) ∧ Keep none_ w w' ∧ (∀ q, inA A' q → w.heap.size ≤ q) := by
  obtain ⟨hs, hlen, hFg, hFlt, A, cap, h, hAF⟩ := h
  have hgA := h.off
  have hg := h.blk
  have hA := h.sl
  have hglt := hg.lt
  have hltA := SlT.lt hA
  have hAg : ∀ q, inA A q → q ≠ g := fun q hq he => hgA (he ▸ hq)
  have hK0 : Keep none_ w w := Keep.refl _ _
  have hzhK0 := Keep.size hK0
  refine enterV Try.func27 rfl [.pointer (some ⟨g, 0, none⟩), .int .i64 n] 37 rfl rfl rfl ?_
  refine V_pick [(0, .pointer (some ⟨g, 0, none⟩)), (1, .int .i64 n)] rfl ?_
  refine V_seq ?_
  refine V_region ?_
  refine OI_static 1 [(0, .pointer (some ⟨g, 0, none⟩)), (1, .int .i64 n)] (by kernel_rfl) ?_
  refine OI_end rfl ?_
  refine X_then ?_
  refine V_seq ?_
  refine V_region ?_
  refine OI_static 1 [(0, .pointer (some ⟨g, 0, none⟩)), (1, .int .i64 n), (5, .slice none 0 0)] (by kernel_rfl) ?_
  refine OI_end rfl ?_
  refine X_then ?_
  refine V_seq ?_
  refine V_seq ?_
  refine V_region ?_
  refine OI_static 1 [(0, .pointer (some ⟨g, 0, none⟩)), (1, .int .i64 n), (5, .slice none 0 0), (6, .int .i64 0)] (by kernel_rfl) ?_
  refine OI_end rfl ?_
  refine X_then ?_
  refine V_block ?_
  refine V_pick [(0, .pointer (some ⟨g, 0, none⟩)), (1, .int .i64 n), (5, .slice none 0 0), (6, .int .i64 0)] rfl ?_
  refine V_loop (fun k wI e => ∃ i : Nat, ∃ A2 : Option Addr, ∃ cap2 : Nat, ∃ ms : List Ci, (k + i = cs.length) ∧ (ms = (cs.take i).filter (fun c : Ci => c.b == n)) ∧ (SlT wI 3 Ci.cells A2 cap2 ms) ∧ (∀ q, inA A2 q → w.heap.size ≤ q) ∧ Keep none_ w wI ∧ e = [(0, .pointer (some ⟨g, 0, none⟩)), (1, .int .i64 n), (5, .slice A2 ms.length cap2), (6, .int .i64 ((i : Nat) : Int))]) cs.length ⟨0, none, 0, [], by omega, rfl, SlT.nil _ _ _, fun q h => (inA_none h).elim, Keep.refl _ _, rfl⟩ ?_
  rintro k2 w1 _ ⟨i, A2, cap2, ms, hki, hms, hA2, ow2, hk3, rfl⟩
  have hsz4 := Keep.size hk3
  replace hg := hg.keep hk3 (fun f => f)
  have hglt := hg.lt
  replace hA := SlT.keep0 hA hk3
  replace hK0 := Keep.tr hK0 (Keep.ofNone hk3); have hzhK0 := Keep.size hK0
  have hzhk3 := Keep.size hk3
  have lt2 := SlT.lt hA2
  have hml : ms.length ≤ i := by rw [hms]; exact Nat.le_trans (List.length_filter_le _ _) (by rw [List.length_take]; omega)
  refine V_seq ?_
  refine V_seq ?_
  refine V_region ?_
  refine OI_static 4 [(0, .pointer (some ⟨g, 0, none⟩)), (1, .int .i64 n), (5, .slice A2 ms.length cap2), (6, .int .i64 ((i : Nat) : Int)), (7, .int .i64 ((i : Nat) : Int)), (10, .pointer (some ⟨g, 0, none⟩))] (by kernel_rfl) ?_
  refine OI_cell 47 (.tmp 10) 0 (.slice A cs.length cap) (some 11) (by kernel_rfl) (by kernel_rfl) hg (m := 1) (by kernel_rfl) rfl ?_
  refine OI_static 7 [(0, .pointer (some ⟨g, 0, none⟩)), (1, .int .i64 n), (5, .slice A2 ms.length cap2), (6, .int .i64 ((i : Nat) : Int)), (13, .bool (decide (((i : Nat) : Int) < ((cs.length : Nat) : Int))))] (by kernel_rfl) ?_
  refine OI_end rfl ?_
  refine X_then ?_
  refine V_if (((i : Nat) : Int) < ((cs.length : Nat) : Int)) (by kernel_rfl) (fun hc5 => ?_) (fun hc5 => ?_)
  · skip
    refine V_skip ?_
    refine X_then ?_
    refine V_seq ?_
    refine V_block ?_
    refine V_seq ?_
    refine V_region ?_
    refine OI_static 3 [(0, .pointer (some ⟨g, 0, none⟩)), (1, .int .i64 n), (5, .slice A2 ms.length cap2), (6, .int .i64 ((i : Nat) : Int)), (18, .pointer (some ⟨g, 0, none⟩))] (by kernel_rfl) ?_
    refine OI_cell 47 (.tmp 18) 0 (.slice A cs.length cap) (some 19) (by kernel_rfl) (by kernel_rfl) hg (m := 1) (by kernel_rfl) rfl ?_
    refine OI_static 5 [(0, .pointer (some ⟨g, 0, none⟩)), (1, .int .i64 n), (5, .slice A2 ms.length cap2), (6, .int .i64 ((i : Nat) : Int)), (19, .slice A cs.length cap), (20, .int .i64 ((i : Nat) : Int))] (by kernel_rfl) ?_
    obtain ⟨b6, o6, L6, T6, rfl, hat6⟩ := SlT.open_ hA (by first | omega | (simp only [List.length_map]; omega) | (simp; done) | (simp; omega))
    have hb6lt := hat6.blk.lt
    have hob7 := hAg b6 ⟨_, rfl, rfl⟩
    have hob8 := hltA b6 ⟨_, rfl, rfl⟩
    refine OI_pure (some 21) (.indexAddr 47 (.tmp 19) (.tmp 20)) (by kernel_rfl) (pure_idxN (b := b6) (o := o6) (len := cs.length) (cap := cap) (kd := .i64) (j := i) (E := 59) (sz := 3) (by_ := 24) (by kernel_rfl) (by kernel_rfl) (by kernel_rfl) (by omega)) ?_
    refine OI_static 7 [(0, .pointer (some ⟨g, 0, none⟩)), (1, .int .i64 n), (5, .slice A2 ms.length cap2), (6, .int .i64 ((i : Nat) : Int)), (22, .pointer (some ⟨b6, o6 + i * 3 + 1, none⟩))] (by kernel_rfl) ?_
    obtain ⟨x9, hx10⟩ : ∃ x, cs[i]? = some x := ⟨_, List.getElem?_eq_getElem (by first | omega | (simp only [List.length_map]; omega))⟩
    refine OI_cell 3 (.tmp 22) (o6 + i * 3 + 1) (.int .i64 x9.b) (some 23) (by kernel_rfl) (by kernel_rfl) hat6.blk (m := 1) (by kernel_rfl) (At.cell hat6 (es_at hx10) rfl) ?_
    refine OI_static 10 [(0, .pointer (some ⟨g, 0, none⟩)), (1, .int .i64 n), (5, .slice A2 ms.length cap2), (6, .int .i64 ((i : Nat) : Int)), (25, .bool (decide (x9.b = n)))] (by kernel_rfl) ?_
    refine OI_end rfl ?_
    refine X_then ?_
    refine V_if (x9.b = n) (by kernel_rfl) (fun hc11 => ?_) (fun hc11 => ?_)
    · skip
      refine V_region ?_
      refine OI_static 4 [(0, .pointer (some ⟨g, 0, none⟩)), (1, .int .i64 n), (6, .int .i64 ((i : Nat) : Int)), (26, .slice A2 ms.length cap2), (29, .pointer (some ⟨g, 0, none⟩))] (by kernel_rfl) ?_
      refine OI_cell 47 (.tmp 29) 0 (.slice (some ⟨b6, o6, none⟩) cs.length cap) (some 30) (by kernel_rfl) (by kernel_rfl) hg (m := 1) (by kernel_rfl) rfl ?_
      refine OI_static 6 [(0, .pointer (some ⟨g, 0, none⟩)), (1, .int .i64 n), (6, .int .i64 ((i : Nat) : Int)), (26, .slice A2 ms.length cap2), (30, .slice (some ⟨b6, o6, none⟩) cs.length cap), (31, .int .i64 ((i : Nat) : Int))] (by kernel_rfl) ?_
      refine OI_pure (some 32) (.indexAddr 47 (.tmp 30) (.tmp 31)) (by kernel_rfl) (pure_idxN (b := b6) (o := o6) (len := cs.length) (cap := cap) (kd := .i64) (j := i) (E := 59) (sz := 3) (by_ := 24) (by kernel_rfl) (by kernel_rfl) (by kernel_rfl) (by omega)) ?_
      refine OI_agg 59 (.tmp 32) (o6 + i * 3) (Ci.cells x9) (some 33) (by kernel_rfl) (by kernel_rfl) hat6.blk (m := 3) (by kernel_rfl) (At.elem' hat6 (es_at hx10)) (At.len hat6 (es_at hx10)) ?_
      refine OI_slit (E := 59) (zv := .agg #[.int .i64 0, .int .i64 0, .int .i64 0]) (sz := 3) (by_ := 24) 47 1 #[(0, (Operand.tmp 33))] [.agg (Ci.cells x9).toArray] (Ci.cells x9) (some 34) (by kernel_rfl) (by kernel_rfl) (by kernel_rfl) (by omega) rfl (by omega) (by intro v hv; obtain rfl := List.mem_singleton.1 hv; show (Ci.cells x9).toArray.size = 3; simp [Ci.len]) (by kernel_rfl) (by show (Ci.cells x9).toArray.toList ++ [] = _; simp) ?_
      intro b12 w12 e12 hb12 k12 z12
      have hsz13 := Keep.size k12
      replace hg := hg.keep k12 (fun f => f)
      have hglt := hg.lt
      replace hat6 := hat6.keep k12 (fun f => f)
      have hb6lt := hat6.blk.lt
      replace hA2 := SlT.keep0 hA2 k12
      replace hK0 := Keep.tr hK0 (Keep.ofNone k12); have hzhK0 := Keep.size hK0
      replace hk3 := Keep.tr hk3 (Keep.ofNone k12); have hzhk3 := Keep.size hk3
      have hb12lt := hb12.lt
      refine OI_append (t := 47) (at2 := 47) (E := 59) (E2 := 59) (sz := 3) (by_ := 24) (zv := .agg #[.int .i64 0, .int .i64 0, .int .i64 0]) (m := ms.length) (k := 1) (.tmp 26) (.tmp 34) (.slice A2 ms.length cap2) (.slice (some ⟨b12, 0, none⟩) 1 1) (some 35) (by kernel_rfl) (by kernel_rfl) (by kernel_rfl) (by kernel_rfl) (by kernel_rfl) (by kernel_rfl) (by kernel_rfl) (SlT.slr hA2) (slr_one hb12 (Ci.len x9)) (Ci.one x9) (by first | omega | (simp only [List.length_nil]; omega)) (by omega) (by first | omega | (simp only [List.length_nil]; omega)) (by omega) ?_
      intro vv9 w14 hap
      obtain ⟨A14, cap14, rfl, hA14, hk14, own14x⟩ := app_one (f := Ci.cells) (xs := ms) (x := x9) (A := A2) (cap := cap2) hap (fun x _ => Ci.len x) (Ci.len _)
      have own14 : ∀ q, inA A14 q → w.heap.size ≤ q := fun q hq => by rcases own14x q hq with h | h; exact ow2 q h; (show w.heap.size ≤ q; omega)
      have hsz15 := Keep.size hk14
      replace hg := hg.keep hk14 (fun hs => by have h1 := ow2 _ hs; have h2 := lt2 _ hs; omega)
      have hglt := hg.lt
      replace hat6 := hat6.keep hk14 (fun hs => by have h1 := ow2 _ hs; have h2 := lt2 _ hs; omega)
      have hb6lt := hat6.blk.lt
      replace hK0 := Keep.fresh hK0 hk14 (by intro i hi hs; first | exact hs | (exfalso; have h1 := ow2 i hs; have h2 := lt2 i hs; omega) | (have h1 := ow2 i hs; have h2 := lt2 i hs; show _ ∨ _; omega)); have hzhK0 := Keep.size hK0
      replace hk3 := Keep.fresh hk3 hk14 (by intro i hi hs; first | exact hs | (exfalso; have h1 := ow2 i hs; have h2 := lt2 i hs; omega) | (have h1 := ow2 i hs; have h2 := lt2 i hs; show _ ∨ _; omega)); have hzhk3 := Keep.size hk3
      have lt14 := SlT.lt hA14
      refine OI_static 11 [(0, .pointer (some ⟨g, 0, none⟩)), (1, .int .i64 n), (5, .slice A14 ((ms ++ [x9]).length) cap14), (6, .int .i64 ((i : Nat) : Int))] (by kernel_rfl) ?_
      refine OI_end rfl ?_
      refine X_block ?_
      refine X_then ?_
      refine V_region ?_
      have hw16 : IntKind.i64.wrap (((i : Nat) : Int) + 1) = ((i + 1 : Nat) : Int) := (wrap64_id (by omega) (by omega)).trans (by omega)
      refine OI_static 2 [(0, .pointer (some ⟨g, 0, none⟩)), (1, .int .i64 n), (5, .slice A14 ((ms ++ [x9]).length) cap14), (15, .int .i64 (IntKind.i64.wrap (((i : Nat) : Int) + 1)))] (by kernel_rfl) ?_
      refine OI_eq [(0, .pointer (some ⟨g, 0, none⟩)), (1, .int .i64 n), (5, .slice A14 ((ms ++ [x9]).length) cap14), (15, .int .i64 ((i + 1 : Nat) : Int))] (by rw [hw16]) ?_
      refine OI_static 3 [(0, .pointer (some ⟨g, 0, none⟩)), (1, .int .i64 n), (5, .slice A14 ((ms ++ [x9]).length) cap14), (6, .int .i64 ((i + 1 : Nat) : Int))] (by kernel_rfl) ?_
      refine OI_end rfl ?_
      exact V_again (k2 - 1) (by omega) [(0, .pointer (some ⟨g, 0, none⟩)), (1, .int .i64 n), (5, .slice A14 ((ms ++ [x9]).length) cap14), (6, .int .i64 ((i + 1 : Nat) : Int))] rfl ⟨i + 1, A14, cap14, ms ++ [x9], by omega, by rw [filt_step (fun c : Ci => c.b == n) hx10, if_pos (by simpa using hc11), ← hms], hA14, own14, hk3, rfl⟩
    · skip
      refine V_skip ?_
      refine X_block ?_
      refine X_then ?_
      refine V_region ?_
      have hw17 : IntKind.i64.wrap (((i : Nat) : Int) + 1) = ((i + 1 : Nat) : Int) := (wrap64_id (by omega) (by omega)).trans (by omega)
      refine OI_static 2 [(0, .pointer (some ⟨g, 0, none⟩)), (1, .int .i64 n), (5, .slice A2 ms.length cap2), (15, .int .i64 (IntKind.i64.wrap (((i : Nat) : Int) + 1)))] (by kernel_rfl) ?_
      refine OI_eq [(0, .pointer (some ⟨g, 0, none⟩)), (1, .int .i64 n), (5, .slice A2 ms.length cap2), (15, .int .i64 ((i + 1 : Nat) : Int))] (by rw [hw17]) ?_
      refine OI_static 3 [(0, .pointer (some ⟨g, 0, none⟩)), (1, .int .i64 n), (5, .slice A2 ms.length cap2), (6, .int .i64 ((i + 1 : Nat) : Int))] (by kernel_rfl) ?_
      refine OI_end rfl ?_
      exact V_again (k2 - 1) (by omega) [(0, .pointer (some ⟨g, 0, none⟩)), (1, .int .i64 n), (5, .slice A2 ms.length cap2), (6, .int .i64 ((i + 1 : Nat) : Int))] rfl ⟨i + 1, A2, cap2, ms, by omega, by rw [filt_step (fun c : Ci => c.b == n) hx10, if_neg (by simpa using hc11), ← hms], hA2, ow2, hk3, rfl⟩
  · skip
    obtain rfl : i = cs.length := by omega
    rw [List.take_length] at hms
    refine V_exit ?_
    refine X_exit_then ?_
    refine X_exit_then ?_
    refine X_exit_here ?_
    refine X_then ?_
    refine V_seq ?_
    refine V_region ?_
    refine OI_static 2 [(4, .slice A2 ms.length cap2)] (by kernel_rfl) ?_
    refine OI_end rfl ?_
    refine X_then ?_
    refine V_ret ?_
    rw [hms] at hA2
    exact X_return _ rfl ⟨A2, cap2, by rw [hms], hA2, hK0, ow2⟩

theorem same_spec (A B : Option Addr) (cap capb : Nat) (cs : List Ci) (w : World) (hA : SlT w 3 Ci.cells A cap cs) (hB : SlT w 3 Ci.cells B capb cs) (hn : cs.length ≤ 1000000) : Calls Try.prog 24 #[.slice A cs.length cap, .slice B cs.length capb] w fun e w' => e = .returned (.bool true) ∧ Keep none_ w w' := by
  have hK0 : Keep none_ w w := Keep.refl _ _
  have hzhK0 := Keep.size hK0
  refine enterV Try.func24 rfl [.slice A cs.length cap, .slice B cs.length capb] 26 rfl rfl rfl ?_
  refine V_pick [(0, .slice A cs.length cap), (1, .slice B cs.length capb)] rfl ?_
  refine V_seq ?_
  refine V_region ?_
  refine OI_static 1 [(0, .slice A cs.length cap), (1, .slice B cs.length capb)] (by kernel_rfl) ?_
  refine OI_end rfl ?_
  refine X_then ?_
  refine V_seq ?_
  refine V_seq ?_
  refine V_region ?_
  refine OI_static 5 [(0, .slice A cs.length cap), (1, .slice B cs.length capb), (10, .bool (!(decide (((cs.length : Nat) : Int) = ((cs.length : Nat) : Int)))))] (by kernel_rfl) ?_
  refine OI_end rfl ?_
  refine X_then ?_
  refine V_eq [(0, .slice A cs.length cap), (1, .slice B cs.length capb), (10, .bool false)] (by rw [decide_eq_true (rfl : ((cs.length : Nat) : Int) = ((cs.length : Nat) : Int))]; rfl) ?_
  refine V_false rfl ?_
  refine V_skip ?_
  refine X_then ?_
  refine V_seq ?_
  refine V_seq ?_
  refine V_region ?_
  refine OI_static 1 [(0, .slice A cs.length cap), (1, .slice B cs.length capb), (5, .int .i64 0)] (by kernel_rfl) ?_
  refine OI_end rfl ?_
  refine X_then ?_
  refine V_block ?_
  refine V_pick [(0, .slice A cs.length cap), (1, .slice B cs.length capb), (5, .int .i64 0)] rfl ?_
  refine V_loop (fun k wI e => ∃ i : Nat, (k + i = cs.length) ∧ Keep none_ w wI ∧ e = [(0, .slice A cs.length cap), (1, .slice B cs.length capb), (5, .int .i64 ((i : Nat) : Int))]) cs.length ⟨0, by omega, Keep.refl _ _, rfl⟩ ?_
  rintro k3 w2 _ ⟨i, hki, hk4, rfl⟩
  have hsz5 := Keep.size hk4
  replace hA := SlT.keep0 hA hk4
  replace hB := SlT.keep0 hB hk4
  replace hK0 := Keep.tr hK0 (Keep.ofNone hk4); have hzhK0 := Keep.size hK0
  have hzhk4 := Keep.size hk4
  refine V_seq ?_
  refine V_seq ?_
  refine V_region ?_
  refine OI_static 4 [(0, .slice A cs.length cap), (1, .slice B cs.length capb), (5, .int .i64 ((i : Nat) : Int)), (14, .bool (decide (((i : Nat) : Int) < ((cs.length : Nat) : Int))))] (by kernel_rfl) ?_
  refine OI_end rfl ?_
  refine X_then ?_
  refine V_if (((i : Nat) : Int) < ((cs.length : Nat) : Int)) (by kernel_rfl) (fun hc6 => ?_) (fun hc6 => ?_)
  · skip
    refine V_skip ?_
    refine X_then ?_
    refine V_seq ?_
    refine V_block ?_
    refine V_seq ?_
    refine V_draws (acts []) none_ [[0, 1, 2, 3, 4, 5, 6, 7, 8]] (by kernel_rfl) (by repeat first | exact sure_body (by rintro _ _ ⟨h, _⟩; exact ⟨_, h⟩) | refine sure_then ?_ | refine sure_block ?_ | refine sure_join ?_) (by kernel_rfl) ?_
    intro w8 hk7 he9 L hL10
    have hsz11 := Keep.size hk7
    replace hA := SlT.keep0 hA hk7
    replace hB := SlT.keep0 hB hk7
    replace hK0 := Keep.tr hK0 (Keep.ofNone hk7); have hzhK0 := Keep.size hK0
    replace hk4 := Keep.tr hk4 (Keep.ofNone hk7); have hzhk4 := Keep.size hk4
    have K12 : Keep none_ w8 w8 := Keep.refl _ _
    obtain rfl := List.mem_singleton.1 hL10
    refine GI_static [2, 3, 4, 5, 6, 7, 8] [(0, .slice A cs.length cap), (1, .slice B cs.length capb), (5, .int .i64 ((i : Nat) : Int)), (17, .slice A cs.length cap), (18, .int .i64 ((i : Nat) : Int))] (by kernel_rfl) ?_
    obtain ⟨b13, o13, L13, T13, rfl, hat13⟩ := SlT.open_ hA (by first | omega | (simp only [List.length_map]; omega) | (simp; done) | (simp; omega))
    have hb13lt := hat13.blk.lt
    refine GI_pure (some 19) (.indexAddr 47 (.tmp 17) (.tmp 18)) (by kernel_rfl) (by kernel_rfl) (pure_idxN (b := b13) (o := o13) (len := cs.length) (cap := cap) (kd := .i64) (j := i) (E := 59) (sz := 3) (by_ := 24) (by kernel_rfl) (by kernel_rfl) (by kernel_rfl) (by omega)) ?_
    obtain ⟨x14, hx15⟩ : ∃ x, cs[i]? = some x := ⟨_, List.getElem?_eq_getElem (by first | omega | (simp only [List.length_map]; omega))⟩
    refine GI_agg 59 (.tmp 19) (o13 + i * 3) (Ci.cells x14) (some 20) (by kernel_rfl) (by kernel_rfl) (by kernel_rfl) hat13.blk (fun f => f) (m := 3) (by kernel_rfl) (At.elem' hat13 (es_at hx15)) (At.len hat13 (es_at hx15)) ?_
    refine GI_static [6, 7, 8] [(0, .slice (some ⟨b13, o13, none⟩) cs.length cap), (1, .slice B cs.length capb), (5, .int .i64 ((i : Nat) : Int)), (20, .agg (Ci.cells x14).toArray), (21, .slice B cs.length capb), (22, .int .i64 ((i : Nat) : Int))] (by kernel_rfl) ?_
    obtain ⟨b16, o16, L16, T16, rfl, hat16⟩ := SlT.open_ hB (by first | omega | (simp only [List.length_map]; omega) | (simp; done) | (simp; omega))
    have hb16lt := hat16.blk.lt
    refine GI_pure (some 23) (.indexAddr 47 (.tmp 21) (.tmp 22)) (by kernel_rfl) (by kernel_rfl) (pure_idxN (b := b16) (o := o16) (len := cs.length) (cap := capb) (kd := .i64) (j := i) (E := 59) (sz := 3) (by_ := 24) (by kernel_rfl) (by kernel_rfl) (by kernel_rfl) (by omega)) ?_
    refine GI_agg 59 (.tmp 23) (o16 + i * 3) (Ci.cells x14) (some 24) (by kernel_rfl) (by kernel_rfl) (by kernel_rfl) hat16.blk (fun f => f) (m := 3) (by kernel_rfl) (At.elem' hat16 (es_at hx15)) (At.len hat16 (es_at hx15)) ?_
    refine GI_pure (some 25) ((Op.binOp BinOp.neq 59 (Operand.tmp 20) (Operand.tmp 24) 59)) (by kernel_rfl) (by kernel_rfl) (pure_neq_self (n := 3) (xs := Ci.cells x14) (by kernel_rfl) (by kernel_rfl) (by kernel_rfl) (by kernel_rfl) (by kernel_rfl) (by kernel_rfl) (Ci.ints x14)) ?_
    refine GI_end ?_
    refine X_then ?_
    refine V_false rfl ?_
    refine V_skip ?_
    refine X_block ?_
    refine X_then ?_
    refine V_region ?_
    have hw17 : IntKind.i64.wrap (((i : Nat) : Int) + 1) = ((i + 1 : Nat) : Int) := (wrap64_id (by omega) (by omega)).trans (by omega)
    refine OI_static 2 [(0, .slice (some ⟨b13, o13, none⟩) cs.length cap), (1, .slice (some ⟨b16, o16, none⟩) cs.length capb), (16, .int .i64 (IntKind.i64.wrap (((i : Nat) : Int) + 1)))] (by kernel_rfl) ?_
    refine OI_eq [(0, .slice (some ⟨b13, o13, none⟩) cs.length cap), (1, .slice (some ⟨b16, o16, none⟩) cs.length capb), (16, .int .i64 ((i + 1 : Nat) : Int))] (by rw [hw17]) ?_
    refine OI_static 3 [(0, .slice (some ⟨b13, o13, none⟩) cs.length cap), (1, .slice (some ⟨b16, o16, none⟩) cs.length capb), (5, .int .i64 ((i + 1 : Nat) : Int))] (by kernel_rfl) ?_
    refine OI_end rfl ?_
    exact V_again (k3 - 1) (by omega) [(0, .slice (some ⟨b13, o13, none⟩) cs.length cap), (1, .slice (some ⟨b16, o16, none⟩) cs.length capb), (5, .int .i64 ((i + 1 : Nat) : Int))] rfl ⟨i + 1, by omega, hk4, rfl⟩
  · skip
    refine V_exit ?_
    refine X_exit_then ?_
    refine X_exit_then ?_
    refine X_exit_here ?_
    refine X_then ?_
    refine V_seq ?_
    refine V_region ?_
    refine OI_static 1 [(4, .bool true)] (by kernel_rfl) ?_
    refine OI_end rfl ?_
    refine X_then ?_
    refine V_ret ?_
    exact X_return (.bool true) rfl ⟨rfl, hK0⟩
end Go.Al
