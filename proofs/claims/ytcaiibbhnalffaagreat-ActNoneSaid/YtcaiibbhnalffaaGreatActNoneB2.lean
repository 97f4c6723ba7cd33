/-
  Put together out of 29 texts: Walks of package grid: slices. Walks of package grid: the grid. Walks of package grid: Set. Walks of package grid: a row, a column. Walks of package grid: a grid with its footprint. Walks of package grid. Walks of package grid: the grid. Walks of package grid: Set. Walk
-/
import Derived.Test.YtcaiibbhnalffaaGreatActNoneB1
namespace Go.Al.GQ
open Go Go.RowKit Go.Proofs
set_option maxRecDepth 10000 in
theorem clone_nil (w : World) : Calls Tryz.prog 79 #[.slice none 0 0] w fun e w' => e = .returned (.slice none 0 0) ∧ w' = w := by
 refine enterV Tryz.func79 rfl [.slice none 0 0] 8 rfl rfl rfl ?_
 refine Vr ?_
 refine On 1 [0] ?_
 refine Oe ?_
 refine V_seq ?_
 refine Vs [(0, .slice none 0 0), (4, .bool true)] ?_
 refine V_true rfl ?_
 refine Vs [(2, .slice none 0 0)] ?_
 refine V_ret ?_
 refine X_ret_then ?_
 exact X_return _ rfl ⟨rfl, rfl⟩
set_option maxRecDepth 10000 in
theorem clone_at (b o cap : Nat) (L : List Value) (T : TypeId) (xs : List Ci) (w : World) (h : At w b o L T 47 cap (xs.map Ci.cells)) (hn : xs.length ≤ 1000000) : Calls Tryz.prog 79 #[sl_ b o xs.length cap] w fun e w' => ∃ A' cap', e = .returned (.slice A' xs.length cap') ∧ SlT w' 47 Ci.cells A' cap' xs ∧ Keep none_ w w' ∧ (∀ k, inA A' k → w.heap.size ≤ k) := by
 have hblt := h.blk.lt
 have hK0 : Keep none_ w w := Keep.refl _ _
 have hzhK0 := Keep.size hK0
 refine enterV Tryz.func79 rfl [sl_ b o xs.length cap] 8 rfl rfl rfl ?_
 refine Vr ?_
 refine On 1 [0] ?_
 refine Oe ?_
 refine V_seq ?_
 refine Vs [(0, sl_ b o xs.length cap), (4, .bool false)] ?_
 refine V_false rfl ?_
 refine V_skip ?_
 refine X_then ?_
 refine Vr ?_
 refine OI_slit (E := 147) (zv := .agg #[nt 0, nt 0, nt 0, nt 0, .int .u8 0, .int .u8 0, .int .u8 0, .int .u8 0, .int .u8 0, .int .u8 0, .int .u8 0, .int .u8 0, .int .u8 0, .int .u8 0, .int .u8 0, .int .u8 0, .int .u8 0, .int .u8 0, .int .u8 0, .int .u8 0, .int .u8 0, .int .u8 0, .int .u8 0, .int .u8 0, .int .u8 0, .int .u8 0, .int .u8 0, .int .u8 0, .int .u8 0, .int .u8 0, .int .u8 0, .int .u8 0, .int .u8 0, .int .u8 0, .int .u8 0, .int .u8 0, nt 0, nt 0, nt 0, .bool false, nt 0, nt 0, nt 0, nt 0, nt 0, nt 0, nt 0]) (sz := 47) (by_ := 152) 148 0 #[] [] [] (some 5) (by kernel_rfl) (by kernel_rfl) (by kernel_rfl) (by omega) rfl (by omega) (by intro v hv; cases hv) (by kernel_rfl) rfl ?_
 intro b1 w1 e1 hb1 k1 z1
 have hsz2 := Keep.size k1
 replace h := h.k0 k1
 replace hK0 := hK0.tn k1
 have hb1lt := hb1.lt
 refine Os 2 [(5, sl_ b1 0 0 0), (6, sl_ b o xs.length cap)] ?_
 refine OI_append (t := 148) (at2 := 148) (E := 147) (E2 := 147) (sz := 47) (by_ := 152) (zv := .agg #[nt 0, nt 0, nt 0, nt 0, .int .u8 0, .int .u8 0, .int .u8 0, .int .u8 0, .int .u8 0, .int .u8 0, .int .u8 0, .int .u8 0, .int .u8 0, .int .u8 0, .int .u8 0, .int .u8 0, .int .u8 0, .int .u8 0, .int .u8 0, .int .u8 0, .int .u8 0, .int .u8 0, .int .u8 0, .int .u8 0, .int .u8 0, .int .u8 0, .int .u8 0, .int .u8 0, .int .u8 0, .int .u8 0, .int .u8 0, .int .u8 0, .int .u8 0, .int .u8 0, .int .u8 0, .int .u8 0, nt 0, nt 0, nt 0, .bool false, nt 0, nt 0, nt 0, nt 0, nt 0, nt 0, nt 0]) (m := 0) (k := xs.length) (.tmp 5) (.tmp 6) (sl_ b1 0 0 0) (sl_ b o xs.length cap) (some 7) (by kernel_rfl) (by kernel_rfl) (by kernel_rfl) (by kernel_rfl) (by kernel_rfl) (by kernel_rfl) (by kernel_rfl) (SlT.slr (slt_blk (f := Ci.cells) (xs := []) hb1 Ci.len rfl)) (SlT.slr (At.slt h)) (one_flat Ci.one) (by omega) (by omega) (by omega) (by omega) ?_
 intro v w9 hap
 obtain ⟨A9, cap9, rfl, h9, hin⟩ := SlT.of (xs := xs) hap.holds (by omega) (by simp) (fun x _ => Ci.len x)
 have hk9 : Keep (only b1) w1 w9 := hap.keep
 have hown : ∀ k, inA A9 k → w.heap.size ≤ k := fun k hk => by rcases hap.own k (hin k hk) with h | h; (have h : k = b1 := h; omega); omega
 have hsz3 := Keep.size hk9
 replace h := h.k1 hk9
 replace hK0 := Keep.fr hK0 hk9
 refine Op_ [(7, .slice A9 (0 + xs.length) cap9)] ?_
 refine Oq (u := .slice A9 (0 + xs.length) cap9) (v := .slice A9 xs.length cap9) 7 (by rw [Nat.zero_add]) ?_
 refine Ose [(2, .slice A9 xs.length cap9)] ?_
 refine V_ret ?_
 exact X_return _ rfl ⟨A9, cap9, rfl, h9, hK0, hown⟩
theorem clone_spec (A : Option Addr) (cap : Nat) (xs : List Ci) (w : World) (hA : SlT w 47 Ci.cells A cap xs) (hn : xs.length ≤ 1000000) : Calls Tryz.prog 79 #[.slice A xs.length cap] w fun e w' => ∃ A' cap', e = .returned (.slice A' xs.length cap') ∧ SlT w' 47 Ci.cells A' cap' xs ∧ Keep none_ w w' ∧ (∀ k, inA A' k → w.heap.size ≤ k) := by
  rcases Nat.eq_zero_or_pos xs.length with h0 | h0
  · obtain rfl := List.length_eq_zero_iff.1 h0
    rcases hA with ⟨rfl, rfl, _⟩ | ⟨b, o, L, T, rfl, h1, h2, h3, h4, h5⟩
    · exact (clone_nil w).mono (by rintro e w' ⟨rfl, rfl⟩; exact ⟨none, 0, rfl, SlT.nil _ _ _, Keep.refl _ _, fun k hk => (inA_none hk).elim⟩)
    · exact clone_at b o cap L T [] w ⟨h1, h2, h3, h4, h5⟩ hn
  · obtain ⟨b, o, L, T, rfl, h⟩ := hA.open_ h0
    exact clone_at b o cap L T xs w h hn
set_option maxRecDepth 10000 in
theorem insert_nil (vb : Nat) (x : Ci) (w : World) (hv : Blk w vb (Ci.cells x) 147) : Calls Tryz.prog 80 #[.slice none 0 0, nt 0, sl_ vb 0 1 1] w fun e w' => ∃ A' cap', e = .returned (.slice A' 1 cap') ∧ SlT w' 47 Ci.cells A' cap' [x] ∧ Keep none_ w w' ∧ (∀ k, inA A' k → w.heap.size ≤ k) := by
 have hvblt := hv.lt
 have hK0 : Keep none_ w w := Keep.refl _ _
 have hzhK0 := Keep.size hK0
 refine enterV Tryz.func80 rfl [.slice none 0 0, nt 0, sl_ vb 0 1 1] 95 rfl rfl rfl ?_
 refine Vr ?_
 refine On 1 [0, 1, 2] ?_
 refine Oer ?_
 refine On 2 [0, 1, 2, 10, 11] ?_
 refine OI_pure (some 12) ((Op.slice 148 (Operand.tmp 10) (some (Operand.tmp 11)) none none)) (by kernel_rfl) (pure_slice (E := 147) (sz := 47) (by_ := 152) (base := none) (len := 0) (cap := 0) (lo := (some (.tmp 11))) (hi := none) (l := 0) (h := 0) (by kernel_rfl) (by kernel_rfl) ⟨.i64, by kernel_rfl⟩ rfl (by omega) (by omega)) ?_
 refine Op_ [(0, .slice none 0 0), (1, nt 0), (2, sl_ vb 0 1 1)] ?_
 refine Oer ?_
 refine On 3 [0, 1, 2, 7] ?_
 refine Oe ?_
 refine V_seq ?_
 refine Vs [(0, .slice none 0 0), (1, nt 0), (2, sl_ vb 0 1 1), (7, nt 1), (16, .bool false)] ?_
 refine V_false rfl ?_
 refine V_skip ?_
 refine X_then ?_
 refine Vr ?_
 refine On 3 [0, 1, 2, 7, 8] ?_
 refine Oe ?_
 refine V_seq ?_
 refine Vs [(0, .slice none 0 0), (1, nt 0), (2, sl_ vb 0 1 1), (7, nt 1), (8, nt 0), (22, .bool true)] ?_
 refine V_true rfl ?_
 refine Vr ?_
 refine Os 2 [(23, .slice none 0 0), (24, sl_ vb 0 1 1)] ?_
 refine OI_append (t := 148) (at2 := 148) (E := 147) (E2 := 147) (sz := 47) (by_ := 152) (zv := .agg #[nt 0, nt 0, nt 0, nt 0, .int .u8 0, .int .u8 0, .int .u8 0, .int .u8 0, .int .u8 0, .int .u8 0, .int .u8 0, .int .u8 0, .int .u8 0, .int .u8 0, .int .u8 0, .int .u8 0, .int .u8 0, .int .u8 0, .int .u8 0, .int .u8 0, .int .u8 0, .int .u8 0, .int .u8 0, .int .u8 0, .int .u8 0, .int .u8 0, .int .u8 0, .int .u8 0, .int .u8 0, .int .u8 0, .int .u8 0, .int .u8 0, .int .u8 0, .int .u8 0, .int .u8 0, .int .u8 0, nt 0, nt 0, nt 0, .bool false, nt 0, nt 0, nt 0, nt 0, nt 0, nt 0, nt 0]) (m := 0) (k := 1) (.tmp 23) (.tmp 24) (.slice none 0 0) (sl_ vb 0 1 1) (some 25) (by kernel_rfl) (by kernel_rfl) (by kernel_rfl) (by kernel_rfl) (by kernel_rfl) (by kernel_rfl) (by kernel_rfl) (.inl ⟨rfl, rfl, rfl⟩) (slr_one hv (Ci.len _)) (Ci.one _) (by omega) (by omega) (by omega) (by omega) ?_
 intro v w9 hap
 obtain ⟨A9, cap9, rfl, h9, hin⟩ := SlT.of (xs := [x]) hap.holds rfl (by simp) (fun x _ => Ci.len x)
 have hk9 : Keep none_ w w9 := hap.keep
 have hown : ∀ k, inA A9 k → w.heap.size ≤ k := fun k hk => by rcases hap.own k (hin k hk) with h | h; exact h.elim; exact h
 have hsz1 := Keep.size hk9
 replace hv := hv.k0 hk9
 replace hK0 := hK0.tn hk9
 refine Op_ [(25, .slice A9 (0 + 1) cap9)] ?_
 refine Oq (u := .slice A9 (0 + 1) cap9) (v := .slice A9 1 cap9) 25 (by rw [Nat.zero_add]) ?_
 refine Ose [(6, .slice A9 1 cap9)] ?_
 refine V_ret ?_
 refine X_ret_then ?_
 exact X_return _ rfl ⟨A9, cap9, rfl, h9, hK0, hown⟩
set_option maxRecDepth 10000 in
theorem insert_at (b o cap vb i : Nat) (L : List Value) (T : TypeId) (xs : List Ci) (x : Ci) (w : World) (h : At w b o L T 47 cap (xs.map Ci.cells)) (hv : Blk w vb (Ci.cells x) 147) (hne : vb ≠ b) (hi : i ≤ xs.length) (hn : xs.length ≤ 1000000) : Calls Tryz.prog 80 #[sl_ b o xs.length cap, nt (i : Int), sl_ vb 0 1 1] w fun e w' => ∃ A' cap', e = .returned (.slice A' (xs.length + 1) cap') ∧ SlT w' 47 Ci.cells A' cap' (xs.take i ++ x :: xs.drop i) ∧ Keep (only b) w w' ∧ (∀ k, inA A' k → k = b ∨ w.heap.size ≤ k) := by
 have hblt := h.blk.lt
 have hvblt := hv.lt
 have hle : xs.length ≤ cap := by simpa using h.le
 have hK0 : Keep (only b) w w := Keep.refl _ _
 have hzhK0 := Keep.size hK0
 refine enterV Tryz.func80 rfl [sl_ b o xs.length cap, nt (i : Int), sl_ vb 0 1 1] 95 rfl rfl rfl ?_
 refine Vr ?_
 refine On 1 [0, 1, 2] ?_
 refine Oer ?_
 refine On 2 [0, 1, 2, 10, 11] ?_
 refine OI_pure (some 12) ((Op.slice 148 (Operand.tmp 10) (some (Operand.tmp 11)) none none)) (by kernel_rfl) (pure_slice (E := 147) (sz := 47) (by_ := 152) (base := (some ⟨b, o, none⟩)) (len := xs.length) (cap := cap) (lo := (some (.tmp 11))) (hi := none) (l := i) (h := xs.length) (by kernel_rfl) (by kernel_rfl) ⟨.i64, by kernel_rfl⟩ rfl (by omega) (by omega)) ?_
 refine Op_ [(0, sl_ b o xs.length cap), (1, nt (i : Int)), (2, sl_ vb 0 1 1)] ?_
 refine Oer ?_
 refine On 3 [0, 1, 2, 7] ?_
 refine Oe ?_
 refine V_seq ?_
 refine Vs [(0, sl_ b o xs.length cap), (1, nt (i : Int)), (2, sl_ vb 0 1 1), (7, nt 1), (16, .bool false)] ?_
 refine V_false rfl ?_
 refine V_skip ?_
 refine X_then ?_
 refine Vr ?_
 refine On 3 [0, 1, 2, 7, 8] ?_
 refine Oe ?_
 refine V_seq ?_
 refine Vs [(0, sl_ b o xs.length cap), (1, nt (i : Int)), (2, sl_ vb 0 1 1), (7, nt 1), (8, nt (xs.length : Int)), (22, .bool (decide ((i : Int) = (xs.length : Int))))] ?_
 refine V_if ((i : Int) = (xs.length : Int)) (by kernel_rfl) (fun hc1 => ?_) (fun hc1 => ?_)
 ·
  refine Vr ?_
  refine Os 2 [(23, sl_ b o xs.length cap), (24, sl_ vb 0 1 1)] ?_
  obtain rfl : i = xs.length := by omega
  refine OI_append (t := 148) (at2 := 148) (E := 147) (E2 := 147) (sz := 47) (by_ := 152) (zv := .agg #[nt 0, nt 0, nt 0, nt 0, .int .u8 0, .int .u8 0, .int .u8 0, .int .u8 0, .int .u8 0, .int .u8 0, .int .u8 0, .int .u8 0, .int .u8 0, .int .u8 0, .int .u8 0, .int .u8 0, .int .u8 0, .int .u8 0, .int .u8 0, .int .u8 0, .int .u8 0, .int .u8 0, .int .u8 0, .int .u8 0, .int .u8 0, .int .u8 0, .int .u8 0, .int .u8 0, .int .u8 0, .int .u8 0, .int .u8 0, .int .u8 0, .int .u8 0, .int .u8 0, .int .u8 0, .int .u8 0, nt 0, nt 0, nt 0, .bool false, nt 0, nt 0, nt 0, nt 0, nt 0, nt 0, nt 0]) (m := xs.length) (k := 1) (.tmp 23) (.tmp 24) (sl_ b o xs.length cap) (sl_ vb 0 1 1) (some 25) (by kernel_rfl) (by kernel_rfl) (by kernel_rfl) (by kernel_rfl) (by kernel_rfl) (by kernel_rfl) (by kernel_rfl) (SlT.slr (At.slt h)) (slr_one hv (Ci.len _)) (Ci.one _) (by omega) (by omega) (by omega) (by omega) ?_
  intro v w9 hap
  obtain ⟨A9, cap9, rfl, h9, hin⟩ := SlT.of (xs := xs.take xs.length ++ x :: xs.drop xs.length) hap.holds (by simp) (by simp) (fun x _ => Ci.len x)
  have hk9 : Keep (only b) w w9 := hap.keep
  have hown : ∀ k, inA A9 k → k = b ∨ w.heap.size ≤ k := fun k hk => hap.own k (hin k hk)
  have hsz2 := Keep.size hk9
  replace hv := hv.k1 hk9
  replace hK0 := Keep.fr hK0 hk9
  refine Ose [(6, .slice A9 (xs.length + 1) cap9)] ?_
  refine V_ret ?_
  refine X_ret_then ?_
  exact X_return _ rfl ⟨A9, cap9, rfl, h9, hK0, hown⟩
 refine V_skip ?_
 refine X_then ?_
 refine V_seq ?_
 refine Vr ?_
 have hw3 : IntKind.i64.wrap ((xs.length : Int) + 1) = ((xs.length + 1 : Nat) : Int) := wrp
 refine Os 3 [(0, sl_ b o xs.length cap), (1, nt (i : Int)), (2, sl_ vb 0 1 1), (7, nt 1), (8, nt (xs.length : Int)), (28, nt (IntKind.i64.wrap ((xs.length : Int) + 1)))] ?_
 refine Oq (u := nt (IntKind.i64.wrap ((xs.length : Int) + 1))) (v := nt ((xs.length + 1 : Nat) : Int)) 28 (by rw [hw3]) ?_
 refine Ose [(0, sl_ b o xs.length cap), (1, nt (i : Int)), (2, sl_ vb 0 1 1), (7, nt 1), (8, nt (xs.length : Int)), (31, .bool (decide (((xs.length + 1 : Nat) : Int) > (cap : Int))))] ?_
 refine V_if (((xs.length + 1 : Nat) : Int) > (cap : Int)) (by kernel_rfl) (fun hc4 => ?_) (fun hc4 => ?_)
 ·
  refine Vr ?_
  refine On 2 [0, 1, 2, 7, 8, 32, 33] ?_
  refine OI_pure (some 34) ((Op.slice 148 (Operand.tmp 32) none (some (Operand.tmp 33)) none)) (by kernel_rfl) (pure_sliceTo (E := 147) (sz := 47) (by_ := 152) (base := (some ⟨b, o, none⟩)) (len := xs.length) (cap := cap) (h := i) (kd := .i64) (by kernel_rfl) (by kernel_rfl) (by kernel_rfl) (by omega)) ?_
  have hw5 : IntKind.i64.wrap ((xs.length : Int) + 1) = ((xs.length + 1 : Nat) : Int) := wrp
  refine Os 6 [(0, sl_ b o xs.length cap), (1, nt (i : Int)), (2, sl_ vb 0 1 1), (7, nt 1), (34, sl_ b o i cap), (37, nt (IntKind.i64.wrap ((xs.length : Int) + 1)))] ?_
  refine Oq (u := nt (IntKind.i64.wrap ((xs.length : Int) + 1))) (v := nt ((xs.length + 1 : Nat) : Int)) 37 (by rw [hw5]) ?_
  have hw6 : IntKind.i64.wrap (((xs.length + 1 : Nat) : Int) - (i : Int)) = ((xs.length + 1 - i : Nat) : Int) := wrp
  refine Os 8 [(0, sl_ b o xs.length cap), (1, nt (i : Int)), (2, sl_ vb 0 1 1), (7, nt 1), (34, sl_ b o i cap), (39, nt (IntKind.i64.wrap (((xs.length + 1 : Nat) : Int) - (i : Int))))] ?_
  refine Oq (u := nt (IntKind.i64.wrap (((xs.length + 1 : Nat) : Int) - (i : Int)))) (v := nt ((xs.length + 1 - i : Nat) : Int)) 39 (by rw [hw6]) ?_
  refine OI_appmake (t := 148) (E := 147) (at2 := 3) (sz := 47) (by_ := 152) (m := i) (k := xs.length + 1 - i) (N := xs.length + 1) (kd := .i64) (zv := .agg #[nt 0, nt 0, nt 0, nt 0, .int .u8 0, .int .u8 0, .int .u8 0, .int .u8 0, .int .u8 0, .int .u8 0, .int .u8 0, .int .u8 0, .int .u8 0, .int .u8 0, .int .u8 0, .int .u8 0, .int .u8 0, .int .u8 0, .int .u8 0, .int .u8 0, .int .u8 0, .int .u8 0, .int .u8 0, .int .u8 0, .int .u8 0, .int .u8 0, .int .u8 0, .int .u8 0, .int .u8 0, .int .u8 0, .int .u8 0, .int .u8 0, .int .u8 0, .int .u8 0, .int .u8 0, .int .u8 0, nt 0, nt 0, nt 0, .bool false, nt 0, nt 0, nt 0, nt 0, nt 0, nt 0, nt 0]) (s := sl_ b o i cap) (base := some ⟨b, o, none⟩) (cap := cap) (.tmp 34) (.tmp 39) (some 40) (by kernel_rfl) (by kernel_rfl) (by kernel_rfl) (by kernel_rfl) (by kernel_rfl) (by kernel_rfl) rfl (At.prefT h hi) (by omega) (by omega) (by omega) (by omega) (by kernel_rfl) (by omega) ?_
  intro b9 nc zs w9 hb9 hnc hzs hB9 hk9 hz9
  have hsz7 := Keep.size hk9
  replace hv := hv.k0 hk9
  replace h := h.k0 hk9
  replace hK0 := hK0.tn hk9
  have hb9lt := hB9.lt
  obtain ⟨g1, g2, g3, g4, g5⟩ := grow_cells (sz := 47) (n := xs.length) (i := i) (nc := nc) (c := Ci.cells x) (zs := zs) (es := xs.map Ci.cells) h.sizes (by simp) hi (by omega) (Ci.len x) hzs
  refine On 10 [0, 1, 2, 7, 9] ?_
  refine Oer ?_
  refine On 2 [0, 1, 2, 7, 9, 41, 42] ?_
  refine OI_pure (some 43) ((Op.slice 148 (Operand.tmp 41) (some (Operand.tmp 42)) none none)) (by kernel_rfl) (pure_sliceFrom (E := 147) (sz := 47) (by_ := 152) (b := b9) (o := 0) (len := xs.length + 1) (cap := nc) (l := i) (kd := .i64) (by kernel_rfl) (by kernel_rfl) (by kernel_rfl) (by omega) (by omega) (by omega)) ?_
  refine Os 4 [(0, sl_ b o xs.length cap), (1, nt (i : Int)), (7, nt 1), (9, sl_ b9 0 (xs.length + 1) nc), (43, .slice (some ⟨b9, 0 + i * 47, none⟩) (xs.length + 1 - i) (nc - i)), (44, sl_ vb 0 1 1)] ?_
  refine OI_turn (some 45) ((Op.call { callee := (Callee.builtin Builtin.copy), args := #[(Operand.tmp 43), (Operand.tmp 44)], argTypes := #[148, 148] })) (by kernel_rfl) (Blk.lt hB9) (copy_run (t := 148) (E := 147) (at2 := 148) (sz := 47) (by_ := 152) (b := b9) (o := 0 + i * 47) (dl := xs.length + 1 - i) (dc := nc - i) (k := 1) (m := 1) (cells := Ci.cells x) (x := (.tmp 43)) (y := (.tmp 44)) (by kernel_rfl) (by kernel_rfl) hB9 (slr_one hv (Ci.len _)) (by omega) (by omega) (fun u hu => Ci.one _ u (List.mem_of_mem_take hu))) ?_
  intro w8 hB9 hk9 hz10
  replace hB9 : Blk w8 b9 (over (((xs.map Ci.cells).take i).flatten ++ zs) (i * 47) (Ci.cells x)) 147 := by rwa [show (Ci.cells x).take (1 * 47) = Ci.cells x from List.take_of_length_le (by rw [Ci.len]; omega), Nat.zero_add] at hB9
  have hsz11 := Keep.size hk9
  replace hv := hv.k1 hk9
  replace h := h.k1 hk9
  replace hK0 := Keep.fr hK0 hk9
  refine Oe ?_
  refine V_seq ?_
  refine Vd (acts [8]) (only b9) [[0, 1, 2, 3, 4, 5, 6, 7, 8]] ?_
  intro w13 hk12 he14 L hL15
  have hsz16 := Keep.size hk12
  replace hv := hv.k0 hk12
  replace hB9 := hB9.k0 hk12
  replace h := h.k0 hk12
  replace hK0 := hK0.tn hk12
  have qhv := hv
  have qhB9 := hB9
  have qh := h
  have K17 : Keep (only b9) w13 w13 := Keep.refl _ _
  obtain rfl := List.mem_singleton.1 hL15
  have hw18 : IntKind.i64.wrap ((i : Int) + 1) = ((i + 1 : Nat) : Int) := wrp
  refine Gs [4, 5, 6, 7, 8] [(0, sl_ b o xs.length cap), (1, nt (i : Int)), (9, sl_ b9 0 (xs.length + 1) nc), (46, sl_ b9 0 (xs.length + 1) nc), (49, nt (IntKind.i64.wrap ((i : Int) + 1)))] ?_
  refine GI_eq [(0, sl_ b o xs.length cap), (1, nt (i : Int)), (9, sl_ b9 0 (xs.length + 1) nc), (46, sl_ b9 0 (xs.length + 1) nc), (49, nt ((i + 1 : Nat) : Int))] (by rw [hw18]) ?_
  refine GI_pure (some 50) ((Op.slice 148 (Operand.tmp 46) (some (Operand.tmp 49)) none none)) (by kernel_rfl) (by kernel_rfl) (pure_sliceFrom (E := 147) (sz := 47) (by_ := 152) (b := b9) (o := 0) (len := xs.length + 1) (cap := nc) (l := i + 1) (kd := .i64) (by kernel_rfl) (by kernel_rfl) (by kernel_rfl) (by omega) (by omega) (by omega)) ?_
  refine Gs [7, 8] [(9, sl_ b9 0 (xs.length + 1) nc), (50, .slice (some ⟨b9, 0 + (i + 1) * 47, none⟩) (xs.length + 1 - (i + 1)) (nc - (i + 1))), (51, sl_ b o xs.length cap), (52, nt (i : Int))] ?_
  refine GI_pure (some 53) ((Op.slice 148 (Operand.tmp 51) (some (Operand.tmp 52)) none none)) (by kernel_rfl) (by kernel_rfl) (pure_sliceFrom (E := 147) (sz := 47) (by_ := 152) (b := b) (o := o) (len := xs.length) (cap := cap) (l := i) (kd := .i64) (by kernel_rfl) (by kernel_rfl) (by kernel_rfl) (by omega) (by omega) (by omega)) ?_
  refine GI_final 8 (by kernel_rfl) (by kernel_rfl) ?_
  refine OI_turn (some 54) ((Op.call { callee := (Callee.builtin Builtin.copy), args := #[(Operand.tmp 50), (Operand.tmp 53)], argTypes := #[148, 148] })) (by kernel_rfl) (Blk.lt hB9) (copy_run (t := 148) (E := 147) (at2 := 148) (sz := 47) (by_ := 152) (b := b9) (o := 0 + (i + 1) * 47) (dl := xs.length + 1 - (i + 1)) (dc := nc - (i + 1)) (k := xs.length - i) (m := xs.length - i) (cells := ((xs.map Ci.cells).drop i).flatten) (x := (.tmp 50)) (y := (.tmp 53)) (by kernel_rfl) (by kernel_rfl) hB9 (At.suffT h hi) (by omega) (by omega) (fun u hu => one_flatten Ci.one u (by rw [List.map_drop]; exact List.mem_of_mem_take hu))) ?_
  intro w19 hB9 hk20 hz21
  replace hB9 : Blk w19 b9 (over (over (((xs.map Ci.cells).take i).flatten ++ zs) (i * 47) (Ci.cells x)) ((i + 1) * 47) ((xs.map Ci.cells).drop i).flatten) 147 := by rwa [show ((xs.map Ci.cells).drop i).flatten.take ((xs.length - i) * 47) = ((xs.map Ci.cells).drop i).flatten from List.take_of_length_le (by omega), Nat.zero_add] at hB9
  have hsz22 := Keep.size hk20
  replace hv := hv.k1 hk20
  replace h := h.k1 hk20
  replace hK0 := Keep.fr hK0 hk20
  refine Oer ?_
  refine Ose [(6, sl_ b9 0 (xs.length + 1) nc)] ?_
  refine V_ret ?_
  refine X_ret_then ?_
  exact X_return _ rfl ⟨_, nc, rfl, ins_slt hB9 hi (by omega) (by rw [g3, g4]; omega) (by rw [List.length_map]; exact g2) Ci.len, hK0, fun k hk => .inr (by rw [inA_some hk]; omega)⟩
 refine V_skip ?_
 refine X_then ?_
 refine Vr ?_
 have hw23 : IntKind.i64.wrap ((xs.length : Int) + 1) = ((xs.length + 1 : Nat) : Int) := wrp
 refine Os 4 [(1, nt (i : Int)), (2, sl_ vb 0 1 1), (7, nt 1), (8, nt (xs.length : Int)), (56, sl_ b o xs.length cap), (59, nt (IntKind.i64.wrap ((xs.length : Int) + 1)))] ?_
 refine Oq (u := nt (IntKind.i64.wrap ((xs.length : Int) + 1))) (v := nt ((xs.length + 1 : Nat) : Int)) 59 (by rw [hw23]) ?_
 refine OI_pure (some 60) ((Op.slice 148 (Operand.tmp 56) none (some (Operand.tmp 59)) none)) (by kernel_rfl) (pure_sliceTo (E := 147) (sz := 47) (by_ := 152) (base := (some ⟨b, o, none⟩)) (len := xs.length) (cap := cap) (h := xs.length + 1) (kd := .i64) (by kernel_rfl) (by kernel_rfl) (by kernel_rfl) (by omega)) ?_
 refine On 6 [0, 1, 2, 7, 8] ?_
 refine Oe ?_
 refine V_seq ?_
 refine Vr ?_
 have hw24 : IntKind.i64.wrap ((i : Int) + 1) = ((i + 1 : Nat) : Int) := wrp
 refine Os 5 [(0, sl_ b o (xs.length + 1) cap), (1, nt (i : Int)), (2, sl_ vb 0 1 1), (7, nt 1), (8, nt (xs.length : Int)), (61, sl_ vb 0 1 1), (62, sl_ b o (xs.length + 1) cap), (65, nt (IntKind.i64.wrap ((i : Int) + 1)))] ?_
 refine Oq (u := nt (IntKind.i64.wrap ((i : Int) + 1))) (v := nt ((i + 1 : Nat) : Int)) 65 (by rw [hw24]) ?_
 refine OI_pure (some 66) ((Op.slice 148 (Operand.tmp 62) (some (Operand.tmp 65)) none none)) (by kernel_rfl) (pure_sliceFrom (E := 147) (sz := 47) (by_ := 152) (b := b) (o := o) (len := xs.length + 1) (cap := cap) (l := i + 1) (kd := .i64) (by kernel_rfl) (by kernel_rfl) (by kernel_rfl) (by omega) (by omega) (by omega)) ?_
 refine OI_value (d := some 67) (op := (Op.call (kL 104 #[(.tmp 61), (.tmp 66)] #[148, 148]))) (v := .bool false) (by kernel_rfl) (overlaps_run (f := 104) (fn := Tryz.f104) (tS := 148) (tR := 4) (E := 147) (sz := 47) (by_ := 152) (vb := vb) (vo := 0) (b := b) (o := o + (i + 1) * 47) (la := 1) (ca := 1) (lb := xs.length + 1 - (i + 1)) (cb := cap - (i + 1)) rfl (by kernel_rfl) (by kernel_rfl) (by kernel_rfl) (by kernel_rfl) (by kernel_rfl) (by kernel_rfl) hne hv (At.blk h) (by intro hL; have := h.room; rw [hL] at this; simp at this; omega)) ?_
 refine Ose [(0, sl_ b o (xs.length + 1) cap), (1, nt (i : Int)), (2, sl_ vb 0 1 1), (7, nt 1), (8, nt (xs.length : Int)), (68, .bool true)] ?_
 refine V_true rfl ?_
 refine V_seq ?_
 refine Vd (acts [8]) (only b) [[0, 1, 2, 3, 4, 5, 6, 7, 8]] ?_
 intro w26 hk25 he27 L hL28
 have hsz29 := Keep.size hk25
 replace hv := hv.k0 hk25
 replace h := h.k0 hk25
 replace hK0 := hK0.tn hk25
 have qhv := hv
 have qh := h
 have K30 : Keep (only b) w26 w26 := Keep.refl _ _
 obtain rfl := List.mem_singleton.1 hL28
 have hw31 : IntKind.i64.wrap ((i : Int) + 1) = ((i + 1 : Nat) : Int) := wrp
 refine Gs [4, 5, 6, 7, 8] [(0, sl_ b o (xs.length + 1) cap), (1, nt (i : Int)), (2, sl_ vb 0 1 1), (69, sl_ b o (xs.length + 1) cap), (72, nt (IntKind.i64.wrap ((i : Int) + 1)))] ?_
 refine GI_eq [(0, sl_ b o (xs.length + 1) cap), (1, nt (i : Int)), (2, sl_ vb 0 1 1), (69, sl_ b o (xs.length + 1) cap), (72, nt ((i + 1 : Nat) : Int))] (by rw [hw31]) ?_
 refine GI_pure (some 73) ((Op.slice 148 (Operand.tmp 69) (some (Operand.tmp 72)) none none)) (by kernel_rfl) (by kernel_rfl) (pure_sliceFrom (E := 147) (sz := 47) (by_ := 152) (b := b) (o := o) (len := xs.length + 1) (cap := cap) (l := i + 1) (kd := .i64) (by kernel_rfl) (by kernel_rfl) (by kernel_rfl) (by omega) (by omega) (by omega)) ?_
 refine Gs [7, 8] [(0, sl_ b o (xs.length + 1) cap), (1, nt (i : Int)), (2, sl_ vb 0 1 1), (73, .slice (some ⟨b, o + (i + 1) * 47, none⟩) (xs.length + 1 - (i + 1)) (cap - (i + 1))), (74, sl_ b o (xs.length + 1) cap), (75, nt (i : Int))] ?_
 refine GI_pure (some 76) ((Op.slice 148 (Operand.tmp 74) (some (Operand.tmp 75)) none none)) (by kernel_rfl) (by kernel_rfl) (pure_sliceFrom (E := 147) (sz := 47) (by_ := 152) (b := b) (o := o) (len := xs.length + 1) (cap := cap) (l := i) (kd := .i64) (by kernel_rfl) (by kernel_rfl) (by kernel_rfl) (by omega) (by omega) (by omega)) ?_
 refine GI_final 8 (by kernel_rfl) (by kernel_rfl) ?_
 obtain ⟨g1, g2, g3⟩ := ins_cells (i := i) (c := Ci.cells x) h (by simp; omega) (by simp; omega) (Ci.len x)
 have hdc := h.dropcells (i := i)
 have hroom := h.room
 rw [List.length_map] at g1 g2 g3 hdc
 have hdl : ((L.drop (o + i * 47)).take ((xs.length + 1 - i) * 47)).take ((xs.length - i) * 47) = (L.drop (o + i * 47)).take ((xs.length - i) * 47) := by rw [List.take_take, Nat.min_eq_left (by omega)]
 refine OI_turn (some 77) ((Op.call { callee := (Callee.builtin Builtin.copy), args := #[(Operand.tmp 73), (Operand.tmp 76)], argTypes := #[148, 148] })) (by kernel_rfl) (Blk.lt (At.blk h)) (copy_run (t := 148) (E := 147) (at2 := 148) (sz := 47) (by_ := 152) (b := b) (o := o + (i + 1) * 47) (dl := xs.length + 1 - (i + 1)) (dc := cap - (i + 1)) (k := xs.length + 1 - i) (m := xs.length - i) (cells := (L.drop (o + i * 47)).take ((xs.length + 1 - i) * 47)) (x := (.tmp 73)) (y := (.tmp 76)) (by kernel_rfl) (by kernel_rfl) (At.blk h) (slr_blk (At.blk h) (by omega) (by omega)) (by omega) (by omega) (fun u hu => one_flatten (xs := xs.drop i) Ci.one u (by rw [List.map_drop, ← hdc, ← hdl]; exact hu))) ?_
 intro w32 hB hk33 hz34
 replace hB : Blk w32 b (over L (o + (i + 1) * 47) ((L.drop (o + i * 47)).take ((xs.length - i) * 47))) T := by rwa [hdl] at hB
 have hsz35 := Keep.size hk33
 replace hv := hv.k1 hk33
 replace hK0 := Keep.fr hK0 hk33
 refine Oer ?_
 refine On 2 [0, 2, 78, 79] ?_
 refine OI_pure (some 80) ((Op.slice 148 (Operand.tmp 78) (some (Operand.tmp 79)) none none)) (by kernel_rfl) (pure_sliceFrom (E := 147) (sz := 47) (by_ := 152) (b := b) (o := o) (len := xs.length + 1) (cap := cap) (l := i) (kd := .i64) (by kernel_rfl) (by kernel_rfl) (by kernel_rfl) (by omega) (by omega) (by omega)) ?_
 refine Os 4 [(0, sl_ b o (xs.length + 1) cap), (80, .slice (some ⟨b, o + i * 47, none⟩) (xs.length + 1 - i) (cap - i)), (81, sl_ vb 0 1 1)] ?_
 refine OI_turn (some 82) ((Op.call { callee := (Callee.builtin Builtin.copy), args := #[(Operand.tmp 80), (Operand.tmp 81)], argTypes := #[148, 148] })) (by kernel_rfl) (Blk.lt hB) (copy_run (t := 148) (E := 147) (at2 := 148) (sz := 47) (by_ := 152) (b := b) (o := o + i * 47) (dl := xs.length + 1 - i) (dc := cap - i) (k := 1) (m := 1) (cells := Ci.cells x) (x := (.tmp 80)) (y := (.tmp 81)) (by kernel_rfl) (by kernel_rfl) hB (slr_one hv (Ci.len _)) (by omega) (by omega) (fun u hu => Ci.one _ u (List.mem_of_mem_take hu))) ?_
 intro w36 hB hk37 hz38
 replace hB : Blk w36 b (over (over L (o + (i + 1) * 47) ((L.drop (o + i * 47)).take ((xs.length - i) * 47))) (o + i * 47) (Ci.cells x)) T := by rwa [show (Ci.cells x).take (1 * 47) = Ci.cells x from List.take_of_length_le (by rw [Ci.len]; omega)] at hB
 have hsz39 := Keep.size hk37
 replace hv := hv.k1 hk37
 replace hK0 := Keep.fr hK0 hk37
 refine Oer ?_
 refine Ose [(6, sl_ b o (xs.length + 1) cap)] ?_
 refine V_ret ?_
 refine X_ret_then ?_
 exact X_return _ rfl ⟨_, cap, rfl, ins_slt hB hi (by omega) (by rw [g3]; omega) (by rw [List.length_map]; exact g2) Ci.len, hK0, fun k hk => .inl (inA_some hk)⟩
theorem insert_spec (A : Option Addr) (cap vb i : Nat) (xs : List Ci) (x : Ci) (w : World) (hA : SlT w 47 Ci.cells A cap xs) (hv : Blk w vb (Ci.cells x) 147) (hne : ¬ inA A vb) (hi : i ≤ xs.length) (hn : xs.length ≤ 1000000) : Calls Tryz.prog 80 #[.slice A xs.length cap, nt (i : Int), sl_ vb 0 1 1] w fun e w' => ∃ A' cap', e = .returned (.slice A' (xs.length + 1) cap') ∧ SlT w' 47 Ci.cells A' cap' (xs.take i ++ x :: xs.drop i) ∧ Keep (inA A) w w' ∧ (∀ k, inA A' k → inA A k ∨ w.heap.size ≤ k) := by
  rcases hA with ⟨rfl, rfl, h0⟩ | ⟨b, o, L, T, rfl, h1, h2, h3, h4, h5⟩
  · obtain rfl : xs = [] := by simpa using h0
    obtain rfl : i = 0 := by simpa using hi
    exact (insert_nil vb x w hv).mono (by rintro e w' ⟨A', cap', rfl, h1, h2, h3⟩; exact ⟨A', cap', rfl, h1, h2.ofNone, fun k hk => .inr (h3 k hk)⟩)
  · exact (insert_at b o cap vb i L T xs x w ⟨h1, h2, h3, h4, h5⟩ hv (fun h => hne ⟨_, rfl, h⟩) hi hn).mono (by
      rintro e w' ⟨A', cap', rfl, h1, h2, h3⟩
      exact ⟨A', cap', rfl, h1, h2.mono (fun k _ hk => ⟨_, rfl, hk⟩), fun k hk => (h3 k hk).imp (fun h => ⟨_, rfl, h⟩) id⟩)
end Go.Al.GQ

namespace Go.Al.GQ
open Go Go.RowKit Go.Proofs
def ltC (a b a' b' : Int) : Prop := a < a' ∨ (a = a' ∧ b < b')
instance (a b a' b' : Int) : Decidable (ltC a b a' b') := by unfold ltC; infer_instance
theorem ordC_neg (a b : Int) (c : Ci) : ordC a b c < 0 ↔ ltC c.a c.b a b := by
  unfold ordC ltC
  simp only [orI, cmpI]
  rcases Int.lt_trichotomy c.a a with h1 | h1 | h1 <;> rcases Int.lt_trichotomy c.b b with h2 | h2 | h2 <;> simp_all <;> (repeat' split) <;> omega
theorem ordC_zero (a b : Int) (c : Ci) : ordC a b c = 0 ↔ c.a = a ∧ c.b = b := by
  unfold ordC
  simp only [orI, cmpI]
  rcases Int.lt_trichotomy c.a a with h1 | h1 | h1 <;> rcases Int.lt_trichotomy c.b b with h2 | h2 | h2 <;> simp_all <;> (repeat' split) <;> omega
theorem ltC_trans {a b c d e f : Int} (h : ltC a b c d) (k : ltC c d e f) : ltC a b e f := by unfold ltC at *; omega
def Srt (cs : List Ci) : Prop := cs.Pairwise fun x y => ltC x.a x.b y.a y.b
theorem Srt.mono {cs : List Ci} (h : Srt cs) (a b : Int) (i j : Nat) (x y : Ci) (hij : i ≤ j) (hx : cs[i]? = some x) (hy : cs[j]? = some y) (hlt : ordC a b y < 0) : ordC a b x < 0 := by
  rw [ordC_neg] at *
  rcases Nat.lt_or_eq_of_le hij with hij | rfl
  · obtain ⟨h1, rfl⟩ := List.getElem?_eq_some_iff.1 hx
    obtain ⟨h2, rfl⟩ := List.getElem?_eq_some_iff.1 hy
    exact ltC_trans (List.pairwise_iff_getElem.1 h i j h1 h2 hij) hlt
  · rw [hx] at hy; cases hy; exact hlt
structure GrAt (w : World) (g : Nat) (A : Option Addr) (cap : Nat) (cs : List Ci) : Prop where
  blk : Blk w g [.slice A cs.length cap] 150
  sl : SlT w 47 Ci.cells A cap cs
  off : ¬ inA A g
def Gr (D : Nat → Prop) (w : World) (g : Nat) (cs : List Ci) : Prop := Srt cs ∧ cs.length ≤ 100000 ∧ ∃ A cap, GrAt w g A cap cs ∧ ∀ k, inA A k → D k
set_option maxRecDepth 10000 in
theorem place_spec (g cap : Nat) (A : Option Addr) (cs : List Ci) (a b : Int) (w : World) (h : GrAt w g A cap cs) (hs : Srt cs) (hn : cs.length ≤ 100000) : Calls Tryz.prog 64 #[pt g, nt a, nt b] w fun e w' => ∃ (i : Nat) (ok : Bool), e = .returned (.tuple #[nt (i : Int), .bool ok]) ∧ Keep none_ w w' ∧ i ≤ cs.length ∧ (∀ (j : Nat) y, j < i → cs[j]? = some y → ordC a b y < 0) ∧ (∀ (j : Nat) y, i ≤ j → cs[j]? = some y → ¬ ordC a b y < 0) ∧ ok = (match cs[i]? with | some y => decide (ordC a b y = 0) | none => false) := by
 have hg := h.blk
 have hA := h.sl
 have hglt := hg.lt
 have hK0 : Keep none_ w w := Keep.refl _ _
 have hzhK0 := Keep.size hK0
 refine enterV Tryz.func64 rfl [pt g, nt a, nt b] 18 rfl rfl rfl ?_
 refine Vr ?_
 refine On 2 [0, 1, 2] ?_
 refine Oer ?_
 refine On 3 [1, 2, 10] ?_
 refine Oc 148 (.tmp 10) 0 (.slice A cs.length cap) (some 11) hg rfl ?_
 refine On 7 [11, 14] ?_
 refine Ok (kL 91 #[(.tmp 11), (.tmp 14), (.func 92)] #[148, 145, 178]) 91 #[.slice A cs.length cap, .agg #[nt a, nt b], .func (.func 92) #[] #[]] (some 15) (bsearch_spec A cap 92 cs [nt a, nt b] (ordC a b) _ hA rfl (by omega) (by kernel_rfl) (fun c w => place1_spec c a b w) (Srt.mono hs a b)) ?_
 rintro _ w1 ⟨i, bb, rfl, hk2, hi, hbef, haft, hbb⟩
 refine ⟨_, rfl, ?_⟩
 have hsz3 := Keep.size hk2
 replace hg := hg.k0 hk2
 replace hA := hA.keep0 hk2
 replace hK0 := hK0.tn hk2
 refine Ose [(6, nt (i : Int)), (7, .bool bb)] ?_
 refine V_ret ?_
 exact X_return _ rfl ⟨i, bb, rfl, hK0, hi, hbef, haft, hbb⟩
set_option maxRecDepth 10000 in
theorem new_spec (D : Nat → Prop) (w : World) : Calls Tryz.prog 45 #[] w fun e w' => ∃ g, e = .returned (pt g) ∧ Gr D w' g [] ∧ Keep none_ w w' ∧ w.heap.size ≤ g := by
 have hK0 : Keep none_ w w := Keep.refl _ _
 have hzhK0 := Keep.size hK0
 refine enterV Tryz.func45 rfl [] 3 rfl rfl rfl ?_
 refine Vr ?_
 refine On 1 [] ?_
 refine Oer ?_
 refine On 1 [1] ?_
 refine OI_box 150 (.tmp 1) (.agg #[.slice none 0 0]) [.slice none 0 0] (some 2) (by kernel_rfl) (by kernel_rfl) (by kernel_rfl) ?_
 intro b1 w1 e1 hb1 k1 z1
 have hsz2 := Keep.size k1
 replace hK0 := hK0.tn k1
 have hb1lt := hb1.lt
 refine Ose [(0, pt b1)] ?_
 refine V_ret ?_
 exact X_return _ rfl ⟨_, rfl, ⟨List.Pairwise.nil, by simp, none, 0, ⟨hb1, SlT.nil _ _ _, fun h => inA_none h⟩, fun k hk => (inA_none hk).elim⟩, hK0, by omega⟩
set_option maxRecDepth 10000 in
theorem len_spec (D : Nat → Prop) (g : Nat) (cs : List Ci) (w : World) (h : Gr D w g cs) : Calls Tryz.prog 50 #[pt g] w fun e w' => e = .returned (nt (cs.length : Int)) ∧ w' = w := by
 obtain ⟨_, _, A, cap, h, _⟩ := h
 have hg := h.blk
 have hA := h.sl
 have hglt := hg.lt
 refine enterV Tryz.func50 rfl [pt g] 10 rfl rfl rfl ?_
 refine Vr ?_
 refine On 1 [0] ?_
 refine Oe ?_
 refine V_seq ?_
 refine Vs [(0, pt g), (4, .bool false)] ?_
 refine V_false rfl ?_
 refine V_skip ?_
 refine X_then ?_
 refine Vr ?_
 refine On 3 [7] ?_
 refine Oc 148 (.tmp 7) 0 (.slice A cs.length cap) (some 8) hg rfl ?_
 refine Ose [(2, nt (cs.length : Int))] ?_
 refine V_ret ?_
 exact X_return _ rfl ⟨rfl, rfl⟩
def getC (a b : Int) : List Ci → Option Rfm
  | [] => none
  | x :: l => if x.a = a ∧ x.b = b then some x.v else getC a b l
def setC (a b : Int) (v : Rfm) : List Ci → List Ci
  | [] => [⟨a, b, v⟩]
  | x :: l => if x.a = a ∧ x.b = b then ⟨a, b, v⟩ :: l else if ltC x.a x.b a b then x :: setC a b v l else ⟨a, b, v⟩ :: x :: l
def delC (a b : Int) : List Ci → List Ci
  | [] => []
  | x :: l => if x.a = a ∧ x.b = b then l else x :: delC a b l
theorem none_later {a b : Int} : ∀ {l : List Ci}, (∀ y ∈ l, ltC a b y.a y.b) → getC a b l = none ∧ delC a b l = l
  | [], _ => ⟨rfl, rfl⟩
  | y :: l, h => by
    have hy := h y (List.mem_cons_self ..)
    have hne : ¬ (y.a = a ∧ y.b = b) := by unfold ltC at hy; omega
    obtain ⟨h1, h2⟩ := none_later (fun z hz => h z (List.mem_cons_of_mem _ hz))
    exact ⟨by simp only [getC, if_neg hne, h1], by simp only [delC, if_neg hne, h2]⟩
theorem place_at {a b : Int} : ∀ (cs : List Ci) (i : Nat), Srt cs → i ≤ cs.length → (∀ (j : Nat) y, j < i → cs[j]? = some y → ordC a b y < 0) → (∀ (j : Nat) y, i ≤ j → cs[j]? = some y → ¬ ordC a b y < 0) →
    (∃ y, cs[i]? = some y ∧ ordC a b y = 0 ∧ y.a = a ∧ y.b = b ∧ getC a b cs = some y.v ∧ (∀ v, cs.set i ⟨a, b, v⟩ = setC a b v cs) ∧ cs.take i ++ cs.drop (i + 1) = delC a b cs) ∨
    ((∀ y, cs[i]? = some y → ordC a b y ≠ 0) ∧ getC a b cs = none ∧ (∀ v, cs.take i ++ ⟨a, b, v⟩ :: cs.drop i = setC a b v cs) ∧ delC a b cs = cs)
  | [], i, _, hi, _, _ => by
    obtain rfl : i = 0 := by simpa using hi
    right; exact ⟨fun y hy => by simp at hy, rfl, fun v => rfl, rfl⟩
  | x :: l, 0, hs, _, _, h2 => by
    have hx := h2 0 x (Nat.le_refl _) rfl
    have hs := List.pairwise_cons.1 hs
    by_cases h0 : ordC a b x = 0
    · left
      have he := (ordC_zero a b x).1 h0
      exact ⟨x, rfl, h0, he.1, he.2, by simp only [getC, if_pos he], fun v => by simp only [List.set_cons_zero, setC, if_pos he], by simp only [delC, if_pos he]; simp⟩
    · right
      have hne : ¬ (x.a = a ∧ x.b = b) := fun h => h0 ((ordC_zero a b x).2 h)
      have hnl : ¬ ltC x.a x.b a b := fun h => hx ((ordC_neg a b x).2 h)
      have hgt : ltC a b x.a x.b := by unfold ltC at *; omega
      obtain ⟨h3, h4⟩ := none_later (a := a) (b := b) (l := l) (fun y hy => ltC_trans hgt (hs.1 y hy))
      refine ⟨fun y hy => by simp at hy; subst hy; exact h0, by simp only [getC, if_neg hne, h3], fun v => by simp only [setC, if_neg hne, if_neg hnl]; simp, by simp only [delC, if_neg hne, h4]⟩
  | x :: l, i + 1, hs, hi, h1, h2 => by
    have hx := h1 0 x (Nat.succ_pos _) rfl
    have hlt := (ordC_neg a b x).1 hx
    have hne : ¬ (x.a = a ∧ x.b = b) := by unfold ltC at hlt; omega
    have hs := List.pairwise_cons.1 hs
    rcases place_at l i hs.2 (by simpa using hi) (fun j y hj hy => h1 (j + 1) y (by omega) (by simpa using hy)) (fun j y hj hy => h2 (j + 1) y (by omega) (by simpa using hy)) with ⟨y, g1, g2, g3, g4, g5, g6, g7⟩ | ⟨g1, g2, g3, g4⟩
    · left; exact ⟨y, by simpa using g1, g2, g3, g4, by simp only [getC, if_neg hne, g5], fun v => by simp only [List.set_cons_succ, setC, if_neg hne, if_pos hlt, g6], by simp only [delC, if_neg hne, ← g7]; simp⟩
    · right; exact ⟨fun y hy => g1 y (by simpa using hy), by simp only [getC, if_neg hne, g2], fun v => by simp only [setC, if_neg hne, if_pos hlt, ← g3 v]; simp, by simp only [delC, if_neg hne, g4]⟩
set_option maxRecDepth 10000 in
theorem get_spec (D : Nat → Prop) (g : Nat) (cs : List Ci) (a b : Int) (w : World) (h : Gr D w g cs) : Calls Tryz.prog 29 #[pt g, nt a, nt b] w fun e w' => e = .returned (.tuple #[.agg (Rfm.cells ((getC a b cs).getD Rfm.zero)).toArray, .bool (getC a b cs).isSome]) ∧ Keep none_ w w' := by
 obtain ⟨hs, hlen, A, cap, h, _⟩ := h
 have hgA := h.off
 have hg := h.blk
 have hA := h.sl
 have hglt := hg.lt
 have hltA := SlT.lt hA
 have hK0 : Keep none_ w w := Keep.refl _ _
 have hzhK0 := Keep.size hK0
 refine enterM Tryz.func29 rfl [pt g, nt a, nt b] 30 rfl rfl rfl ?_
 refine V_pick [(0, pt g), (1, nt a), (2, nt b)] rfl ?_
 refine Vr ?_
 refine OI_alloc 44 (.agg #[nt 0, nt 0, .int .u8 0, .int .u8 0, .int .u8 0, .int .u8 0, .int .u8 0, .int .u8 0, .int .u8 0, .int .u8 0, .int .u8 0, .int .u8 0, .int .u8 0, .int .u8 0, .int .u8 0, .int .u8 0, .int .u8 0, .int .u8 0, .int .u8 0, .int .u8 0, .int .u8 0, .int .u8 0, .int .u8 0, .int .u8 0, .int .u8 0, .int .u8 0, .int .u8 0, .int .u8 0, .int .u8 0, .int .u8 0, .int .u8 0, .int .u8 0, .int .u8 0, .int .u8 0, nt 0, nt 0, nt 0, .bool false, nt 0, nt 0, nt 0, nt 0, nt 0, nt 0, nt 0]) [nt 0, nt 0, .int .u8 0, .int .u8 0, .int .u8 0, .int .u8 0, .int .u8 0, .int .u8 0, .int .u8 0, .int .u8 0, .int .u8 0, .int .u8 0, .int .u8 0, .int .u8 0, .int .u8 0, .int .u8 0, .int .u8 0, .int .u8 0, .int .u8 0, .int .u8 0, .int .u8 0, .int .u8 0, .int .u8 0, .int .u8 0, .int .u8 0, .int .u8 0, .int .u8 0, .int .u8 0, .int .u8 0, .int .u8 0, .int .u8 0, .int .u8 0, .int .u8 0, .int .u8 0, nt 0, nt 0, nt 0, .bool false, nt 0, nt 0, nt 0, nt 0, nt 0, nt 0, nt 0] (some 6) (by kernel_rfl) (by kernel_rfl) (by kernel_rfl) ?_
 intro b1 w1 e1 hb1 k1 z1
 have hsz2 := Keep.size k1
 replace hg := hg.k0 k1
 replace hA := hA.keep0 k1
 replace hK0 := hK0.tn k1
 have hb1lt := hb1.lt
 refine On 2 [0, 1, 2, 6] ?_
 refine Oe ?_
 refine V_seq ?_
 refine Vs [(0, pt g), (1, nt a), (2, nt b), (6, pt b1), (10, .bool false)] ?_
 refine V_false rfl ?_
 refine V_skip ?_
 refine X_then ?_
 refine Vr ?_
 refine On 3 [0, 6, 13, 14, 15] ?_
 refine Ok (kL 64 #[(.tmp 13), (.tmp 14), (.tmp 15)] #[88, 3, 3]) 64 #[pt g, nt a, nt b] (some 16) (place_spec g cap A cs a b _ ⟨hg, hA, hgA⟩ hs hlen) ?_
 rintro _ w3 ⟨i, bb, rfl, hk4, hi, hbef, haft, hbb⟩
 refine ⟨_, rfl, ?_⟩
 have hsz5 := Keep.size hk4
 replace hg := hg.k0 hk4
 replace hb1 := hb1.k0 hk4
 replace hA := hA.keep0 hk4
 replace hK0 := hK0.tn hk4
 refine On 9 [0, 6, 7, 8] ?_
 refine Oe ?_
 refine V_seq ?_
 refine Vs [(0, pt g), (6, pt b1), (7, .bool bb), (8, nt (i : Int)), (19, .bool bb)] ?_
 refine V_ifb (bb) (by kernel_rfl) (fun hc6 => ?_) (fun hc6 => ?_)
 ·
  rcases place_at cs i hs hi hbef haft with ⟨y, g1, g2, g3, g4, g5, g6, g7⟩ | ⟨g1, _⟩
  rotate_left
  · exact absurd hc6 (by rw [hbb]; split <;> simp_all)
  have hilt := (List.getElem?_eq_some_iff.1 g1).1
  refine V_region ?_
  refine On 3 [6, 7, 8, 22] ?_
  refine Oc 148 (.tmp 22) 0 (.slice A cs.length cap) (some 23) hg rfl ?_
  refine On 5 [6, 7, 23, 24] ?_
  obtain ⟨b7, o7, L7, T7, rfl, hat7⟩ := SlT.opn hA
  have hb7lt := hat7.blk.lt
  have hob8 := hltA b7 ⟨_, rfl, rfl⟩
  refine Oi (b := b7) (o := o7) (len := cs.length) (cap := cap) (j := i) (some 25) 148 (.tmp 23) (.tmp 24) 147 47 152 .i64 ?_
  refine On 7 [6, 7, 26] ?_
  refine Oa 44 (.tmp 26) (o7 + i * 47 + 2) (Rfm.cells y.v) (some 27) 45 hat7.blk (At.sub hat7 (es_at g1) (by decide) rfl) (Rfm.len _) ?_
  refine Otg 44 (.tmp 6) (.tmp 27) 0 (Rfm.cells y.v) hb1 (Rfm.len _) (Rfm.one _) ?_
  intro w9 hb1_12 hk10 hz11
  replace hb1_12 : Blk w9 b1 (Rfm.cells y.v) 44 := (by rwa [over_whole (by rw [Rfm.len]; rfl)] at hb1_12)
  have hsz13 := Keep.size hk10
  replace hg := hg.k1 hk10
  replace hat7 := hat7.keep hk10 (by show ¬ (_ = _); omega)
  replace hK0 := Keep.fr hK0 hk10
  refine Oer ?_
  refine Oa 44 (.tmp 6) 0 (Rfm.cells y.v) (some 28) 45 hb1_12 (take_all (Rfm.len _)) (Rfm.len _) ?_
  refine On 2 [6, 28, 29] ?_
  refine Otg 44 (.tmp 6) (.tmp 28) 0 (Rfm.cells y.v) hb1_12 (Rfm.len _) (Rfm.one _) ?_
  intro w14 hb1_17 hk15 hz16
  replace hb1_17 : Blk w14 b1 (Rfm.cells y.v) 44 := (by rwa [over_whole rfl] at hb1_17)
  have hsz18 := Keep.size hk15
  replace hg := hg.k1 hk15
  replace hat7 := hat7.keep hk15 (by show ¬ (_ = _); omega)
  replace hK0 := Keep.fr hK0 hk15
  refine Ose [(6, pt b1), (7, .bool bb)] ?_
  refine V_ret ?_
  exact leave0 (.tuple #[.agg (Rfm.cells y.v).toArray, .bool bb]) (.inl rfl) (res_agg_tmp (m := 45) rfl rfl rfl (by kernel_rfl) hb1_17 rfl) ⟨by rw [g5, hc6]; rfl, hK0⟩
 rcases place_at cs i hs hi hbef haft with ⟨y, g1, g2, _⟩ | ⟨g1, g2, g3, g4⟩
 · exact absurd hc6 (by rw [hbb, g1]; simp [g2])
 refine V_skip ?_
 refine X_then ?_
 refine Vr ?_
 refine Oa 44 (.tmp 6) 0 [nt 0, nt 0, .int .u8 0, .int .u8 0, .int .u8 0, .int .u8 0, .int .u8 0, .int .u8 0, .int .u8 0, .int .u8 0, .int .u8 0, .int .u8 0, .int .u8 0, .int .u8 0, .int .u8 0, .int .u8 0, .int .u8 0, .int .u8 0, .int .u8 0, .int .u8 0, .int .u8 0, .int .u8 0, .int .u8 0, .int .u8 0, .int .u8 0, .int .u8 0, .int .u8 0, .int .u8 0, .int .u8 0, .int .u8 0, .int .u8 0, .int .u8 0, .int .u8 0, .int .u8 0, nt 0, nt 0, nt 0, .bool false, nt 0, nt 0, nt 0, nt 0, nt 0, nt 0, nt 0] (some 28) 45 hb1 rfl rfl ?_
 refine On 2 [6, 28, 29] ?_
 refine OI_set (m := 45) (kd := true) 44 (.tmp 6) (.tmp 28) 0 (.agg #[nt 0, nt 0, .int .u8 0, .int .u8 0, .int .u8 0, .int .u8 0, .int .u8 0, .int .u8 0, .int .u8 0, .int .u8 0, .int .u8 0, .int .u8 0, .int .u8 0, .int .u8 0, .int .u8 0, .int .u8 0, .int .u8 0, .int .u8 0, .int .u8 0, .int .u8 0, .int .u8 0, .int .u8 0, .int .u8 0, .int .u8 0, .int .u8 0, .int .u8 0, .int .u8 0, .int .u8 0, .int .u8 0, .int .u8 0, .int .u8 0, .int .u8 0, .int .u8 0, .int .u8 0, nt 0, nt 0, nt 0, .bool false, nt 0, nt 0, nt 0, nt 0, nt 0, nt 0, nt 0]) [nt 0, nt 0, .int .u8 0, .int .u8 0, .int .u8 0, .int .u8 0, .int .u8 0, .int .u8 0, .int .u8 0, .int .u8 0, .int .u8 0, .int .u8 0, .int .u8 0, .int .u8 0, .int .u8 0, .int .u8 0, .int .u8 0, .int .u8 0, .int .u8 0, .int .u8 0, .int .u8 0, .int .u8 0, .int .u8 0, .int .u8 0, .int .u8 0, .int .u8 0, .int .u8 0, .int .u8 0, .int .u8 0, .int .u8 0, .int .u8 0, .int .u8 0, .int .u8 0, .int .u8 0, nt 0, nt 0, nt 0, .bool false, nt 0, nt 0, nt 0, nt 0, nt 0, nt 0, nt 0] none (by kernel_rfl) (by kernel_rfl) (by kernel_rfl) hb1 (by kernel_rfl) (by kernel_rfl) (by kernel_rfl) (Nat.le_of_ble_eq_true (by kernel_rfl)) (by simp [Value.oneCell']) ?_
 intro w19 hb1_22 hk20 hz21
 replace hb1_22 : Blk w19 b1 [nt 0, nt 0, .int .u8 0, .int .u8 0, .int .u8 0, .int .u8 0, .int .u8 0, .int .u8 0, .int .u8 0, .int .u8 0, .int .u8 0, .int .u8 0, .int .u8 0, .int .u8 0, .int .u8 0, .int .u8 0, .int .u8 0, .int .u8 0, .int .u8 0, .int .u8 0, .int .u8 0, .int .u8 0, .int .u8 0, .int .u8 0, .int .u8 0, .int .u8 0, .int .u8 0, .int .u8 0, .int .u8 0, .int .u8 0, .int .u8 0, .int .u8 0, .int .u8 0, .int .u8 0, nt 0, nt 0, nt 0, .bool false, nt 0, nt 0, nt 0, nt 0, nt 0, nt 0, nt 0] 44 := hb1_22
 have hsz23 := Keep.size hk20
 replace hg := hg.k1 hk20
 replace hA := hA.keep hk20 (fun q hq hs => by have hs : q = b1 := hs; have g1 := hltA q hq; omega)
 replace hK0 := Keep.fr hK0 hk20
 refine Ose [(6, pt b1), (7, .bool bb)] ?_
 refine V_ret ?_
 exact leave0 (.tuple #[.agg [nt 0, nt 0, .int .u8 0, .int .u8 0, .int .u8 0, .int .u8 0, .int .u8 0, .int .u8 0, .int .u8 0, .int .u8 0, .int .u8 0, .int .u8 0, .int .u8 0, .int .u8 0, .int .u8 0, .int .u8 0, .int .u8 0, .int .u8 0, .int .u8 0, .int .u8 0, .int .u8 0, .int .u8 0, .int .u8 0, .int .u8 0, .int .u8 0, .int .u8 0, .int .u8 0, .int .u8 0, .int .u8 0, .int .u8 0, .int .u8 0, .int .u8 0, .int .u8 0, .int .u8 0, nt 0, nt 0, nt 0, .bool false, nt 0, nt 0, nt 0, nt 0, nt 0, nt 0, nt 0].toArray, .bool bb]) (.inl rfl) (res_agg_tmp (m := 45) rfl rfl rfl (by kernel_rfl) hb1_22 rfl) ⟨by rw [g2, hc6]; rfl, hK0⟩
end Go.Al.GQ

namespace Go.Al.GQ
open Go Go.RowKit Go.Proofs
theorem setC_mem {a b : Int} {v : Rfm} {y : Ci} : ∀ {cs : List Ci}, y ∈ setC a b v cs → (y.a = a ∧ y.b = b) ∨ y ∈ cs
  | [], h => by simp only [setC, List.mem_singleton] at h; subst h; exact .inl ⟨rfl, rfl⟩
  | x :: l, h => by
    simp only [setC] at h
    split at h
    · rcases List.mem_cons.1 h with rfl | h
      · exact .inl ⟨rfl, rfl⟩
      · exact .inr (List.mem_cons_of_mem _ h)
    · split at h
      · rcases List.mem_cons.1 h with rfl | h
        · exact .inr (List.mem_cons_self ..)
        · exact (setC_mem h).imp id (List.mem_cons_of_mem _)
      · rcases List.mem_cons.1 h with rfl | h
        · exact .inl ⟨rfl, rfl⟩
        · exact .inr h
theorem Srt.set {a b : Int} {v : Rfm} : ∀ {cs : List Ci}, Srt cs → Srt (setC a b v cs) ∧ (setC a b v cs).length ≤ cs.length + 1
  | [], _ => ⟨by simp [setC, Srt], by simp [setC]⟩
  | x :: l, h => by
    have h := List.pairwise_cons.1 h
    simp only [setC]
    split
    · rename_i he
      exact ⟨List.pairwise_cons.2 ⟨fun y hy => by have := h.1 y hy; rw [he.1, he.2] at this; exact this, h.2⟩, by simp⟩
    · rename_i he
      split
      · rename_i hlt
        obtain ⟨h1, h2⟩ := Srt.set (a := a) (b := b) (v := v) h.2
        refine ⟨List.pairwise_cons.2 ⟨fun y hy => ?_, h1⟩, by simpa using h2⟩
        rcases setC_mem hy with ⟨e1, e2⟩ | hy
        · rw [e1, e2]; exact hlt
        · exact h.1 y hy
      · rename_i hnl
        have hgt : ltC a b x.a x.b := by unfold ltC at *; omega
        refine ⟨List.pairwise_cons.2 ⟨fun y hy => ?_, List.pairwise_cons.2 h⟩, by simp⟩
        rcases List.mem_cons.1 hy with rfl | hy
        · exact hgt
        · exact ltC_trans hgt (h.1 y hy)
set_option maxRecDepth 10000 in
theorem set_spec (D : Nat → Prop) (g : Nat) (cs : List Ci) (a b : Int) (v : Rfm) (w : World) (h : Gr D w g cs) (hD : ∀ k, w.heap.size ≤ k → D k) (hmax : cs.length < 100000) : Calls Tryz.prog 54 #[pt g, nt a, nt b, .agg (Rfm.cells v).toArray] w fun e w' => e = .returned (.tuple #[]) ∧ Gr D w' g (setC a b v cs) ∧ Keep (only g) w w' := by
 obtain ⟨hs, hlen, A, cap, h, hDA⟩ := h
 have hgA := h.off
 have hg := h.blk
 have hA := h.sl
 have hglt := hg.lt
 have hltA := SlT.lt hA
 have hK0 : Keep (only g) w w := Keep.refl _ _
 have hzhK0 := Keep.size hK0
 refine enterV Tryz.func54 rfl [pt g, nt a, nt b, .agg (Rfm.cells v).toArray] 44 rfl rfl rfl ?_
 refine Vr ?_
 refine OI_box 44 (.tmp 3) (.agg (Rfm.cells v).toArray) (Rfm.cells v) (some 7) (by kernel_rfl) (by kernel_rfl) rfl ?_
 intro b1 w1 e1 hb1 k1 z1
 have hsz2 := Keep.size k1
 replace hg := hg.k0 k1
 replace hA := hA.keep0 k1
 replace hK0 := hK0.tn k1
 have hb1lt := hb1.lt
 refine Oe ?_
 refine V_seq ?_
 refine Vs [(0, pt g), (1, nt a), (2, nt b), (7, pt b1), (12, .bool false)] ?_
 refine V_false rfl ?_
 refine V_skip ?_
 refine X_then ?_
 refine Vr ?_
 refine On 3 [0, 1, 2, 7, 14, 15, 16] ?_
 refine Ok (kL 64 #[(.tmp 14), (.tmp 15), (.tmp 16)] #[88, 3, 3]) 64 #[pt g, nt a, nt b] (some 17) (place_spec g cap A cs a b _ ⟨hg, hA, hgA⟩ hs hlen) ?_
 rintro _ w7 ⟨i, bb, rfl, hk8, hi, hbef, haft, hbb⟩
 refine ⟨_, rfl, ?_⟩
 have hsz9 := Keep.size hk8
 replace hg := hg.k0 hk8
 replace hb1 := hb1.k0 hk8
 replace hA := hA.keep0 hk8
 replace hK0 := hK0.tn hk8
 refine On 9 [0, 1, 2, 7, 8, 9] ?_
 refine Oer ?_
 refine On 3 [0, 1, 2, 7, 8, 9, 22] ?_
 refine Oc 148 (.tmp 22) 0 (.slice A cs.length cap) (some 23) hg rfl ?_
 refine Ok (kL 79 #[(.tmp 23)] #[148]) 79 #[.slice A cs.length cap] (some 24) (clone_spec A cap cs _ hA (by omega)) ?_
 rintro _ w12 ⟨A9, cap9, rfl, h9, hk13, hown9⟩
 refine ⟨_, rfl, ?_⟩
 have hsz14 := Keep.size hk13
 replace hg := hg.k0 hk13
 replace hb1 := hb1.k0 hk13
 replace hA := hA.keep0 hk13
 replace hK0 := hK0.tn hk13
 have hlt9 := SlT.lt h9
 refine On 6 [0, 1, 2, 7, 8, 9, 10] ?_
 refine Oe ?_
 refine V_seq ?_
 refine Vs [(0, pt g), (1, nt a), (2, nt b), (7, pt b1), (8, nt (i : Int)), (10, .slice A9 cs.length cap9), (25, .bool bb)] ?_
 refine V_ifb (bb) (by kernel_rfl) (fun hc15 => ?_) (fun hc15 => ?_)
 ·
  rcases place_at cs i hs hi hbef haft with ⟨y, g1, g2, g3, g4, g5, g6, g7⟩ | ⟨g1, _⟩
  rotate_left
  · exact absurd hc15 (by rw [hbb]; split <;> simp_all)
  have hilt := (List.getElem?_eq_some_iff.1 g1).1
  refine V_region ?_
  refine On 2 [0, 7, 10, 26, 27] ?_
  refine Oa 44 (.tmp 7) 0 (Rfm.cells v) (some 28) 45 hb1 (take_all (Rfm.len _)) (Rfm.len _) ?_
  obtain ⟨b16, o16, L16, T16, rfl, hat16⟩ := SlT.opn h9
  have hb16lt := hat16.blk.lt
  refine Oi (b := b16) (o := o16) (len := cs.length) (cap := cap9) (j := i) (some 29) 148 (.tmp 26) (.tmp 27) 147 47 152 .i64 ?_
  refine On 5 [0, 10, 28, 30] ?_
  refine OI_set (m := 45) (kd := true) 44 (.tmp 30) (.tmp 28) (o16 + i * 47 + 2) (.agg (Rfm.cells v).toArray) (Rfm.cells v) none (by kernel_rfl) (by kernel_rfl) (by kernel_rfl) (At.blk hat16) (by kernel_rfl) (by kernel_rfl) rfl (by have h1 := At.room hat16; have h2 := At.le hat16; rw [List.length_map] at h2; omega) (Rfm.one v) ?_
  intro w8 hn8 hk8 hz8
  have hat8 := At.setN (y := (⟨a, b, v⟩ : Ci)) (k := 2) hat16 g1 (by show 2 + 45 ≤ 47; omega) (by simp [Ci.cells, over, g3, g4, Rfm.cells]) hn8
  have hbge := hown9 b16 ⟨_, rfl, rfl⟩
  have hsz17 := Keep.size hk8
  replace hg := hg.k1 hk8
  replace hb1 := hb1.k1 hk8
  replace hA := hA.keep hk8 (fun k hk hs => by have hs : k = b16 := hs; have h2 := hltA _ hk; omega)
  replace hK0 := Keep.fr hK0 hk8
  refine Oe ?_
  refine V_region ?_
  refine Os 4 [(41, sl_ b16 o16 cs.length cap9), (43, pt g)] ?_
  refine Ot 148 (.tmp 43) (.tmp 41) 0 (sl_ b16 o16 cs.length cap9) hg ?_
  intro w18 hg_21 hk19 hz20
  replace hg_21 : Blk w18 g [sl_ b16 o16 cs.length cap9] 150 := hg_21
  have hsz22 := Keep.size hk19
  replace hb1 := hb1.k1 hk19
  replace hat8 := hat8.keep hk19 (by show ¬ (_ = _); omega)
  replace hA := hA.keep hk19 (fun k hk hs => by have hs : k = g := hs; subst hs; exact hgA hk)
  replace hK0 := Keep.fr hK0 hk19
  refine OI_end rfl ?_
  obtain ⟨hs1, hs2⟩ := Srt.set (a := a) (b := b) (v := v) hs
  have hl : (setC a b v cs).length = cs.length := by rw [← g6 v]; simp
  exact X_end _ rfl ⟨rfl, ⟨hs1, by omega, _, cap9, ⟨by rw [hl]; exact hg_21, by rw [← g6 v]; exact At.slt hat8, fun h => by have := inA_some h; omega⟩, fun k hk => hD k (by have := inA_some hk; omega)⟩, hK0⟩
 rcases place_at cs i hs hi hbef haft with ⟨y, g1, g2, _⟩ | ⟨g1, g2, g3, g4⟩
 · exact absurd hc15 (by rw [hbb, g1]; simp [g2])
 refine V_region ?_
 refine On 5 [0, 7, 31, 32, 35] ?_
 refine Oa 44 (.tmp 7) 0 (Rfm.cells v) (some 36) 45 hb1 (take_all (Rfm.len _)) (Rfm.len _) ?_
 refine On 7 [0, 31, 32, 37] ?_
 refine OI_slit (E := 147) (zv := .agg #[nt 0, nt 0, nt 0, nt 0, .int .u8 0, .int .u8 0, .int .u8 0, .int .u8 0, .int .u8 0, .int .u8 0, .int .u8 0, .int .u8 0, .int .u8 0, .int .u8 0, .int .u8 0, .int .u8 0, .int .u8 0, .int .u8 0, .int .u8 0, .int .u8 0, .int .u8 0, .int .u8 0, .int .u8 0, .int .u8 0, .int .u8 0, .int .u8 0, .int .u8 0, .int .u8 0, .int .u8 0, .int .u8 0, .int .u8 0, .int .u8 0, .int .u8 0, .int .u8 0, .int .u8 0, .int .u8 0, nt 0, nt 0, nt 0, .bool false, nt 0, nt 0, nt 0, nt 0, nt 0, nt 0, nt 0]) (sz := 47) (by_ := 152) 148 1 #[(0, (Operand.tmp 37))] [.agg #[nt a, nt b, nt v.state, nt v.track, .int .u8 (v.sum 0), .int .u8 (v.sum 1), .int .u8 (v.sum 2), .int .u8 (v.sum 3), .int .u8 (v.sum 4), .int .u8 (v.sum 5), .int .u8 (v.sum 6), .int .u8 (v.sum 7), .int .u8 (v.sum 8), .int .u8 (v.sum 9), .int .u8 (v.sum 10), .int .u8 (v.sum 11), .int .u8 (v.sum 12), .int .u8 (v.sum 13), .int .u8 (v.sum 14), .int .u8 (v.sum 15), .int .u8 (v.sum 16), .int .u8 (v.sum 17), .int .u8 (v.sum 18), .int .u8 (v.sum 19), .int .u8 (v.sum 20), .int .u8 (v.sum 21), .int .u8 (v.sum 22), .int .u8 (v.sum 23), .int .u8 (v.sum 24), .int .u8 (v.sum 25), .int .u8 (v.sum 26), .int .u8 (v.sum 27), .int .u8 (v.sum 28), .int .u8 (v.sum 29), .int .u8 (v.sum 30), .int .u8 (v.sum 31), nt v.after, nt v.sub, nt v.by_, .bool v.put, nt v.backer, nt v.since, nt v.till, nt v.stop, nt v.t.a, nt v.t.n, nt v.t.s]] [nt a, nt b, nt v.state, nt v.track, .int .u8 (v.sum 0), .int .u8 (v.sum 1), .int .u8 (v.sum 2), .int .u8 (v.sum 3), .int .u8 (v.sum 4), .int .u8 (v.sum 5), .int .u8 (v.sum 6), .int .u8 (v.sum 7), .int .u8 (v.sum 8), .int .u8 (v.sum 9), .int .u8 (v.sum 10), .int .u8 (v.sum 11), .int .u8 (v.sum 12), .int .u8 (v.sum 13), .int .u8 (v.sum 14), .int .u8 (v.sum 15), .int .u8 (v.sum 16), .int .u8 (v.sum 17), .int .u8 (v.sum 18), .int .u8 (v.sum 19), .int .u8 (v.sum 20), .int .u8 (v.sum 21), .int .u8 (v.sum 22), .int .u8 (v.sum 23), .int .u8 (v.sum 24), .int .u8 (v.sum 25), .int .u8 (v.sum 26), .int .u8 (v.sum 27), .int .u8 (v.sum 28), .int .u8 (v.sum 29), .int .u8 (v.sum 30), .int .u8 (v.sum 31), nt v.after, nt v.sub, nt v.by_, .bool v.put, nt v.backer, nt v.since, nt v.till, nt v.stop, nt v.t.a, nt v.t.n, nt v.t.s] (some 38) (by kernel_rfl) (by kernel_rfl) (by kernel_rfl) (by omega) rfl (by omega) (by intro v hv; simp only [List.mem_cons, List.not_mem_nil, or_false] at hv; rcases hv with rfl <;> rfl) (by kernel_rfl) rfl ?_
 intro b23 w23 e23 hb23 k23 z23
 have hsz24 := Keep.size k23
 replace hg := hg.k0 k23
 replace hb1 := hb1.k0 k23
 replace hA := hA.keep0 k23
 replace h9 := h9.keep0 k23
 replace hK0 := hK0.tn k23
 have hb23lt := hb23.lt
 have hne9 : ¬ inA A9 b23 := fun hs => by have h1 := hlt9 _ hs; have h2 := hown9 _ hs; omega
 refine Ok (kL 80 #[(.tmp 31), (.tmp 32), (.tmp 38)] #[148, 3, 148]) 80 #[.slice A9 cs.length cap9, nt (i : Int), sl_ b23 0 1 1] (some 39) (insert_spec A9 cap9 b23 i cs ⟨a, b, v⟩ _ h9 hb23 hne9 hi (by omega)) ?_
 rintro _ w25 ⟨A10, cap10, rfl, h10, hk26, hown10⟩
 refine ⟨_, rfl, ?_⟩
 have hsz27 := Keep.size hk26
 replace hg := hg.keep hk26 (fun hs => by have h1 := hlt9 _ hs; have h2 := hown9 _ hs; omega)
 replace hb1 := hb1.keep hk26 (fun hs => by have h1 := hlt9 _ hs; have h2 := hown9 _ hs; omega)
 replace hb23 := hb23.keep hk26 (fun hs => by have h1 := hlt9 _ hs; have h2 := hown9 _ hs; omega)
 replace hA := hA.keep hk26 (fun k hk hs => by have h1 := hltA k hk; have h2 := hown9 _ hs; omega)
 replace hK0 := Keep.fresh hK0 hk26 (by intro i hi hs; exfalso; have h2 := hown9 i hs; omega)
 have hgA10 : ¬ inA A10 g := fun hs => by rcases hown10 _ hs with h | h; (have h2 := hown9 _ h; omega); omega
 refine On 10 [0, 10] ?_
 refine Oe ?_
 refine V_region ?_
 refine Os 4 [(41, .slice A10 (cs.length + 1) cap10), (43, pt g)] ?_
 refine Ot 148 (.tmp 43) (.tmp 41) 0 (.slice A10 (cs.length + 1) cap10) hg ?_
 intro w28 hg_31 hk29 hz30
 replace hg_31 : Blk w28 g [.slice A10 (cs.length + 1) cap10] 150 := hg_31
 have hsz32 := Keep.size hk29
 replace hb1 := hb1.k1 hk29
 replace hb23 := hb23.k1 hk29
 replace hA := hA.keep hk29 (fun k hk hs => by have hs : k = g := hs; subst hs; exact hgA hk)
 replace h10 := h10.keep hk29 (fun k hk hs => by have hs : k = g := hs; subst hs; exact hgA10 hk)
 replace hK0 := Keep.fr hK0 hk29
 refine OI_end rfl ?_
 obtain ⟨hs1, hs2⟩ := Srt.set (a := a) (b := b) (v := v) hs
 rw [g3 v] at h10
 have hl : (setC a b v cs).length = cs.length + 1 := by rw [← g3 v]; simp; omega
 exact X_end _ rfl ⟨rfl, ⟨hs1, by omega, A10, cap10, ⟨by rw [hl]; exact hg_31, h10, hgA10⟩, fun k hk => hD k (by rcases hown10 _ hk with h | h; (have h2 := hown9 _ h; omega); omega)⟩, hK0⟩
end Go.Al.GQ

namespace Go.Al.GQ
open Go Go.RowKit Go.Proofs
theorem GrAt.quiet {N g cap : Nat} {A : Option Addr} {cs : List Ci} {W W' : World} (h : GrAt W g A cap cs) (k : Keep (lb N W) W W') : GrAt W' g A cap cs := ⟨h.blk.quiet k, h.sl.quiet k, h.off⟩
end Go.Al.GQ

namespace Go.Al.GQ
open Go Go.RowKit Go.Proofs
theorem Srt.nil : Srt [] := List.Pairwise.nil
def Grd (F : Nat → Prop) (w : World) (g : Nat) (cs : List Ci) : Prop := Srt cs ∧ cs.length ≤ 100000 ∧ F g ∧ (∀ q, F q → q < w.heap.size) ∧ ∃ A cap, GrAt w g A cap cs ∧ ∀ q, inA A q → F q
theorem Grd.lt {F : Nat → Prop} {w : World} {g : Nat} {cs : List Ci} (h : Grd F w g cs) : ∀ q, F q → q < w.heap.size := h.2.2.2.1
theorem Grd.at_ {F : Nat → Prop} {w : World} {g : Nat} {cs : List Ci} (h : Grd F w g cs) : F g := h.2.2.1
theorem Grd.len {F : Nat → Prop} {w : World} {g : Nat} {cs : List Ci} (h : Grd F w g cs) : cs.length ≤ 100000 := h.2.1
theorem Grd.keep {S F : Nat → Prop} {w w' : World} {g : Nat} {cs : List Ci} (h : Grd F w g cs) (k : Keep S w w') (hS : ∀ q, F q → ¬ S q) : Grd F w' g cs := by
  obtain ⟨h1, h2, h3, h4, A, cap, h5, h6⟩ := h
  exact ⟨h1, h2, h3, fun q hq => Nat.lt_of_lt_of_le (h4 q hq) k.size, A, cap, ⟨h5.blk.keep k (hS _ h3), h5.sl.keep k (fun q hq => hS q (h6 q hq)), h5.off⟩, h6⟩
theorem Grd.quiet {N : Nat} {F : Nat → Prop} {w w' : World} {g : Nat} {cs : List Ci} (h : Grd F w g cs) (k : Keep (lb N w) w w') : Grd F w' g cs := by
  obtain ⟨h1, h2, h3, h4, A, cap, h5, h6⟩ := h
  exact ⟨h1, h2, h3, fun q hq => Nat.lt_of_lt_of_le (h4 q hq) k.size, A, cap, h5.quiet k, h6⟩
theorem Grd.mono {F F' : Nat → Prop} {w : World} {g : Nat} {cs : List Ci} (h : Grd F w g cs) (hF : ∀ q, F q → F' q) (hlt : ∀ q, F' q → q < w.heap.size) : Grd F' w g cs := by
  obtain ⟨h1, h2, h3, h4, A, cap, h5, h6⟩ := h
  exact ⟨h1, h2, hF _ h3, hlt, A, cap, h5, fun q hq => hF q (h6 q hq)⟩
theorem Grd.of {D F : Nat → Prop} {w : World} {g : Nat} {cs : List Ci} (h : Gr D w g cs) (hg : F g) (hD : ∀ q, q < w.heap.size → D q → F q) (hlt : ∀ q, F q → q < w.heap.size) : Grd F w g cs := by
  obtain ⟨h1, h2, A, cap, h5, h6⟩ := h
  exact ⟨h1, h2, hg, hlt, A, cap, h5, fun q hq => hD q (h5.sl.lt q hq) (h6 q hq)⟩
theorem Grd.gr {F : Nat → Prop} {w : World} {g : Nat} {cs : List Ci} (h : Grd F w g cs) : Gr F w g cs := by
  obtain ⟨h1, h2, h3, h4, A, cap, h5, h6⟩ := h
  exact ⟨h1, h2, A, cap, h5, h6⟩
def more (F : Nat → Prop) (w w' : World) : Nat → Prop := fun q => F q ∨ (w.heap.size ≤ q ∧ q < w'.heap.size)
theorem Gr.mono {D D' : Nat → Prop} {w : World} {g : Nat} {cs : List Ci} (h : Gr D w g cs) (hD : ∀ k, D k → D' k) : Gr D' w g cs := by
  obtain ⟨h1, h2, A, cap, h5, h6⟩ := h
  exact ⟨h1, h2, A, cap, h5, fun q hq => hD q (h6 q hq)⟩
theorem new_grd (w : World) : Calls Tryz.prog 45 #[] w fun e w' => ∃ g F, e = .returned (pt g) ∧ Grd F w' g [] ∧ Keep none_ w w' ∧ (∀ q, F q → w.heap.size ≤ q) := (new_spec (fun q => w.heap.size ≤ q) w).mono (by
  rintro e w' ⟨g, rfl, h1, h2, h3⟩
  have hg : g < w'.heap.size := by obtain ⟨_, _, A, cap, h, _⟩ := h1; exact h.blk.lt
  exact ⟨g, fun q => w.heap.size ≤ q ∧ q < w'.heap.size, rfl, Grd.of h1 ⟨h3, hg⟩ (fun q h1 h2 => ⟨h2, h1⟩) (fun q h => h.2), h2, fun q h => h.1⟩)
end Go.Al.GQ

namespace Go.Al.GV
open Go Go.RowKit Go.Proofs
structure Ci where
  a : Int
  b : Int
  v : Vt
def Ci.cells (c : Ci) : List Value := [nt c.a, nt c.b, nt (c.v).kind, .bool (c.v).aye, nt (c.v).level, nt (c.v).a, nt (c.v).n, nt (c.v).s]
theorem Ci.len (c : Ci) : c.cells.length = 8 := rfl
def ordC (a b : Int) (c : Ci) : Int := orI [cmpI c.a a, cmpI c.b b]
end Go.Al.GV

namespace Go.Al.GV
open Go Go.RowKit Go.Proofs
def ltC (a b a' b' : Int) : Prop := a < a' ∨ (a = a' ∧ b < b')
instance (a b a' b' : Int) : Decidable (ltC a b a' b') := by unfold ltC; infer_instance
theorem ordC_neg (a b : Int) (c : Ci) : ordC a b c < 0 ↔ ltC c.a c.b a b := by
  unfold ordC ltC
  simp only [orI, cmpI]
  rcases Int.lt_trichotomy c.a a with h1 | h1 | h1 <;> rcases Int.lt_trichotomy c.b b with h2 | h2 | h2 <;> simp_all <;> (repeat' split) <;> omega
theorem ltC_trans {a b c d e f : Int} (h : ltC a b c d) (k : ltC c d e f) : ltC a b e f := by unfold ltC at *; omega
def Srt (cs : List Ci) : Prop := cs.Pairwise fun x y => ltC x.a x.b y.a y.b
theorem Srt.mono {cs : List Ci} (h : Srt cs) (a b : Int) (i j : Nat) (x y : Ci) (hij : i ≤ j) (hx : cs[i]? = some x) (hy : cs[j]? = some y) (hlt : ordC a b y < 0) : ordC a b x < 0 := by
  rw [ordC_neg] at *
  rcases Nat.lt_or_eq_of_le hij with hij | rfl
  · obtain ⟨h1, rfl⟩ := List.getElem?_eq_some_iff.1 hx
    obtain ⟨h2, rfl⟩ := List.getElem?_eq_some_iff.1 hy
    exact ltC_trans (List.pairwise_iff_getElem.1 h i j h1 h2 hij) hlt
  · rw [hx] at hy; cases hy; exact hlt
structure GrAt (w : World) (g : Nat) (A : Option Addr) (cap : Nat) (cs : List Ci) : Prop where
  blk : Blk w g [.slice A cs.length cap] 161
  sl : SlT w 8 Ci.cells A cap cs
  off : ¬ inA A g
def Gr (D : Nat → Prop) (w : World) (g : Nat) (cs : List Ci) : Prop := Srt cs ∧ cs.length ≤ 100000 ∧ ∃ A cap, GrAt w g A cap cs ∧ ∀ k, inA A k → D k
set_option maxRecDepth 10000 in
theorem new_spec (D : Nat → Prop) (w : World) : Calls Tryz.prog 48 #[] w fun e w' => ∃ g, e = .returned (pt g) ∧ Gr D w' g [] ∧ Keep none_ w w' ∧ w.heap.size ≤ g := by
 have hK0 : Keep none_ w w := Keep.refl _ _
 have hzhK0 := Keep.size hK0
 refine enterV Tryz.func48 rfl [] 3 rfl rfl rfl ?_
 refine Vr ?_
 refine On 1 [] ?_
 refine Oer ?_
 refine On 1 [1] ?_
 refine OI_box 161 (.tmp 1) (.agg #[.slice none 0 0]) [.slice none 0 0] (some 2) (by kernel_rfl) (by kernel_rfl) (by kernel_rfl) ?_
 intro b1 w1 e1 hb1 k1 z1
 have hsz2 := Keep.size k1
 replace hK0 := hK0.tn k1
 have hb1lt := hb1.lt
 refine Ose [(0, pt b1)] ?_
 refine V_ret ?_
 exact X_return _ rfl ⟨_, rfl, ⟨List.Pairwise.nil, by simp, none, 0, ⟨hb1, SlT.nil _ _ _, fun h => inA_none h⟩, fun k hk => (inA_none hk).elim⟩, hK0, by omega⟩
def setC (a b : Int) (v : Vt) : List Ci → List Ci
  | [] => [⟨a, b, v⟩]
  | x :: l => if x.a = a ∧ x.b = b then ⟨a, b, v⟩ :: l else if ltC x.a x.b a b then x :: setC a b v l else ⟨a, b, v⟩ :: x :: l
end Go.Al.GV

namespace Go.Al.GV
open Go Go.RowKit Go.Proofs
theorem setC_mem {a b : Int} {v : Vt} {y : Ci} : ∀ {cs : List Ci}, y ∈ setC a b v cs → (y.a = a ∧ y.b = b) ∨ y ∈ cs
  | [], h => by simp only [setC, List.mem_singleton] at h; subst h; exact .inl ⟨rfl, rfl⟩
  | x :: l, h => by
    simp only [setC] at h
    split at h
    · rcases List.mem_cons.1 h with rfl | h
      · exact .inl ⟨rfl, rfl⟩
      · exact .inr (List.mem_cons_of_mem _ h)
    · split at h
      · rcases List.mem_cons.1 h with rfl | h
        · exact .inr (List.mem_cons_self ..)
        · exact (setC_mem h).imp id (List.mem_cons_of_mem _)
      · rcases List.mem_cons.1 h with rfl | h
        · exact .inl ⟨rfl, rfl⟩
        · exact .inr h
theorem Srt.set {a b : Int} {v : Vt} : ∀ {cs : List Ci}, Srt cs → Srt (setC a b v cs) ∧ (setC a b v cs).length ≤ cs.length + 1
  | [], _ => ⟨by simp [setC, Srt], by simp [setC]⟩
  | x :: l, h => by
    have h := List.pairwise_cons.1 h
    simp only [setC]
    split
    · rename_i he
      exact ⟨List.pairwise_cons.2 ⟨fun y hy => by have := h.1 y hy; rw [he.1, he.2] at this; exact this, h.2⟩, by simp⟩
    · rename_i he
      split
      · rename_i hlt
        obtain ⟨h1, h2⟩ := Srt.set (a := a) (b := b) (v := v) h.2
        refine ⟨List.pairwise_cons.2 ⟨fun y hy => ?_, h1⟩, by simpa using h2⟩
        rcases setC_mem hy with ⟨e1, e2⟩ | hy
        · rw [e1, e2]; exact hlt
        · exact h.1 y hy
      · rename_i hnl
        have hgt : ltC a b x.a x.b := by unfold ltC at *; omega
        refine ⟨List.pairwise_cons.2 ⟨fun y hy => ?_, List.pairwise_cons.2 h⟩, by simp⟩
        rcases List.mem_cons.1 hy with rfl | hy
        · exact hgt
        · exact ltC_trans hgt (h.1 y hy)
end Go.Al.GV

namespace Go.Al.GV
open Go Go.RowKit Go.Proofs
def rowL (n : Int) (cs : List Ci) : List (Int × Vt) := (cs.filter fun c => c.a == n).map fun c => (c.b, c.v)
theorem GrAt.quiet {N g cap : Nat} {A : Option Addr} {cs : List Ci} {W W' : World} (h : GrAt W g A cap cs) (k : Keep (lb N W) W W') : GrAt W' g A cap cs := ⟨h.blk.quiet k, h.sl.quiet k, h.off⟩
end Go.Al.GV

namespace Go.Al.GV
open Go Go.RowKit Go.Proofs
theorem Srt.nil : Srt [] := List.Pairwise.nil
def Grd (F : Nat → Prop) (w : World) (g : Nat) (cs : List Ci) : Prop := Srt cs ∧ cs.length ≤ 100000 ∧ F g ∧ (∀ q, F q → q < w.heap.size) ∧ ∃ A cap, GrAt w g A cap cs ∧ ∀ q, inA A q → F q
theorem Grd.lt {F : Nat → Prop} {w : World} {g : Nat} {cs : List Ci} (h : Grd F w g cs) : ∀ q, F q → q < w.heap.size := h.2.2.2.1
theorem Grd.at_ {F : Nat → Prop} {w : World} {g : Nat} {cs : List Ci} (h : Grd F w g cs) : F g := h.2.2.1
theorem Grd.len {F : Nat → Prop} {w : World} {g : Nat} {cs : List Ci} (h : Grd F w g cs) : cs.length ≤ 100000 := h.2.1
theorem Grd.keep {S F : Nat → Prop} {w w' : World} {g : Nat} {cs : List Ci} (h : Grd F w g cs) (k : Keep S w w') (hS : ∀ q, F q → ¬ S q) : Grd F w' g cs := by
  obtain ⟨h1, h2, h3, h4, A, cap, h5, h6⟩ := h
  exact ⟨h1, h2, h3, fun q hq => Nat.lt_of_lt_of_le (h4 q hq) k.size, A, cap, ⟨h5.blk.keep k (hS _ h3), h5.sl.keep k (fun q hq => hS q (h6 q hq)), h5.off⟩, h6⟩
theorem Grd.quiet {N : Nat} {F : Nat → Prop} {w w' : World} {g : Nat} {cs : List Ci} (h : Grd F w g cs) (k : Keep (lb N w) w w') : Grd F w' g cs := by
  obtain ⟨h1, h2, h3, h4, A, cap, h5, h6⟩ := h
  exact ⟨h1, h2, h3, fun q hq => Nat.lt_of_lt_of_le (h4 q hq) k.size, A, cap, h5.quiet k, h6⟩
theorem Grd.mono {F F' : Nat → Prop} {w : World} {g : Nat} {cs : List Ci} (h : Grd F w g cs) (hF : ∀ q, F q → F' q) (hlt : ∀ q, F' q → q < w.heap.size) : Grd F' w g cs := by
  obtain ⟨h1, h2, h3, h4, A, cap, h5, h6⟩ := h
  exact ⟨h1, h2, hF _ h3, hlt, A, cap, h5, fun q hq => hF q (h6 q hq)⟩
theorem Grd.of {D F : Nat → Prop} {w : World} {g : Nat} {cs : List Ci} (h : Gr D w g cs) (hg : F g) (hD : ∀ q, q < w.heap.size → D q → F q) (hlt : ∀ q, F q → q < w.heap.size) : Grd F w g cs := by
  obtain ⟨h1, h2, A, cap, h5, h6⟩ := h
  exact ⟨h1, h2, hg, hlt, A, cap, h5, fun q hq => hD q (h5.sl.lt q hq) (h6 q hq)⟩
theorem Grd.gr {F : Nat → Prop} {w : World} {g : Nat} {cs : List Ci} (h : Grd F w g cs) : Gr F w g cs := by
  obtain ⟨h1, h2, h3, h4, A, cap, h5, h6⟩ := h
  exact ⟨h1, h2, A, cap, h5, h6⟩
theorem Gr.mono {D D' : Nat → Prop} {w : World} {g : Nat} {cs : List Ci} (h : Gr D w g cs) (hD : ∀ k, D k → D' k) : Gr D' w g cs := by
  obtain ⟨h1, h2, A, cap, h5, h6⟩ := h
  exact ⟨h1, h2, A, cap, h5, fun q hq => hD q (h6 q hq)⟩
theorem new_grd (w : World) : Calls Tryz.prog 48 #[] w fun e w' => ∃ g F, e = .returned (pt g) ∧ Grd F w' g [] ∧ Keep none_ w w' ∧ (∀ q, F q → w.heap.size ≤ q) := (new_spec (fun q => w.heap.size ≤ q) w).mono (by
  rintro e w' ⟨g, rfl, h1, h2, h3⟩
  have hg : g < w'.heap.size := by obtain ⟨_, _, A, cap, h, _⟩ := h1; exact h.blk.lt
  exact ⟨g, fun q => w.heap.size ≤ q ∧ q < w'.heap.size, rfl, Grd.of h1 ⟨h3, hg⟩ (fun q h1 h2 => ⟨h2, h1⟩) (fun q h => h.2), h2, fun q h => h.1⟩)
end Go.Al.GV

namespace Go.Al.GR
open Go Go.RowKit Go.Proofs
structure Ci where
  a : Int
  b : Int
  v : Option Addr
def Ci.cells (c : Ci) : List Value := [nt c.a, nt c.b, .pointer c.v]
theorem Ci.len (c : Ci) : c.cells.length = 3 := rfl
def ordC (a b : Int) (c : Ci) : Int := orI [cmpI c.a a, cmpI c.b b]
end Go.Al.GR

namespace Go.Al.GR
open Go Go.RowKit Go.Proofs
def ltC (a b a' b' : Int) : Prop := a < a' ∨ (a = a' ∧ b < b')
instance (a b a' b' : Int) : Decidable (ltC a b a' b') := by unfold ltC; infer_instance
theorem ordC_neg (a b : Int) (c : Ci) : ordC a b c < 0 ↔ ltC c.a c.b a b := by
  unfold ordC ltC
  simp only [orI, cmpI]
  rcases Int.lt_trichotomy c.a a with h1 | h1 | h1 <;> rcases Int.lt_trichotomy c.b b with h2 | h2 | h2 <;> simp_all <;> (repeat' split) <;> omega
theorem ltC_trans {a b c d e f : Int} (h : ltC a b c d) (k : ltC c d e f) : ltC a b e f := by unfold ltC at *; omega
def Srt (cs : List Ci) : Prop := cs.Pairwise fun x y => ltC x.a x.b y.a y.b
theorem Srt.mono {cs : List Ci} (h : Srt cs) (a b : Int) (i j : Nat) (x y : Ci) (hij : i ≤ j) (hx : cs[i]? = some x) (hy : cs[j]? = some y) (hlt : ordC a b y < 0) : ordC a b x < 0 := by
  rw [ordC_neg] at *
  rcases Nat.lt_or_eq_of_le hij with hij | rfl
  · obtain ⟨h1, rfl⟩ := List.getElem?_eq_some_iff.1 hx
    obtain ⟨h2, rfl⟩ := List.getElem?_eq_some_iff.1 hy
    exact ltC_trans (List.pairwise_iff_getElem.1 h i j h1 h2 hij) hlt
  · rw [hx] at hy; cases hy; exact hlt
structure GrAt (w : World) (g : Nat) (A : Option Addr) (cap : Nat) (cs : List Ci) : Prop where
  blk : Blk w g [.slice A cs.length cap] 164
  sl : SlT w 3 Ci.cells A cap cs
  off : ¬ inA A g
def Gr (D : Nat → Prop) (w : World) (g : Nat) (cs : List Ci) : Prop := Srt cs ∧ cs.length ≤ 100000 ∧ ∃ A cap, GrAt w g A cap cs ∧ ∀ k, inA A k → D k
set_option maxRecDepth 10000 in
theorem new_spec (D : Nat → Prop) (w : World) : Calls Tryz.prog 49 #[] w fun e w' => ∃ g, e = .returned (pt g) ∧ Gr D w' g [] ∧ Keep none_ w w' ∧ w.heap.size ≤ g := by
 have hK0 : Keep none_ w w := Keep.refl _ _
 have hzhK0 := Keep.size hK0
 refine enterV Tryz.func49 rfl [] 3 rfl rfl rfl ?_
 refine Vr ?_
 refine On 1 [] ?_
 refine Oer ?_
 refine On 1 [1] ?_
 refine OI_box 164 (.tmp 1) (.agg #[.slice none 0 0]) [.slice none 0 0] (some 2) (by kernel_rfl) (by kernel_rfl) (by kernel_rfl) ?_
 intro b1 w1 e1 hb1 k1 z1
 have hsz2 := Keep.size k1
 replace hK0 := hK0.tn k1
 have hb1lt := hb1.lt
 refine Ose [(0, pt b1)] ?_
 refine V_ret ?_
 exact X_return _ rfl ⟨_, rfl, ⟨List.Pairwise.nil, by simp, none, 0, ⟨hb1, SlT.nil _ _ _, fun h => inA_none h⟩, fun k hk => (inA_none hk).elim⟩, hK0, by omega⟩
def getC (a b : Int) : List Ci → Option (Option Addr)
  | [] => none
  | x :: l => if x.a = a ∧ x.b = b then some x.v else getC a b l
def setC (a b : Int) (v : Option Addr) : List Ci → List Ci
  | [] => [⟨a, b, v⟩]
  | x :: l => if x.a = a ∧ x.b = b then ⟨a, b, v⟩ :: l else if ltC x.a x.b a b then x :: setC a b v l else ⟨a, b, v⟩ :: x :: l
end Go.Al.GR

namespace Go.Al.GR
open Go Go.RowKit Go.Proofs
theorem setC_mem {a b : Int} {v : Option Addr} {y : Ci} : ∀ {cs : List Ci}, y ∈ setC a b v cs → (y.a = a ∧ y.b = b) ∨ y ∈ cs
  | [], h => by simp only [setC, List.mem_singleton] at h; subst h; exact .inl ⟨rfl, rfl⟩
  | x :: l, h => by
    simp only [setC] at h
    split at h
    · rcases List.mem_cons.1 h with rfl | h
      · exact .inl ⟨rfl, rfl⟩
      · exact .inr (List.mem_cons_of_mem _ h)
    · split at h
      · rcases List.mem_cons.1 h with rfl | h
        · exact .inr (List.mem_cons_self ..)
        · exact (setC_mem h).imp id (List.mem_cons_of_mem _)
      · rcases List.mem_cons.1 h with rfl | h
        · exact .inl ⟨rfl, rfl⟩
        · exact .inr h
theorem Srt.set {a b : Int} {v : Option Addr} : ∀ {cs : List Ci}, Srt cs → Srt (setC a b v cs) ∧ (setC a b v cs).length ≤ cs.length + 1
  | [], _ => ⟨by simp [setC, Srt], by simp [setC]⟩
  | x :: l, h => by
    have h := List.pairwise_cons.1 h
    simp only [setC]
    split
    · rename_i he
      exact ⟨List.pairwise_cons.2 ⟨fun y hy => by have := h.1 y hy; rw [he.1, he.2] at this; exact this, h.2⟩, by simp⟩
    · rename_i he
      split
      · rename_i hlt
        obtain ⟨h1, h2⟩ := Srt.set (a := a) (b := b) (v := v) h.2
        refine ⟨List.pairwise_cons.2 ⟨fun y hy => ?_, h1⟩, by simpa using h2⟩
        rcases setC_mem hy with ⟨e1, e2⟩ | hy
        · rw [e1, e2]; exact hlt
        · exact h.1 y hy
      · rename_i hnl
        have hgt : ltC a b x.a x.b := by unfold ltC at *; omega
        refine ⟨List.pairwise_cons.2 ⟨fun y hy => ?_, List.pairwise_cons.2 h⟩, by simp⟩
        rcases List.mem_cons.1 hy with rfl | hy
        · exact hgt
        · exact ltC_trans hgt (h.1 y hy)
end Go.Al.GR

namespace Go.Al.GR
open Go Go.RowKit Go.Proofs
theorem GrAt.quiet {N g cap : Nat} {A : Option Addr} {cs : List Ci} {W W' : World} (h : GrAt W g A cap cs) (k : Keep (lb N W) W W') : GrAt W' g A cap cs := ⟨h.blk.quiet k, h.sl.quiet k, h.off⟩
end Go.Al.GR

namespace Go.Al.GR
open Go Go.RowKit Go.Proofs
theorem Srt.nil : Srt [] := List.Pairwise.nil
def Grd (F : Nat → Prop) (w : World) (g : Nat) (cs : List Ci) : Prop := Srt cs ∧ cs.length ≤ 100000 ∧ F g ∧ (∀ q, F q → q < w.heap.size) ∧ ∃ A cap, GrAt w g A cap cs ∧ ∀ q, inA A q → F q
theorem Grd.lt {F : Nat → Prop} {w : World} {g : Nat} {cs : List Ci} (h : Grd F w g cs) : ∀ q, F q → q < w.heap.size := h.2.2.2.1
theorem Grd.at_ {F : Nat → Prop} {w : World} {g : Nat} {cs : List Ci} (h : Grd F w g cs) : F g := h.2.2.1
theorem Grd.len {F : Nat → Prop} {w : World} {g : Nat} {cs : List Ci} (h : Grd F w g cs) : cs.length ≤ 100000 := h.2.1
theorem Grd.keep {S F : Nat → Prop} {w w' : World} {g : Nat} {cs : List Ci} (h : Grd F w g cs) (k : Keep S w w') (hS : ∀ q, F q → ¬ S q) : Grd F w' g cs := by
  obtain ⟨h1, h2, h3, h4, A, cap, h5, h6⟩ := h
  exact ⟨h1, h2, h3, fun q hq => Nat.lt_of_lt_of_le (h4 q hq) k.size, A, cap, ⟨h5.blk.keep k (hS _ h3), h5.sl.keep k (fun q hq => hS q (h6 q hq)), h5.off⟩, h6⟩
theorem Grd.quiet {N : Nat} {F : Nat → Prop} {w w' : World} {g : Nat} {cs : List Ci} (h : Grd F w g cs) (k : Keep (lb N w) w w') : Grd F w' g cs := by
  obtain ⟨h1, h2, h3, h4, A, cap, h5, h6⟩ := h
  exact ⟨h1, h2, h3, fun q hq => Nat.lt_of_lt_of_le (h4 q hq) k.size, A, cap, h5.quiet k, h6⟩
theorem Grd.mono {F F' : Nat → Prop} {w : World} {g : Nat} {cs : List Ci} (h : Grd F w g cs) (hF : ∀ q, F q → F' q) (hlt : ∀ q, F' q → q < w.heap.size) : Grd F' w g cs := by
  obtain ⟨h1, h2, h3, h4, A, cap, h5, h6⟩ := h
  exact ⟨h1, h2, hF _ h3, hlt, A, cap, h5, fun q hq => hF q (h6 q hq)⟩
theorem Grd.of {D F : Nat → Prop} {w : World} {g : Nat} {cs : List Ci} (h : Gr D w g cs) (hg : F g) (hD : ∀ q, q < w.heap.size → D q → F q) (hlt : ∀ q, F q → q < w.heap.size) : Grd F w g cs := by
  obtain ⟨h1, h2, A, cap, h5, h6⟩ := h
  exact ⟨h1, h2, hg, hlt, A, cap, h5, fun q hq => hD q (h5.sl.lt q hq) (h6 q hq)⟩
theorem Grd.gr {F : Nat → Prop} {w : World} {g : Nat} {cs : List Ci} (h : Grd F w g cs) : Gr F w g cs := by
  obtain ⟨h1, h2, h3, h4, A, cap, h5, h6⟩ := h
  exact ⟨h1, h2, A, cap, h5, h6⟩
theorem Gr.mono {D D' : Nat → Prop} {w : World} {g : Nat} {cs : List Ci} (h : Gr D w g cs) (hD : ∀ k, D k → D' k) : Gr D' w g cs := by
  obtain ⟨h1, h2, A, cap, h5, h6⟩ := h
  exact ⟨h1, h2, A, cap, h5, fun q hq => hD q (h6 q hq)⟩
theorem new_grd (w : World) : Calls Tryz.prog 49 #[] w fun e w' => ∃ g F, e = .returned (pt g) ∧ Grd F w' g [] ∧ Keep none_ w w' ∧ (∀ q, F q → w.heap.size ≤ q) := (new_spec (fun q => w.heap.size ≤ q) w).mono (by
  rintro e w' ⟨g, rfl, h1, h2, h3⟩
  have hg : g < w'.heap.size := by obtain ⟨_, _, A, cap, h, _⟩ := h1; exact h.blk.lt
  exact ⟨g, fun q => w.heap.size ≤ q ∧ q < w'.heap.size, rfl, Grd.of h1 ⟨h3, hg⟩ (fun q h1 h2 => ⟨h2, h1⟩) (fun q h => h.2), h2, fun q h => h.1⟩)
end Go.Al.GR

namespace Go.Al
open Go Go.RowKit Go.Proofs
structure Ci where
  a : Int
  b : Int
  v : Int
def Ci.cells (c : Ci) : List Value := [nt c.a, nt c.b, nt c.v]
theorem Ci.len (c : Ci) : c.cells.length = 3 := rfl
theorem Ci.one (c : Ci) : ∀ u ∈ c.cells, u.oneCell' = true := one_all' rfl
def ordC (a b : Int) (c : Ci) : Int := orI [cmpI c.a a, cmpI c.b b]
end Go.Al

namespace Go.Al
open Go Go.RowKit Go.Proofs
def ltC (a b a' b' : Int) : Prop := a < a' ∨ (a = a' ∧ b < b')
instance (a b a' b' : Int) : Decidable (ltC a b a' b') := by unfold ltC; infer_instance
theorem ordC_neg (a b : Int) (c : Ci) : ordC a b c < 0 ↔ ltC c.a c.b a b := by
  unfold ordC ltC
  simp only [orI, cmpI]
  rcases Int.lt_trichotomy c.a a with h1 | h1 | h1 <;> rcases Int.lt_trichotomy c.b b with h2 | h2 | h2 <;> simp_all <;> (repeat' split) <;> omega
theorem ltC_trans {a b c d e f : Int} (h : ltC a b c d) (k : ltC c d e f) : ltC a b e f := by unfold ltC at *; omega
def Srt (cs : List Ci) : Prop := cs.Pairwise fun x y => ltC x.a x.b y.a y.b
theorem Srt.mono {cs : List Ci} (h : Srt cs) (a b : Int) (i j : Nat) (x y : Ci) (hij : i ≤ j) (hx : cs[i]? = some x) (hy : cs[j]? = some y) (hlt : ordC a b y < 0) : ordC a b x < 0 := by
  rw [ordC_neg] at *
  rcases Nat.lt_or_eq_of_le hij with hij | rfl
  · obtain ⟨h1, rfl⟩ := List.getElem?_eq_some_iff.1 hx
    obtain ⟨h2, rfl⟩ := List.getElem?_eq_some_iff.1 hy
    exact ltC_trans (List.pairwise_iff_getElem.1 h i j h1 h2 hij) hlt
  · rw [hx] at hy; cases hy; exact hlt
structure GrAt (w : World) (g : Nat) (A : Option Addr) (cap : Nat) (cs : List Ci) : Prop where
  blk : Blk w g [.slice A cs.length cap] 155
  sl : SlT w 3 Ci.cells A cap cs
  off : ¬ inA A g
def Gr (D : Nat → Prop) (w : World) (g : Nat) (cs : List Ci) : Prop := Srt cs ∧ cs.length ≤ 100000 ∧ ∃ A cap, GrAt w g A cap cs ∧ ∀ k, inA A k → D k
set_option maxRecDepth 10000 in
theorem new_spec (D : Nat → Prop) (w : World) : Calls Tryz.prog 38 #[] w fun e w' => ∃ g, e = .returned (pt g) ∧ Gr D w' g [] ∧ Keep none_ w w' ∧ w.heap.size ≤ g := by
 have hK0 : Keep none_ w w := Keep.refl _ _
 have hzhK0 := Keep.size hK0
 refine enterV Tryz.func38 rfl [] 3 rfl rfl rfl ?_
 refine Vr ?_
 refine On 1 [] ?_
 refine Oer ?_
 refine On 1 [1] ?_
 refine OI_box 155 (.tmp 1) (.agg #[.slice none 0 0]) [.slice none 0 0] (some 2) (by kernel_rfl) (by kernel_rfl) (by kernel_rfl) ?_
 intro b1 w1 e1 hb1 k1 z1
 have hsz2 := Keep.size k1
 replace hK0 := hK0.tn k1
 have hb1lt := hb1.lt
 refine Ose [(0, pt b1)] ?_
 refine V_ret ?_
 exact X_return _ rfl ⟨_, rfl, ⟨List.Pairwise.nil, by simp, none, 0, ⟨hb1, SlT.nil _ _ _, fun h => inA_none h⟩, fun k hk => (inA_none hk).elim⟩, hK0, by omega⟩
def setC (a b v : Int) : List Ci → List Ci
  | [] => [⟨a, b, v⟩]
  | x :: l => if x.a = a ∧ x.b = b then ⟨a, b, v⟩ :: l else if ltC x.a x.b a b then x :: setC a b v l else ⟨a, b, v⟩ :: x :: l
end Go.Al

namespace Go.Al
open Go Go.RowKit Go.Proofs
theorem setC_mem {a b v : Int} {y : Ci} : ∀ {cs : List Ci}, y ∈ setC a b v cs → (y.a = a ∧ y.b = b) ∨ y ∈ cs
  | [], h => by simp only [setC, List.mem_singleton] at h; subst h; exact .inl ⟨rfl, rfl⟩
  | x :: l, h => by
    simp only [setC] at h
    split at h
    · rcases List.mem_cons.1 h with rfl | h
      · exact .inl ⟨rfl, rfl⟩
      · exact .inr (List.mem_cons_of_mem _ h)
    · split at h
      · rcases List.mem_cons.1 h with rfl | h
        · exact .inr (List.mem_cons_self ..)
        · exact (setC_mem h).imp id (List.mem_cons_of_mem _)
      · rcases List.mem_cons.1 h with rfl | h
        · exact .inl ⟨rfl, rfl⟩
        · exact .inr h
theorem Srt.set {a b v : Int} : ∀ {cs : List Ci}, Srt cs → Srt (setC a b v cs) ∧ (setC a b v cs).length ≤ cs.length + 1
  | [], _ => ⟨by simp [setC, Srt], by simp [setC]⟩
  | x :: l, h => by
    have h := List.pairwise_cons.1 h
    simp only [setC]
    split
    · rename_i he
      exact ⟨List.pairwise_cons.2 ⟨fun y hy => by have := h.1 y hy; rw [he.1, he.2] at this; exact this, h.2⟩, by simp⟩
    · rename_i he
      split
      · rename_i hlt
        obtain ⟨h1, h2⟩ := Srt.set (a := a) (b := b) (v := v) h.2
        refine ⟨List.pairwise_cons.2 ⟨fun y hy => ?_, h1⟩, by simpa using h2⟩
        rcases setC_mem hy with ⟨e1, e2⟩ | hy
        · rw [e1, e2]; exact hlt
        · exact h.1 y hy
      · rename_i hnl
        have hgt : ltC a b x.a x.b := by unfold ltC at *; omega
        refine ⟨List.pairwise_cons.2 ⟨fun y hy => ?_, List.pairwise_cons.2 h⟩, by simp⟩
        rcases List.mem_cons.1 hy with rfl | hy
        · exact hgt
        · exact ltC_trans hgt (h.1 y hy)
end Go.Al

namespace Go.Al
open Go Go.RowKit Go.Proofs
def encC (cs : List Ci) (k : Nat) : Array Value := match cs[k]? with | some c => #[.agg #[nt c.a, nt c.b], nt c.v] | none => #[undef, undef]
theorem encC_at {cs : List Ci} {k : Nat} {c : Ci} (h : cs[k]? = some c) : encC cs k = #[.agg #[nt c.a, nt c.b], nt c.v] := by unfold encC; rw [h]
theorem encC_size (cs : List Ci) (k : Nat) : (encC cs k).size = 2 := by unfold encC; split <;> rfl
set_option maxRecDepth 10000 in
theorem cells1_iter (c g cap : Nat) (A : Option Addr) (cs : List Ci) (hn : cs.length ≤ 1000000) : Iter Tryz.prog 118 #[pt c] cs.length (encC cs) (fun W => Blk W c [pt g] 102 ∧ GrAt W g A cap cs) (fun W => SlT W 3 Ci.cells A cap cs) := by
 intro l J Jx w hPre hJ hJx hY hOk h0
 obtain ⟨hc, h⟩ := hPre
 have hg := h.blk
 have hA := h.sl
 have hglt := hg.lt
 have hclt := hc.lt
 show Calls Tryz.prog 118 #[.func (.yield l) #[] #[], pt c] w _
 have hK0 : Keep none_ w w := Keep.refl _ _
 have hzhK0 := Keep.size hK0
 refine enterV Tryz.func118 rfl [.func (.yield l) #[] #[], pt c] 24 rfl rfl rfl ?_
 refine V_seq ?_
 refine Vr ?_
 refine Oc 102 (.tmp 1) 0 (pt g) (some 5) hc rfl ?_
 refine Ose [(0, .func (.yield l) #[] #[]), (1, pt c), (6, .bool false)] ?_
 refine V_false rfl ?_
 refine V_skip ?_
 refine X_then ?_
 refine Vr ?_
 refine Oc 102 (.tmp 1) 0 (pt g) (some 7) hc rfl ?_
 refine On 3 [0, 9] ?_
 refine Oc 153 (.tmp 9) 0 (.slice A cs.length cap) (some 10) hg rfl ?_
 refine Ose [(0, .func (.yield l) #[] #[]), (10, .slice A cs.length cap), (11, nt (cs.length : Int)), (12, nt 0)] ?_
 refine V_block ?_
 have hj0 := hJ 0 _ _ h0 (Keep.ofNone hK0)
 refine V_pick [(0, .func (.yield l) #[] #[]), (10, .slice A cs.length cap), (11, nt (cs.length : Int)), (12, nt 0)] rfl ?_
 refine V_loop (fun k wI e => ∃ i : Nat, (k + i = cs.length) ∧ (J i wI) ∧ e = [(0, .func (.yield l) #[] #[]), (10, .slice A cs.length cap), (11, nt (cs.length : Int)), (12, nt (i : Int))]) cs.length ⟨0, rfl, hj0, rfl⟩ ?_
 rintro k2 w1 _ ⟨i, hki, hj, rfl⟩
 have hA := hOk _ _ hj
 have hkh : Keep none_ w1 w1 := Keep.refl _ _
 have hzhkh := Keep.size hkh
 refine Vs [(0, .func (.yield l) #[] #[]), (10, .slice A cs.length cap), (11, nt (cs.length : Int)), (12, nt (i : Int)), (13, .bool (decide ((i : Int) < (cs.length : Int))))] ?_
 refine V_seq ?_
 refine V_if ((i : Int) < (cs.length : Int)) (by kernel_rfl) (fun hc4 => ?_) (fun hc4 => ?_)
 ·
  refine V_skip ?_
  refine X_then ?_
  refine V_seq ?_
  refine V_block ?_
  refine Vr ?_
  obtain ⟨b5, o5, L5, T5, rfl, hat5⟩ := SlT.opn hA
  have hb5lt := hat5.blk.lt
  refine Oi (b := b5) (o := o5) (len := cs.length) (cap := cap) (j := i) (some 14) 153 (.tmp 10) (.tmp 12) 197 3 24 .i64 ?_
  obtain ⟨x6, hx7⟩ := exAt (xs := cs) (i := i)
  refine Oa 197 (.tmp 14) (o5 + i * 3) (Ci.cells x6) (some 15) 3 hat5.blk (At.elem' hat5 (es_at hx7)) (At.len hat5 (es_at hx7)) ?_
  refine OI_alloc 197 (.agg #[nt 0, nt 0, nt 0]) [nt 0, nt 0, nt 0] (some 4) (by kernel_rfl) (by kernel_rfl) (by kernel_rfl) ?_
  intro b8 w8 e8 hb8 k8 z8
  have hsz9 := Keep.size k8
  replace hat5 := hat5.keep k8 id
  replace hkh := hkh.tn k8
  have hb8lt := hb8.lt
  refine Otg 197 (.tmp 4) (.tmp 15) 0 (Ci.cells x6) hb8 (Ci.len _) (Ci.one _) ?_
  intro w10 hb8_13 hk11 hz12
  replace hb8_13 : Blk w10 b8 (Ci.cells x6) 197 := (by rwa [over_whole (by rw [Ci.len]; rfl)] at hb8_13)
  have hsz14 := Keep.size hk11
  replace hat5 := hat5.keep hk11 (by show ¬ (_ = _); omega)
  replace hkh := Keep.fr hkh hk11
  refine Oer ?_
  refine On 2 [0, 4, 10, 11, 12, 16, 17] ?_
  refine Oa 145 (.tmp 17) 0 [nt x6.a, nt x6.b] (some 18) 2 hb8_13 rfl rfl ?_
  refine Os 4 [(0, .func (.yield l) #[] #[]), (10, sl_ b5 o5 cs.length cap), (11, nt (cs.length : Int)), (12, nt (i : Int)), (16, .func (.yield l) #[] #[]), (18, .agg #[nt x6.a, nt x6.b]), (19, po_ b8 2)] ?_
  refine Oc 3 (.tmp 19) 2 (nt x6.v) (some 20) hb8_13 rfl ?_
  refine OI_yield { callee := (Callee.value (Operand.tmp 16)), args := #[(Operand.tmp 18), (Operand.tmp 20)], argTypes := #[145, 3] } l #[.agg #[nt x6.a, nt x6.b], nt x6.v] (some 21) (by kernel_rfl) (by kernel_rfl) (by have hy := hY i _ (by omega) (hJ i _ _ hj (Keep.ofNone hkh)); rw [encC_at hx7] at hy; exact hy) ?_
  rintro _ w15 (⟨rfl, hj16⟩ | ⟨rfl, hj16⟩)
  ·
   refine ⟨_, rfl, ?_⟩
   refine Ose [(0, .func (.yield l) #[] #[]), (10, sl_ b5 o5 cs.length cap), (11, nt (cs.length : Int)), (12, nt (i : Int)), (22, .bool false)] ?_
   refine V_false rfl ?_
   refine V_skip ?_
   refine X_block ?_
   refine X_then ?_
   refine V_region ?_
   have hw17 : IntKind.i64.wrap ((i : Int) + 1) = ((i + 1 : Nat) : Int) := wrp
   refine Os 1 [(0, .func (.yield l) #[] #[]), (10, sl_ b5 o5 cs.length cap), (11, nt (cs.length : Int)), (23, nt (IntKind.i64.wrap ((i : Int) + 1)))] ?_
   refine Oq (u := nt (IntKind.i64.wrap ((i : Int) + 1))) (v := nt ((i + 1 : Nat) : Int)) 23 (by rw [hw17]) ?_
   refine Os 2 [(0, .func (.yield l) #[] #[]), (10, sl_ b5 o5 cs.length cap), (11, nt (cs.length : Int)), (12, nt ((i + 1 : Nat) : Int))] ?_
   refine OI_end rfl ?_
   exact V_again (k2 - 1) (by omega) [(0, .func (.yield l) #[] #[]), (10, sl_ b5 o5 cs.length cap), (11, nt (cs.length : Int)), (12, nt ((i + 1 : Nat) : Int))] rfl ⟨i + 1, by omega, hj16, rfl⟩
  ·
   refine ⟨_, rfl, ?_⟩
   refine Ose [(0, .func (.yield l) #[] #[]), (10, sl_ b5 o5 cs.length cap), (11, nt (cs.length : Int)), (12, nt (i : Int)), (22, .bool true)] ?_
   refine V_true rfl ?_
   refine V_ret ?_
   refine X_ret_block ?_
   refine X_ret_then ?_
   refine X_ret_then ?_
   refine X_ret_block ?_
   exact X_return _ rfl ⟨⟨_, rfl⟩, .inr ⟨i + 1, by omega, hj16⟩⟩
 refine V_exit ?_
 refine X_exit_then ?_
 refine X_exit_then ?_
 refine X_exit_here ?_
 have he : i = cs.length := by omega
 rw [he] at hj
 exact X_end _ rfl ⟨⟨_, rfl⟩, .inl (hJ _ _ _ hj (Keep.ofNone hkh))⟩
set_option maxRecDepth 10000 in
theorem cellsfn_spec (v : Value) (hv : v.cells = [v].toArray) (w : World) : Calls Tryz.prog 117 #[v] w fun e w' => ∃ c, e = .returned (.func (.func 118) #[] #[pt c]) ∧ Blk w' c [v] 102 ∧ Keep none_ w w' ∧ w.heap.size ≤ c := by
 have hK0 : Keep none_ w w := Keep.refl _ _
 have hzhK0 := Keep.size hK0
 refine enterV Tryz.func117 rfl [v] 4 rfl rfl rfl ?_
 refine Vr ?_
 refine OI_box 102 (.tmp 0) v [v] (some 1) (by kernel_rfl) (by kernel_rfl) hv ?_
 intro b1 w1 e1 hb1 k1 z1
 have hsz2 := Keep.size k1
 replace hK0 := hK0.tn k1
 have hb1lt := hb1.lt
 refine On 2 [1] ?_
 refine Oer ?_
 refine Ose [(2, .func (.func 118) #[] #[pt b1])] ?_
 refine V_ret ?_
 exact X_return _ rfl ⟨_, rfl, hb1, hK0, by omega⟩
end Go.Al

namespace Go.Al
open Go Go.RowKit Go.Proofs
def rowL (n : Int) (cs : List Ci) : List (Int × Int) := (cs.filter fun c => c.a == n).map fun c => (c.b, c.v)
def enc2 (xs : List (Int × Int)) (k : Nat) : Array Value := match xs[k]? with | some p => #[nt p.1, nt p.2] | none => #[undef, undef]
theorem enc2_at {xs : List (Int × Int)} {k : Nat} {p : Int × Int} (h : xs[k]? = some p) : enc2 xs k = #[nt p.1, nt p.2] := by unfold enc2; rw [h]
theorem enc2_size (xs : List (Int × Int)) (k : Nat) : (enc2 xs k).size = 2 := by unfold enc2; split <;> rfl
theorem fm_step {α β : Type} (p : α → Bool) (f : α → β) {cs : List α} {k : Nat} {c : α} (h : cs[k]? = some c) : ((cs.take (k + 1)).filter p).map f = if p c then ((cs.take k).filter p).map f ++ [f c] else ((cs.take k).filter p).map f := by
  obtain ⟨h1, rfl⟩ := List.getElem?_eq_some_iff.1 h
  rw [List.take_succ_eq_append_getElem h1, List.filter_append, List.map_append]
  by_cases hp : p cs[k] = true <;> simp [hp]
theorem fm_at {α β : Type} (p : α → Bool) (f : α → β) {cs : List α} {k : Nat} {c : α} (h : cs[k]? = some c) (hp : p c = true) : (((cs.filter p).map f)[(((cs.take k).filter p).map f).length]? = some (f c)) ∧ (((cs.take k).filter p).map f).length < ((cs.filter p).map f).length := by
  have h2 := fm_step p f h
  rw [if_pos hp] at h2
  have h3 : (cs.filter p).map f = (((cs.take k).filter p).map f ++ [f c]) ++ ((cs.drop (k + 1)).filter p).map f := by
    rw [← h2, ← List.map_append, ← List.filter_append, List.take_append_drop]
  rw [h3]
  exact ⟨by simp, by simp⟩
theorem rowL_step {n : Int} {cs : List Ci} {k : Nat} {c : Ci} (h : cs[k]? = some c) : rowL n (cs.take (k + 1)) = if c.a = n then rowL n (cs.take k) ++ [(c.b, c.v)] else rowL n (cs.take k) := by
  have := fm_step (fun c : Ci => c.a == n) (fun c => (c.b, c.v)) h
  simpa [rowL] using this
theorem rowL_at {n : Int} {cs : List Ci} {k : Nat} {c : Ci} (h : cs[k]? = some c) (hc : c.a = n) : (rowL n cs)[(rowL n (cs.take k)).length]? = some (c.b, c.v) ∧ (rowL n (cs.take k)).length < (rowL n cs).length := fm_at (fun c : Ci => c.a == n) (fun c => (c.b, c.v)) h (by simp [hc])
structure AlOk (bs bn : Nat) (s n : Int) (A : Option Addr) (cap : Nat) (cs : List Ci) (W : World) : Prop where
  side : Blk W bs [nt s] 3
  num : Blk W bn [nt n] 3
  sl : SlT W 3 Ci.cells A cap cs
theorem AlOk.quiet {N bs bn : Nat} {s n : Int} {A : Option Addr} {cap : Nat} {cs : List Ci} {W W' : World} (h : AlOk bs bn s n A cap cs W) (k : Keep (lb N W) W W') : AlOk bs bn s n A cap cs W' := ⟨h.1.quiet k, h.2.quiet k, h.3.quiet k⟩
theorem GrAt.quiet {N g cap : Nat} {A : Option Addr} {cs : List Ci} {W W' : World} (h : GrAt W g A cap cs) (k : Keep (lb N W) W W') : GrAt W' g A cap cs := ⟨h.blk.quiet k, h.sl.quiet k, h.off⟩
set_option maxRecDepth 10000 in
theorem along1_iter0 (bg bs bn g cap : Nat) (A : Option Addr) (cs : List Ci) (n : Int) (hn : cs.length ≤ 1000000) : Iter2 Tryz.prog 116 #[pt bg, pt bs, pt bn] (rowL n cs).length (enc2 (rowL n cs)) (fun W => Blk W bg [pt g] 102 ∧ GrAt W g A cap cs ∧ AlOk bs bn 0 n A cap cs W) (AlOk bs bn 0 n A cap cs) := by
 intro l J Jx w hPre hJ hJx hY hOk h0
 obtain ⟨hbg, h, ho⟩ := hPre
 have hbs := ho.side
 have hbn := ho.num
 have hg := h.blk
 have hA := h.sl
 have hglt := hg.lt
 have hgA := h.off
 have hbslt := hbs.lt
 have hbnlt := hbn.lt
 have hbglt := hbg.lt
 show Calls Tryz.prog 116 #[.func (.yield l) #[] #[], pt bg, pt bs, pt bn] w _
 have hK0 : Keep none_ w w := Keep.refl _ _
 have hzhK0 := Keep.size hK0
 refine enterM Tryz.func116 rfl [.func (.yield l) #[] #[], pt bg, pt bs, pt bn] 26 rfl rfl rfl ?_
 refine V_pick [(0, .func (.yield l) #[] #[]), (1, pt bg), (2, pt bs), (3, pt bn)] rfl ?_
 refine Vr ?_
 refine OI_box 191 (.tmp 0) (.func (.yield l) #[] #[]) [.func (.yield l) #[] #[]] (some 4) (by kernel_rfl) (by kernel_rfl) (by kernel_rfl) ?_
 intro b1 w1 e1 hb1 k1 z1
 have hsz2 := Keep.size k1
 replace hbg := hbg.k0 k1
 replace hbs := hbs.k0 k1
 replace hbn := hbn.k0 k1
 replace hg := hg.k0 k1
 replace hA := hA.keep0 k1
 replace hK0 := hK0.tn k1
 have hb1lt := hb1.lt
 refine Oer ?_
 refine Oc 102 (.tmp 1) 0 (pt g) (some 7) hbg rfl ?_
 refine Ok (kL 117 #[(.tmp 7)] #[102]) 117 #[pt g] (some 8) (cellsfn_spec _ rfl _) ?_
 rintro _ w3 ⟨c5, rfl, hc5, hk4, hgec5⟩
 refine ⟨_, rfl, ?_⟩
 have hsz6 := Keep.size hk4
 replace hbg := hbg.k0 hk4
 replace hbs := hbs.k0 hk4
 replace hbn := hbn.k0 hk4
 replace hg := hg.k0 hk4
 replace hb1 := hb1.k0 hk4
 replace hA := hA.keep0 hk4
 replace hK0 := hK0.tn hk4
 have hc5lt := hc5.lt
 refine Oe ?_
 refine V_block ?_
 have hb4ge : w.heap.size ≤ b1 := by omega
 refine V_pick [(2, pt bs), (3, pt bn), (4, pt b1), (8, .func (.func 118) #[] #[pt c5])] rfl ?_
 have hN0 : w.heap.size ≤ w3.heap.size := Keep.size hK0
 refine V_range2 (gf := 118) (caps := #[pt c5]) (m := cs.length) (by kernel_rfl) (by kernel_rfl) (by kernel_rfl) ((cells1_iter c5 g cap A cs hn).to2) (⟨hc5, ⟨hg, hA, hgA⟩⟩) (fun W W' h k => ⟨h.1.quiet k, h.2.quiet k⟩) (encC_size cs) (fun M1 k W => (Blk W bs [nt 0] 3) ∧ (Blk W bn [nt n] 3) ∧ (Blk W b1 [.func (.yield l) #[] #[]] 191) ∧ (J M1 (rowL n (cs.take k)).length W)) (fun M1 c k W => (c = .ret ∧ ∃ q : Nat, (Jx M1 q W) ∧ (q ≤ (rowL n cs).length))) (fun M1 k W W' h hk => by obtain ⟨jbs, jbn, jb1, jj⟩ := h; exact ⟨jbs.quiet hk, jbn.quiet hk, jb1.quiet hk, (((hJ _ _).mono (by omega)) _ _ jj hk)⟩) (fun M1 c k W W' h hk => by obtain ⟨hc, q, xx, hq⟩ := h; exact ⟨hc, q, (((hJx _ _).mono (by omega)) _ _ xx hk), hq⟩) (fun M1 hM1 => ⟨hbs, hbn, hb1, hJ _ _ _ _ (h0 _ (by omega)) (Keep.ofNone hK0)⟩) (fun M1 k W h => by obtain ⟨jbs, jbn, jb1, jj⟩ := h; exact (hOk _ _ _ jj).sl) ?_ ?_ ?_
 ·
  intro lp D M1 k W hD hl hM hMW hkm ⟨jbs, jbn, jb1, jj⟩ ⟨rr, hrr⟩ hDD
  have hbslt := jbs.lt
  have hbnlt := jbn.lt
  have hb1lt := jb1.lt
  obtain ⟨x, hx⟩ : ∃ x, cs[k]? = some x := ⟨_, List.getElem?_eq_getElem (by omega)⟩
  rw [encC_at hx]
  refine V_pick [(2, pt bs), (3, pt bn), (4, pt b1), (9, .agg #[nt x.a, nt x.b]), (10, nt x.v)] rfl ?_
  have hfen : Keep (fen w3.heap.size M1) W W := Keep.refl _ _
  have hzhfen := Keep.size hfen
  have hkj : Keep none_ W W := Keep.refl _ _
  have hzhkj := Keep.size hkj
  refine Vr ?_
  refine OI_alloc 145 (.agg #[nt 0, nt 0]) [nt 0, nt 0] (some 5) (by kernel_rfl) (by kernel_rfl) (by kernel_rfl) ?_
  intro b7 w7 e7 hb7 k7 z7
  have hsz8 := Keep.size k7
  replace jbs := jbs.k0 k7
  replace jbn := jbn.k0 k7
  replace jb1 := jb1.k0 k7
  replace hfen := hfen.tn k7
  replace hkj := hkj.tn k7
  have hb7lt := hb7.lt
  refine OI_set (m := 2) (kd := true) 145 (.tmp 5) (.tmp 9) 0 (.agg #[nt x.a, nt x.b]) [nt x.a, nt x.b] none (by kernel_rfl) (by kernel_rfl) (by kernel_rfl) hb7 (by kernel_rfl) (by kernel_rfl) (by kernel_rfl) (Nat.le_of_ble_eq_true (by kernel_rfl)) (by simp [Value.oneCell']) ?_
  intro w9 hb7_12 hk10 hz11
  replace hb7_12 : Blk w9 b7 [nt x.a, nt x.b] 145 := hb7_12
  have hsz13 := Keep.size hk10
  replace jbs := jbs.k1 hk10
  replace jbn := jbn.k1 hk10
  replace jb1 := jb1.k1 hk10
  replace hfen := Keep.fresh hfen hk10 (by intro i hi hs; have hs2 : i = b7 := hs; show _ ∨ _; omega)
  replace hkj := Keep.fr hkj hk10
  refine Oe ?_
  refine V_region ?_
  refine Os 1 [(2, pt bs), (3, pt bn), (4, pt b1), (5, pt b7), (6, nt x.v)] ?_
  refine OI_end rfl ?_
  refine X_begin2 hfen ?_
  intro W2 hk2 ⟨r2, hr2⟩ hD2
  have hsz14 := Keep.size hk2
  replace jbs := Blk.quiet jbs hk2
  replace jbn := Blk.quiet jbn hk2
  replace jb1 := Blk.quiet jb1 hk2
  replace hb7_12 := Blk.quiet hb7_12 hk2
  replace jj := hJ _ _ _ _ jj (Keep.ofNone hkj); replace jj := (hJ _ _).mono (by omega : w.heap.size ≤ w3.heap.size) _ _ jj hk2; replace hkj := Keep.refl none_ W2
  have hzhk2 := Keep.size hk2
  have hfenb : Keep (fen w3.heap.size M1) W2 W2 := Keep.refl _ _
  have hzhfenb := Keep.size hfenb
  have hzhkj := Keep.size hkj
  refine V_block ?_
  refine V_seq ?_
  refine V_draws (acts [12]) none_ [[0, 1, 2, 3, 4, 5, 6, 7, 8, 9, 10, 11, 12, 13, 14]] (by kernel_rfl) (by repeat first | exact (by first | exact sure_postM | exact sure_rQ2 | exact sure_no | exact sure_body (by rintro _ _ ⟨h, _⟩; exact ⟨_, h⟩)) | refine sure_then ?_ | refine sure_block ?_ | refine sure_join ?_) (by kernel_rfl) ?_
  intro w16 hk15 he17 L hL18
  have hsz19 := Keep.size hk15
  replace jbs := jbs.k0 hk15
  replace jbn := jbn.k0 hk15
  replace jb1 := jb1.k0 hk15
  replace hb7_12 := hb7_12.k0 hk15
  replace hkj := hkj.tn hk15
  replace hfenb := hfenb.tn hk15
  have qjbs := jbs
  have qjbn := jbn
  have qjb1 := jb1
  have qhb7_12 := hb7_12
  have K20 : Keep none_ w16 w16 := Keep.refl _ _
  obtain rfl := List.mem_singleton.1 hL18
  refine Gc0 3 (.tmp 2) 0 (nt 0) (some 11) qjbs rfl ?_
  refine Gn [2, 3, 4, 5, 6, 7, 8, 9, 10, 11, 12, 13, 14] [2, 3, 4, 5, 6, 12] ?_
  refine Gc0 3 (.tmp 12) 0 (nt x.a) (some 13) qhb7_12 rfl ?_
  refine Gc0 3 (.tmp 3) 0 (nt n) (some 14) qjbn rfl ?_
  refine Gs [6, 7, 8, 9, 10, 11, 12, 13, 14] [(2, pt bs), (4, pt b1), (5, pt b7), (6, nt x.v), (16, .bool (decide (x.a = n)))] ?_
  by_cases hg21 : x.a = n
  ·
   refine GI_eq [(2, pt bs), (4, pt b1), (5, pt b7), (6, nt x.v), (16, .bool true)] (by first | simp [hg21] | rfl) ?_
   refine Gc0 191 (.tmp 4) 0 (.func (.yield l) #[] #[]) (some 17) qjb1 rfl ?_
   refine Gc0 3 (.tmp 2) 0 (nt 0) (some 18) qjbs rfl ?_
   refine Gn [10, 11, 12, 13, 14] [6, 16, 17, 20] ?_
   refine Gc0 3 (.tmp 20) 1 (nt x.b) (some 21) qhb7_12 rfl ?_
   refine Gs [12, 13, 14] [(16, .bool true), (17, .func (.yield l) #[] #[]), (21, nt x.b), (22, nt x.v)] ?_
   obtain ⟨hat, hlt⟩ := rowL_at hx hg21
   refine GI_yield0 { callee := (Callee.value (Operand.tmp 17)), args := #[(Operand.tmp 21), (Operand.tmp 22)], argTypes := #[3, 3] } l #[nt x.b, nt x.v] (some 23) (by kernel_rfl) (by kernel_rfl) (by kernel_rfl) (by kernel_rfl) (by have hy := hY M1 _ _ (by omega) (by omega) hlt (hJ _ _ _ _ jj (Keep.ofNone hkj)); rw [enc2_at hat] at hy; exact hy) ?_
   rintro _ w22 ⟨hk24, (⟨rfl, hj23⟩ | ⟨rfl, hj23⟩)⟩
   ·
    refine ⟨_, rfl, ?_⟩
    have hsz25 := Keep.size hk24
    replace jb1 := jb1.keep hk24 (by show ¬ (_ ∨ _); omega)
    replace hfenb := Keep.fresh hfenb hk24 (by intro i hi hs; rcases hs with hs | hs; exact .inl (by omega); exact .inr hs)
    have hok26 := hOk _ _ _ hj23
    have hok26s := hok26.side
    have hok26n := hok26.num
    refine Gs [] [(25, .bool false)] ?_
    refine GI_end ?_
    refine X_then ?_
    refine V_false rfl ?_
    refine V_skip ?_
    refine X_block ?_
    exact fun a _ => ⟨hfenb, hok26s, hok26n, jb1, by rw [rowL_step hx, if_pos hg21]; simpa using hj23⟩
   ·
    refine ⟨_, rfl, ?_⟩
    have hsz27 := Keep.size hk24
    replace jb1 := jb1.keep hk24 (by show ¬ (_ ∨ _); omega)
    replace hfenb := Keep.fresh hfenb hk24 (by intro i hi hs; rcases hs with hs | hs; exact .inl (by omega); exact .inr hs)
    refine Gs [] [(25, .bool true)] ?_
    refine GI_end ?_
    refine X_then ?_
    refine V_true rfl ?_
    refine V_ret ?_
    refine X_ret_block ?_
    exact fun a _ => ⟨hfenb, ⟨rfl, _, hj23, by omega⟩⟩
  refine GI_eq [(2, pt bs), (4, pt b1), (5, pt b7), (6, nt x.v), (16, .bool false)] (by first | simp [hg21] | rfl) ?_
  refine Gs [] [(25, .bool false)] ?_
  refine GI_end ?_
  refine X_then ?_
  refine V_false rfl ?_
  refine V_skip ?_
  refine X_block ?_
  exact fun a _ => ⟨hfenb, jbs, jbn, jb1, hJ _ _ _ _ (by rw [rowL_step hx, if_neg hg21]; exact jj) (Keep.ofNone hkj)⟩
 ·
  intro D M1 W hD hM ⟨jbs, jbn, jb1, jj⟩ hDD
  have hbslt := jbs.lt
  have hbnlt := jbn.lt
  have hb1lt := jb1.lt
  refine X_block ?_
  rw [List.take_length] at jj
  exact leave1 (.tuple #[]) (.inr rfl) hDD (fun w' hk => ⟨res_tmps rfl, ⟨_, rfl⟩, M1, by omega, .inl (((hJ _ _).mono (by omega)) _ _ jj hk)⟩)
 ·
  intro D M1 k c W hD hM hkm h hDD
  obtain ⟨hc, q, xx, hq⟩ := h
  subst hc
  refine V_ret ?_
  refine X_ret_block ?_
  exact leave1 (.tuple #[]) (.inl rfl) hDD (fun w' hk => ⟨res_tmps rfl, ⟨_, rfl⟩, M1, by omega, .inr ⟨q, hq, ((hJx _ _).mono (by omega)) _ _ xx hk⟩⟩)
set_option maxRecDepth 10000 in
theorem alongfn_spec (v : Value) (hv : v.cells = [v].toArray) (s n : Int) (w : World) : Calls Tryz.prog 115 #[v, nt s, nt n] w fun e w' => ∃ bg bs bn, e = .returned (.func (.func 116) #[] #[pt bg, pt bs, pt bn]) ∧ Blk w' bg [v] 102 ∧ Blk w' bs [nt s] 3 ∧ Blk w' bn [nt n] 3 ∧ Keep none_ w w' ∧ w.heap.size ≤ bg ∧ w.heap.size ≤ bs ∧ w.heap.size ≤ bn := by
 have hK0 : Keep none_ w w := Keep.refl _ _
 have hzhK0 := Keep.size hK0
 refine enterV Tryz.func115 rfl [v, nt s, nt n] 8 rfl rfl rfl ?_
 refine Vr ?_
 refine OI_box 102 (.tmp 0) v [v] (some 3) (by kernel_rfl) (by kernel_rfl) hv ?_
 intro b1 w1 e1 hb1 k1 z1
 have hsz2 := Keep.size k1
 replace hK0 := hK0.tn k1
 have hb1lt := hb1.lt
 refine OI_box 3 (.tmp 1) (nt s) [nt s] (some 4) (by kernel_rfl) (by kernel_rfl) (by kernel_rfl) ?_
 intro b3 w3 e3 hb3 k3 z3
 have hsz4 := Keep.size k3
 replace hb1 := hb1.k0 k3
 replace hK0 := hK0.tn k3
 have hb3lt := hb3.lt
 refine OI_box 3 (.tmp 2) (nt n) [nt n] (some 5) (by kernel_rfl) (by kernel_rfl) (by kernel_rfl) ?_
 intro b5 w5 e5 hb5 k5 z5
 have hsz6 := Keep.size k5
 replace hb1 := hb1.k0 k5
 replace hb3 := hb3.k0 k5
 replace hK0 := hK0.tn k5
 have hb5lt := hb5.lt
 refine On 4 [3, 4, 5] ?_
 refine Oer ?_
 refine Ose [(6, .func (.func 116) #[] #[pt b1, pt b3, pt b5])] ?_
 refine V_ret ?_
 exact X_return _ rfl ⟨_, _, _, rfl, hb1, hb3, hb5, hK0, by omega, by omega, by omega⟩
set_option maxRecDepth 10000 in
theorem row_spec (v : Value) (hv : v.cells = [v].toArray) (n : Int) (w : World) : Calls Tryz.prog 113 #[v, nt n] w fun e w' => ∃ bg bs bn, e = .returned (.func (.func 116) #[] #[pt bg, pt bs, pt bn]) ∧ Blk w' bg [v] 102 ∧ Blk w' bs [nt 0] 3 ∧ Blk w' bn [nt n] 3 ∧ Keep none_ w w' ∧ w.heap.size ≤ bg ∧ w.heap.size ≤ bs ∧ w.heap.size ≤ bn := by
 have hK0 : Keep none_ w w := Keep.refl _ _
 have hzhK0 := Keep.size hK0
 refine enterV Tryz.func113 rfl [v, nt n] 8 rfl rfl rfl ?_
 refine Vr ?_
 refine On 1 [0, 1] ?_
 refine Oer ?_
 refine On 2 [5, 6] ?_
 refine Ok (kL 115 #[(.tmp 5), (.const (nt 0)), (.tmp 6)] #[102, 3, 3]) 115 #[v, nt 0, nt n] (some 7) (alongfn_spec v hv 0 n _) ?_
 rintro _ w1 ⟨bg, bs, bn, rfl, h1, h2, h3, hk2, h4, h5, h6⟩
 refine ⟨_, rfl, ?_⟩
 have hsz3 := Keep.size hk2
 replace hK0 := hK0.tn hk2
 refine Ose [(4, .func (.func 116) #[] #[pt bg, pt bs, pt bn])] ?_
 refine V_ret ?_
 exact X_return _ rfl ⟨_, _, _, rfl, h1, h2, h3, hK0, h4, h5, h6⟩
end Go.Al

namespace Go.Al
open Go Go.RowKit Go.Proofs
theorem Srt.nil : Srt [] := List.Pairwise.nil
def Grd (F : Nat → Prop) (w : World) (g : Nat) (cs : List Ci) : Prop := Srt cs ∧ cs.length ≤ 100000 ∧ F g ∧ (∀ q, F q → q < w.heap.size) ∧ ∃ A cap, GrAt w g A cap cs ∧ ∀ q, inA A q → F q
theorem Grd.lt {F : Nat → Prop} {w : World} {g : Nat} {cs : List Ci} (h : Grd F w g cs) : ∀ q, F q → q < w.heap.size := h.2.2.2.1
theorem Grd.at_ {F : Nat → Prop} {w : World} {g : Nat} {cs : List Ci} (h : Grd F w g cs) : F g := h.2.2.1
theorem Grd.len {F : Nat → Prop} {w : World} {g : Nat} {cs : List Ci} (h : Grd F w g cs) : cs.length ≤ 100000 := h.2.1
theorem Grd.keep {S F : Nat → Prop} {w w' : World} {g : Nat} {cs : List Ci} (h : Grd F w g cs) (k : Keep S w w') (hS : ∀ q, F q → ¬ S q) : Grd F w' g cs := by
  obtain ⟨h1, h2, h3, h4, A, cap, h5, h6⟩ := h
  exact ⟨h1, h2, h3, fun q hq => Nat.lt_of_lt_of_le (h4 q hq) k.size, A, cap, ⟨h5.blk.keep k (hS _ h3), h5.sl.keep k (fun q hq => hS q (h6 q hq)), h5.off⟩, h6⟩
theorem Grd.quiet {N : Nat} {F : Nat → Prop} {w w' : World} {g : Nat} {cs : List Ci} (h : Grd F w g cs) (k : Keep (lb N w) w w') : Grd F w' g cs := by
  obtain ⟨h1, h2, h3, h4, A, cap, h5, h6⟩ := h
  exact ⟨h1, h2, h3, fun q hq => Nat.lt_of_lt_of_le (h4 q hq) k.size, A, cap, h5.quiet k, h6⟩
theorem Grd.mono {F F' : Nat → Prop} {w : World} {g : Nat} {cs : List Ci} (h : Grd F w g cs) (hF : ∀ q, F q → F' q) (hlt : ∀ q, F' q → q < w.heap.size) : Grd F' w g cs := by
  obtain ⟨h1, h2, h3, h4, A, cap, h5, h6⟩ := h
  exact ⟨h1, h2, hF _ h3, hlt, A, cap, h5, fun q hq => hF q (h6 q hq)⟩
theorem Grd.of {D F : Nat → Prop} {w : World} {g : Nat} {cs : List Ci} (h : Gr D w g cs) (hg : F g) (hD : ∀ q, q < w.heap.size → D q → F q) (hlt : ∀ q, F q → q < w.heap.size) : Grd F w g cs := by
  obtain ⟨h1, h2, A, cap, h5, h6⟩ := h
  exact ⟨h1, h2, hg, hlt, A, cap, h5, fun q hq => hD q (h5.sl.lt q hq) (h6 q hq)⟩
theorem Grd.gr {F : Nat → Prop} {w : World} {g : Nat} {cs : List Ci} (h : Grd F w g cs) : Gr F w g cs := by
  obtain ⟨h1, h2, h3, h4, A, cap, h5, h6⟩ := h
  exact ⟨h1, h2, A, cap, h5, h6⟩
def more (F : Nat → Prop) (w w' : World) : Nat → Prop := fun q => F q ∨ (w.heap.size ≤ q ∧ q < w'.heap.size)
theorem Gr.mono {D D' : Nat → Prop} {w : World} {g : Nat} {cs : List Ci} (h : Gr D w g cs) (hD : ∀ k, D k → D' k) : Gr D' w g cs := by
  obtain ⟨h1, h2, A, cap, h5, h6⟩ := h
  exact ⟨h1, h2, A, cap, h5, fun q hq => hD q (h6 q hq)⟩
theorem new_grd (w : World) : Calls Tryz.prog 38 #[] w fun e w' => ∃ g F, e = .returned (pt g) ∧ Grd F w' g [] ∧ Keep none_ w w' ∧ (∀ q, F q → w.heap.size ≤ q) := (new_spec (fun q => w.heap.size ≤ q) w).mono (by
  rintro e w' ⟨g, rfl, h1, h2, h3⟩
  have hg : g < w'.heap.size := by obtain ⟨_, _, A, cap, h, _⟩ := h1; exact h.blk.lt
  exact ⟨g, fun q => w.heap.size ≤ q ∧ q < w'.heap.size, rfl, Grd.of h1 ⟨h3, hg⟩ (fun q h1 h2 => ⟨h2, h1⟩) (fun q h => h.2), h2, fun q h => h.1⟩)
end Go.Al

namespace Go.Al
open Go Go.RowKit Go.Proofs
structure Acc where
  free : Int
  held : Int
def Acc.cells (x : Acc) : List Value := [nt x.free, nt x.held]
theorem Acc.len (x : Acc) : x.cells.length = 2 := rfl
theorem Acc.one (x : Acc) : ∀ u ∈ x.cells, u.oneCell' = true := one_all' rfl
def tot : List Acc → Int
  | [] => 0
  | x :: l => x.free + x.held + tot l
def Inv (xs : List Acc) : Prop := xs.length = 10 ∧ (∀ x ∈ xs, 0 ≤ x.free ∧ 0 ≤ x.held) ∧ tot xs ≤ 1073741824
theorem tot_mem : ∀ {xs : List Acc}, (∀ x ∈ xs, 0 ≤ x.free ∧ 0 ≤ x.held) → 0 ≤ tot xs ∧ ∀ x ∈ xs, x.free + x.held ≤ tot xs
  | [], _ => ⟨Int.le_refl _, fun x hx => by cases hx⟩
  | y :: l, h => by
    have hy := h y (List.mem_cons_self ..)
    obtain ⟨h1, h2⟩ := tot_mem (fun x hx => h x (List.mem_cons_of_mem _ hx))
    refine ⟨by simp only [tot]; omega, fun x hx => ?_⟩
    simp only [tot]
    rcases List.mem_cons.1 hx with rfl | hx
    · omega
    · have := h2 x hx; omega
theorem Inv.at_ {xs : List Acc} (h : Inv xs) {j : Nat} {x : Acc} (hx : xs[j]? = some x) : 0 ≤ x.free ∧ 0 ≤ x.held ∧ x.free + x.held ≤ 1073741824 ∧ j < 10 := by
  have hm := List.mem_of_getElem? hx
  have h1 := h.2.1 x hm
  have h2 := (tot_mem h.2.1).2 x hm
  have h3 := h.2.2
  have h4 := (List.getElem?_eq_some_iff.1 hx).1
  have h5 := h.1
  refine ⟨h1.1, h1.2, by omega, by omega⟩
theorem tot_set : ∀ {xs : List Acc} {j : Nat} {x : Acc} (y : Acc), xs[j]? = some x → tot (xs.set j y) = tot xs + (y.free + y.held) - (x.free + x.held)
  | [], _, _, _, h => by simp at h
  | z :: l, 0, x, y, h => by
    simp only [List.getElem?_cons_zero, Option.some.injEq] at h
    subst h
    simp only [List.set_cons_zero, tot]; omega
  | z :: l, j + 1, x, y, h => by
    have := tot_set (xs := l) (j := j) y (by simpa using h)
    simp only [List.set_cons_succ, tot]; omega
def isA (a : Int) : Bool := decide (0 ≤ a ∧ a < 10)
def acct (xs : List Acc) (a : Int) : Acc := if 0 ≤ a ∧ a < 10 then (xs[a.toNat]?).getD ⟨0, 0⟩ else ⟨0, 0⟩
theorem acct_in {xs : List Acc} {j : Nat} {x : Acc} (hx : xs[j]? = some x) (hj : j < 10) : acct xs (j : Int) = x := by
  unfold acct
  rw [if_pos (by omega), Int.toNat_natCast, hx]; rfl
theorem acct_out {xs : List Acc} {a : Int} (h : ¬ (0 ≤ a ∧ a < 10)) : acct xs a = ⟨0, 0⟩ := by unfold acct; rw [if_neg h]
theorem isA_in {j : Nat} (h : j < 10) : isA (j : Int) = true := by unfold isA; exact decide_eq_true (by omega)
theorem isA_out {a : Int} (h : ¬ (0 ≤ a ∧ a < 10)) : isA a = false := by unfold isA; exact decide_eq_false h
theorem isA_some {xs : List Acc} (h : Inv xs) {a : Int} (ha : isA a = true) : ∃ (j : Nat) (x : Acc), a = j ∧ j < 10 ∧ xs[j]? = some x ∧ acct xs a = x := by
  have ha : 0 ≤ a ∧ a < 10 := by simpa [isA] using ha
  obtain ⟨j, rfl⟩ : ∃ j : Nat, a = j := ⟨a.toNat, by omega⟩
  have hl := h.1
  refine ⟨j, xs[j]'(by omega), rfl, by omega, List.getElem?_eq_getElem (by omega), acct_in (List.getElem?_eq_getElem (by omega)) (by omega)⟩
structure LedAt (w : World) (l g : Nat) (A : Option Addr) (cap : Nat) (xs : List Acc) : Prop where
  blk : Blk w l [.slice A xs.length cap, pt g] 106
  sl : SlT w 2 Acc.cells A cap xs
def Led (F : Nat → Prop) (w : World) (l : Nat) (xs : List Acc) (cs : List Ci) : Prop := Inv xs ∧ F l ∧ (∀ q, F q → q < w.heap.size) ∧ ∃ g A cap D, LedAt w l g A cap xs ∧ Grd D w g cs ∧ (∀ q, inA A q → F q ∧ q ≠ l) ∧ (∀ q, D q → F q ∧ q ≠ l) ∧ (∀ q, inA A q → ¬ D q)
theorem Led.lt {F : Nat → Prop} {w : World} {l : Nat} {xs : List Acc} {cs : List Ci} (h : Led F w l xs cs) : ∀ q, F q → q < w.heap.size := h.2.2.1
theorem Led.at_ {F : Nat → Prop} {w : World} {l : Nat} {xs : List Acc} {cs : List Ci} (h : Led F w l xs cs) : F l := h.2.1
theorem Led.inv {F : Nat → Prop} {w : World} {l : Nat} {xs : List Acc} {cs : List Ci} (h : Led F w l xs cs) : Inv xs := h.1
theorem Led.len {F : Nat → Prop} {w : World} {l : Nat} {xs : List Acc} {cs : List Ci} (h : Led F w l xs cs) : cs.length ≤ 100000 := by
  obtain ⟨_, _, _, _, _, _, _, _, h, _⟩ := h
  exact h.len
theorem Led.keep {S F : Nat → Prop} {w w' : World} {l : Nat} {xs : List Acc} {cs : List Ci} (h : Led F w l xs cs) (k : Keep S w w') (hS : ∀ q, F q → ¬ S q) : Led F w' l xs cs := by
  obtain ⟨h0, h1, h2, g, A, cap, D, h3, h4, h5, h6, h7⟩ := h
  exact ⟨h0, h1, fun q hq => Nat.lt_of_lt_of_le (h2 q hq) k.size, g, A, cap, D, ⟨h3.blk.keep k (hS _ h1), h3.sl.keep k (fun q hq => hS q (h5 q hq).1)⟩, h4.keep k (fun q hq => hS q (h6 q hq).1), h5, h6, h7⟩
theorem Led.quiet {N : Nat} {F : Nat → Prop} {w w' : World} {l : Nat} {xs : List Acc} {cs : List Ci} (h : Led F w l xs cs) (k : Keep (lb N w) w w') : Led F w' l xs cs := by
  obtain ⟨h0, h1, h2, g, A, cap, D, h3, h4, h5, h6, h7⟩ := h
  exact ⟨h0, h1, fun q hq => Nat.lt_of_lt_of_le (h2 q hq) k.size, g, A, cap, D, ⟨h3.blk.quiet k, h3.sl.quiet k⟩, h4.quiet k, h5, h6, h7⟩
set_option maxRecDepth 10000 in
theorem isAmount_spec (n : Int) (w : World) : Calls Tryz.prog 39 #[nt n] w fun e w' => e = .returned (.bool (decide (0 ≤ n ∧ n ≤ 1073741824))) ∧ w' = w := by
 refine enterV Tryz.func39 rfl [nt n] 9 rfl rfl rfl ?_
 refine Vr ?_
 refine On 1 [0] ?_
 refine Oer ?_
 refine Os 3 [(0, nt n), (5, .bool (decide (n ≥ 0)))] ?_
 by_cases hg1 : n ≥ 0
 ·
  refine OI_eq [(0, nt n), (5, .bool true)] (by first | simp [hg1] | rfl) ?_
  refine Ose [(2, .bool (decide (n ≤ 1073741824)))] ?_
  refine V_ret ?_
  exact X_return (.bool (decide (n ≤ 1073741824))) rfl ⟨by congr 2; simp only [Bool.decide_and]; by_cases h1 : 0 ≤ n <;> simp [h1] <;> omega, rfl⟩
 refine OI_eq [(0, nt n), (5, .bool false)] (by first | simp [hg1] | rfl) ?_
 refine Ose [(2, .bool false)] ?_
 refine V_ret ?_
 exact X_return (.bool false) rfl ⟨by congr 2; simp only [Bool.decide_and]; by_cases h1 : 0 ≤ n <;> simp [h1] <;> omega, rfl⟩
set_option maxRecDepth 10000 in
theorem account_in (F : Nat → Prop) (l : Nat) (xs : List Acc) (cs : List Ci) (j : Nat) (w : World) (h : Led F w l xs cs) (hj : j < 10) : Calls Tryz.prog 30 #[pt l, nt (j : Int)] w fun e w' => e = .returned (.tuple #[.agg (acct xs (j : Int)).cells.toArray, .bool true]) ∧ Keep none_ w w' := by
 obtain ⟨hinv, hFl, hFlt, g, A, cap, D, hat, hG, hAF, hDF, hAD⟩ := h
 have hl := hat.blk
 have hA := hat.sl
 have hllt := hl.lt
 have hAl : ∀ q, inA A q → q ≠ l := fun q hq => (hAF q hq).2
 have hAlt := SlT.lt hA
 have hDl : ∀ q, D q → q ≠ l := fun q hq => (hDF q hq).2
 have hDlt := Grd.lt hG
 have hx10 := hinv.1
 have hK0 : Keep none_ w w := Keep.refl _ _
 have hzhK0 := Keep.size hK0
 refine enterM Tryz.func30 rfl [pt l, nt (j : Int)] 29 rfl rfl rfl ?_
 refine V_pick [(0, pt l), (1, nt (j : Int))] rfl ?_
 refine Vr ?_
 refine OI_alloc 93 (.agg #[nt 0, nt 0]) [nt 0, nt 0] (some 4) (by kernel_rfl) (by kernel_rfl) (by kernel_rfl) ?_
 intro b1 w1 e1 hb1 k1 z1
 have hsz2 := Keep.size k1
 replace hl := hl.k0 k1
 replace hA := hA.keep0 k1
 replace hG := Grd.keep hG k1 nk
 replace hK0 := hK0.tn k1
 have hb1lt := hb1.lt
 refine On 2 [0, 1, 4] ?_
 refine Oe ?_
 refine V_seq ?_
 refine Vr ?_
 refine Os 7 [(0, pt l), (1, nt (j : Int)), (4, pt b1), (12, .bool (decide ((j : Int) < 0)))] ?_
 by_cases hg3 : (j : Int) < 0
 ·
  exact (by omega : False).elim
 refine OI_eq [(0, pt l), (1, nt (j : Int)), (4, pt b1), (12, .bool false)] (by first | simp [hg3] | rfl) ?_
 refine On 11 [0, 1, 4, 12, 13, 16] ?_
 refine Oc 104 (.tmp 16) 0 (.slice A xs.length cap) (some 17) hl rfl ?_
 refine Ose [(0, pt l), (1, nt (j : Int)), (4, pt b1), (20, .bool (decide ((j : Int) ≥ (xs.length : Int))))] ?_
 refine V_if ((j : Int) ≥ (xs.length : Int)) (by kernel_rfl) (fun hc4 => ?_) (fun hc4 => ?_)
 ·
  exact (by omega : False).elim
 refine V_skip ?_
 refine X_then ?_
 refine Vr ?_
 refine On 3 [1, 4, 24] ?_
 refine Oc 104 (.tmp 24) 0 (.slice A xs.length cap) (some 25) hl rfl ?_
 refine On 5 [4, 25, 26] ?_
 obtain ⟨b5, o5, L5, T5, rfl, hat5⟩ := SlT.opn hA
 have hb5lt := hat5.blk.lt
 have hob6 := hAl b5 ⟨_, rfl, rfl⟩
 have hob7 := hAlt b5 ⟨_, rfl, rfl⟩
 have hne8 : ∀ q, D q → q ≠ b5 := fun q hq hs => (fun q h1 h2 => hAD q h2 h1) q hq ⟨_, rfl, hs⟩
 have own9 := fun q hq => And.intro (hDl q hq) (hne8 q hq)
 refine Oi (b := b5) (o := o5) (len := xs.length) (cap := cap) (j := j) (some 27) 104 (.tmp 25) (.tmp 26) 93 2 16 .i64 ?_
 obtain ⟨x10, hx11⟩ := exAt (xs := xs) (i := j)
 refine Oa 93 (.tmp 27) (o5 + j * 2) (Acc.cells x10) (some 28) 2 hat5.blk (At.elem' hat5 (es_at hx11)) (At.len hat5 (es_at hx11)) ?_
 refine Otg 93 (.tmp 4) (.tmp 28) 0 (Acc.cells x10) hb1 (Acc.len _) (Acc.one _) ?_
 intro w12 hb1_15 hk13 hz14
 replace hb1_15 : Blk w12 b1 (Acc.cells x10) 93 := (by rwa [over_whole (by rw [Acc.len]; rfl)] at hb1_15)
 have hsz16 := Keep.size hk13
 replace hl := hl.k1 hk13
 replace hat5 := hat5.keep hk13 (by show ¬ (_ = _); omega)
 replace hG := Grd.keep hG hk13 (fun q hq hs => by have hs : q = b1 := hs; have g0 := own9 q hq; have g1 := hDlt q hq; omega)
 replace hK0 := Keep.fr hK0 hk13
 refine Ose [(4, pt b1), (5, .bool true)] ?_
 refine V_ret ?_
 exact leave0 (.tuple #[.agg (Acc.cells x10).toArray, .bool true]) (.inl rfl) (res_agg_tmp (m := 2) rfl rfl rfl (by kernel_rfl) hb1_15 rfl) ⟨by rw [acct_in hx11 hj], hK0⟩
set_option maxRecDepth 10000 in
theorem account_out (F : Nat → Prop) (l : Nat) (xs : List Acc) (cs : List Ci) (a : Int) (w : World) (h : Led F w l xs cs) (ha : ¬ (0 ≤ a ∧ a < 10)) : Calls Tryz.prog 30 #[pt l, nt a] w fun e w' => e = .returned (.tuple #[.agg (acct xs a).cells.toArray, .bool false]) ∧ Keep none_ w w' := by
 obtain ⟨hinv, hFl, hFlt, g, A, cap, D, hat, hG, hAF, hDF, hAD⟩ := h
 have hl := hat.blk
 have hA := hat.sl
 have hllt := hl.lt
 have hAl : ∀ q, inA A q → q ≠ l := fun q hq => (hAF q hq).2
 have hAlt := SlT.lt hA
 have hDl : ∀ q, D q → q ≠ l := fun q hq => (hDF q hq).2
 have hDlt := Grd.lt hG
 have hx10 := hinv.1
 have hK0 : Keep none_ w w := Keep.refl _ _
 have hzhK0 := Keep.size hK0
 refine enterM Tryz.func30 rfl [pt l, nt a] 29 rfl rfl rfl ?_
 refine V_pick [(0, pt l), (1, nt a)] rfl ?_
 refine Vr ?_
 refine OI_alloc 93 (.agg #[nt 0, nt 0]) [nt 0, nt 0] (some 4) (by kernel_rfl) (by kernel_rfl) (by kernel_rfl) ?_
 intro b1 w1 e1 hb1 k1 z1
 have hsz2 := Keep.size k1
 replace hl := hl.k0 k1
 replace hA := hA.keep0 k1
 replace hG := Grd.keep hG k1 nk
 replace hK0 := hK0.tn k1
 have hb1lt := hb1.lt
 refine On 2 [0, 1, 4] ?_
 refine Oe ?_
 refine V_seq ?_
 refine Vr ?_
 refine Os 7 [(0, pt l), (1, nt a), (4, pt b1), (12, .bool (decide (a < 0)))] ?_
 by_cases hg3 : a < 0
 ·
  refine OI_eq [(0, pt l), (1, nt a), (4, pt b1), (12, .bool true)] (by first | simp [hg3] | rfl) ?_
  refine Ose [(0, pt l), (1, nt a), (4, pt b1), (20, .bool true)] ?_
  refine V_true rfl ?_
  refine Vr ?_
  refine On 1 [4, 21] ?_
  refine OI_set (m := 2) (kd := true) 93 (.tmp 4) (.tmp 21) 0 (.agg #[nt 0, nt 0]) [nt 0, nt 0] none (by kernel_rfl) (by kernel_rfl) (by kernel_rfl) hb1 (by kernel_rfl) (by kernel_rfl) (by kernel_rfl) (Nat.le_of_ble_eq_true (by kernel_rfl)) (by simp [Value.oneCell']) ?_
  intro w4 hb1_7 hk5 hz6
  replace hb1_7 : Blk w4 b1 [nt 0, nt 0] 93 := hb1_7
  have hsz8 := Keep.size hk5
  replace hl := hl.k1 hk5
  replace hA := hA.keep hk5 (fun q hq hs => by have hs : q = b1 := hs; have g0 := hAl q hq; have g1 := hAlt q hq; omega)
  replace hG := Grd.keep hG hk5 (fun q hq hs => by have hs : q = b1 := hs; have g0 := hDl q hq; have g1 := hDlt q hq; omega)
  replace hK0 := Keep.fr hK0 hk5
  refine Ose [(4, pt b1), (5, .bool false)] ?_
  refine V_ret ?_
  refine X_ret_then ?_
  exact leave0 (.tuple #[.agg [nt 0, nt 0].toArray, .bool false]) (.inl rfl) (res_agg_tmp (m := 2) rfl rfl rfl (by kernel_rfl) hb1_7 rfl) ⟨by rw [acct_out ha]; rfl, hK0⟩
 refine OI_eq [(0, pt l), (1, nt a), (4, pt b1), (12, .bool false)] (by first | simp [hg3] | rfl) ?_
 refine On 11 [0, 1, 4, 12, 13, 16] ?_
 refine Oc 104 (.tmp 16) 0 (.slice A xs.length cap) (some 17) hl rfl ?_
 refine Ose [(0, pt l), (1, nt a), (4, pt b1), (20, .bool (decide (a ≥ (xs.length : Int))))] ?_
 refine V_if (a ≥ (xs.length : Int)) (by kernel_rfl) (fun hc9 => ?_) (fun hc9 => ?_)
 ·
  refine Vr ?_
  refine On 1 [4, 21] ?_
  refine OI_set (m := 2) (kd := true) 93 (.tmp 4) (.tmp 21) 0 (.agg #[nt 0, nt 0]) [nt 0, nt 0] none (by kernel_rfl) (by kernel_rfl) (by kernel_rfl) hb1 (by kernel_rfl) (by kernel_rfl) (by kernel_rfl) (Nat.le_of_ble_eq_true (by kernel_rfl)) (by simp [Value.oneCell']) ?_
  intro w10 hb1_13 hk11 hz12
  replace hb1_13 : Blk w10 b1 [nt 0, nt 0] 93 := hb1_13
  have hsz14 := Keep.size hk11
  replace hl := hl.k1 hk11
  replace hA := hA.keep hk11 (fun q hq hs => by have hs : q = b1 := hs; have g0 := hAl q hq; have g1 := hAlt q hq; omega)
  replace hG := Grd.keep hG hk11 (fun q hq hs => by have hs : q = b1 := hs; have g0 := hDl q hq; have g1 := hDlt q hq; omega)
  replace hK0 := Keep.fr hK0 hk11
  refine Ose [(4, pt b1), (5, .bool false)] ?_
  refine V_ret ?_
  refine X_ret_then ?_
  exact leave0 (.tuple #[.agg [nt 0, nt 0].toArray, .bool false]) (.inl rfl) (res_agg_tmp (m := 2) rfl rfl rfl (by kernel_rfl) hb1_13 rfl) ⟨by rw [acct_out ha]; rfl, hK0⟩
 exact (by omega : False).elim
theorem account_spec (F : Nat → Prop) (l : Nat) (xs : List Acc) (cs : List Ci) (a : Int) (w : World) (h : Led F w l xs cs) : Calls Tryz.prog 30 #[pt l, nt a] w fun e w' => e = .returned (.tuple #[.agg (acct xs a).cells.toArray, .bool (isA a)]) ∧ Keep none_ w w' := by
  by_cases ha : 0 ≤ a ∧ a < 10
  · obtain ⟨j, rfl⟩ : ∃ j : Nat, a = j := ⟨a.toNat, by omega⟩
    rw [isA_in (by omega)]
    exact account_in F l xs cs j w h (by omega)
  · rw [isA_out ha]
    exact account_out F l xs cs a w h ha
end Go.Al

namespace Go.Al
open Go Go.RowKit Go.Proofs
theorem acct_bnd {xs : List Acc} (h : Inv xs) (a : Int) : 0 ≤ (acct xs a).free ∧ 0 ≤ (acct xs a).held ∧ (acct xs a).free + (acct xs a).held ≤ 1073741824 := by
  by_cases ha : isA a = true
  · obtain ⟨j, x, rfl, hj, hx, he⟩ := isA_some h ha
    obtain ⟨h1, h2, h3, _⟩ := h.at_ hx
    rw [he]; exact ⟨h1, h2, h3⟩
  · rw [acct_out (by simpa [isA] using ha)]; exact ⟨Int.le_refl _, Int.le_refl _, by decide⟩
def lockM : List (Int × Int) → Int → Int
  | [], m => m
  | p :: l, m => lockM l (if p.2 > m then p.2 else m)
theorem lockM_app : ∀ (l : List (Int × Int)) (p : Int × Int) (m : Int), lockM (l ++ [p]) m = if p.2 > lockM l m then p.2 else lockM l m
  | [], p, m => rfl
  | q :: l, p, m => by simp only [List.cons_append, lockM]; exact lockM_app l p _
def lockedL (cs : List Ci) (a : Int) : Int := lockM (rowL a cs) 0
def spendsE (xs : List Acc) (cs : List Ci) (a n : Int) : Int :=
  if isA a = false ∨ ¬ (0 ≤ n ∧ n ≤ 1073741824) then 1 else if n > (acct xs a).free then 6 else if n > 0 ∧ (acct xs a).free - n < lockedL cs a then 7 else 0
set_option maxRecDepth 10000 in
theorem free_spec (F : Nat → Prop) (l : Nat) (xs : List Acc) (cs : List Ci) (a : Int) (w : World) (h : Led F w l xs cs) : Calls Tryz.prog 13 #[pt l, nt a] w fun e w' => e = .returned (nt (acct xs a).free) ∧ Keep none_ w w' := by
 have hFlt := Led.lt h
 have hllt := hFlt _ (Led.at_ h)
 have hinv := Led.inv h
 have hK0 : Keep none_ w w := Keep.refl _ _
 have hzhK0 := Keep.size hK0
 refine enterV Tryz.func13 rfl [pt l, nt a] 15 rfl rfl rfl ?_
 refine Vr ?_
 refine On 1 [0, 1] ?_
 refine Oer ?_
 refine On 2 [8, 9] ?_
 refine Ok (kL 30 #[(.tmp 8), (.tmp 9)] #[31, 3]) 30 #[pt l, nt a] (some 10) (account_spec F l xs cs a _ h) ?_
 rintro _ w3 ⟨rfl, hk4⟩
 refine ⟨_, rfl, ?_⟩
 have hsz5 := Keep.size hk4
 replace h := h.keep hk4 nk
 replace hK0 := hK0.tn hk4
 refine On 6 [11, 12] ?_
 refine OI_alloc 93 (.agg #[nt 0, nt 0]) [nt 0, nt 0] (some 5) (by kernel_rfl) (by kernel_rfl) (by kernel_rfl) ?_
 intro b6 w6 e6 hb6 k6 z6
 have hsz7 := Keep.size k6
 replace h := h.keep k6 nk
 replace hK0 := hK0.tn k6
 have hb6lt := hb6.lt
 refine Otg 93 (.tmp 5) (.tmp 11) 0 (Acc.cells (acct xs a)) hb6 (Acc.len _) (Acc.one _) ?_
 intro w8 hb6_11 hk9 hz10
 replace hb6_11 : Blk w8 b6 (Acc.cells (acct xs a)) 93 := (by rwa [over_whole (by rw [Acc.len]; rfl)] at hb6_11)
 have hsz12 := Keep.size hk9
 replace h := h.keep hk9 (fun q hq hs => by have hs : q = b6 := hs; have g1 := hFlt q hq; omega)
 replace hK0 := Keep.fr hK0 hk9
 refine On 9 [5] ?_
 refine Oer ?_
 refine On 1 [13] ?_
 refine Oc 3 (.tmp 13) 0 (nt ((acct xs a).free)) (some 14) hb6_11 rfl ?_
 refine Ose [(4, nt ((acct xs a).free))] ?_
 refine V_ret ?_
 exact X_return (nt ((acct xs a).free)) rfl ⟨rfl, hK0⟩
set_option maxRecDepth 10000 in
theorem held_spec (F : Nat → Prop) (l : Nat) (xs : List Acc) (cs : List Ci) (a : Int) (w : World) (h : Led F w l xs cs) : Calls Tryz.prog 36 #[pt l, nt a] w fun e w' => e = .returned (nt (acct xs a).held) ∧ Keep none_ w w' := by
 have hFlt := Led.lt h
 have hllt := hFlt _ (Led.at_ h)
 have hinv := Led.inv h
 have hK0 : Keep none_ w w := Keep.refl _ _
 have hzhK0 := Keep.size hK0
 refine enterV Tryz.func36 rfl [pt l, nt a] 15 rfl rfl rfl ?_
 refine Vr ?_
 refine On 1 [0, 1] ?_
 refine Oer ?_
 refine On 2 [8, 9] ?_
 refine Ok (kL 30 #[(.tmp 8), (.tmp 9)] #[31, 3]) 30 #[pt l, nt a] (some 10) (account_spec F l xs cs a _ h) ?_
 rintro _ w3 ⟨rfl, hk4⟩
 refine ⟨_, rfl, ?_⟩
 have hsz5 := Keep.size hk4
 replace h := h.keep hk4 nk
 replace hK0 := hK0.tn hk4
 refine On 6 [11, 12] ?_
 refine OI_alloc 93 (.agg #[nt 0, nt 0]) [nt 0, nt 0] (some 5) (by kernel_rfl) (by kernel_rfl) (by kernel_rfl) ?_
 intro b6 w6 e6 hb6 k6 z6
 have hsz7 := Keep.size k6
 replace h := h.keep k6 nk
 replace hK0 := hK0.tn k6
 have hb6lt := hb6.lt
 refine Otg 93 (.tmp 5) (.tmp 11) 0 (Acc.cells (acct xs a)) hb6 (Acc.len _) (Acc.one _) ?_
 intro w8 hb6_11 hk9 hz10
 replace hb6_11 : Blk w8 b6 (Acc.cells (acct xs a)) 93 := (by rwa [over_whole (by rw [Acc.len]; rfl)] at hb6_11)
 have hsz12 := Keep.size hk9
 replace h := h.keep hk9 (fun q hq hs => by have hs : q = b6 := hs; have g1 := hFlt q hq; omega)
 replace hK0 := Keep.fr hK0 hk9
 refine On 9 [5] ?_
 refine Oer ?_
 refine On 1 [13] ?_
 refine Oc 3 (.tmp 13) 1 (nt ((acct xs a).held)) (some 14) hb6_11 rfl ?_
 refine Ose [(4, nt ((acct xs a).held))] ?_
 refine V_ret ?_
 exact X_return (nt ((acct xs a).held)) rfl ⟨rfl, hK0⟩
theorem tot_step2 {xs : List Acc} {i : Nat} {x : Acc} (h : ∀ x ∈ xs, 0 ≤ x.free ∧ 0 ≤ x.held) (ht : tot xs ≤ 1125899906842624) (hx : xs[i]? = some x) : tot (xs.take (i + 1)) = tot (xs.take i) + (x.free + x.held) ∧ 0 ≤ tot (xs.take i) ∧ tot (xs.take i) + (x.free + x.held) ≤ 1125899906842624 ∧ 0 ≤ x.free ∧ 0 ≤ x.held := by
  obtain ⟨h1, rfl⟩ := List.getElem?_eq_some_iff.1 hx
  have happ : ∀ (a b : List Acc), tot (a ++ b) = tot a + tot b := by
    intro a b
    induction a with
    | nil => simp [tot]
    | cons y l ih => simp only [List.cons_append, tot, ih]; omega
  have e1 : tot (xs.take (i + 1)) = tot (xs.take i) + (xs[i].free + xs[i].held) := by
    rw [List.take_succ_eq_append_getElem h1, happ]; simp only [tot]; omega
  have e2 : tot xs = tot (xs.take (i + 1)) + tot (xs.drop (i + 1)) := by rw [← happ, List.take_append_drop]
  have h2 := (tot_mem (xs := xs.take i) (fun y hy => h y (List.mem_of_mem_take hy))).1
  have h3 := (tot_mem (xs := xs.drop (i + 1)) (fun y hy => h y (List.mem_of_mem_drop hy))).1
  have h4 := h xs[i] (List.getElem_mem h1)
  exact ⟨e1, h2, by omega, h4.1, h4.2⟩
set_option maxRecDepth 10000 in
theorem issued_at (l cap : Nat) (A : Option Addr) (gv : Value) (xs : List Acc) (w : World) (hl : Blk w l [.slice A xs.length cap, gv] 106) (hA : SlT w 2 Acc.cells A cap xs) (hnn : ∀ x ∈ xs, 0 ≤ x.free ∧ 0 ≤ x.held) (htt : tot xs ≤ 1125899906842624) (hx10 : xs.length ≤ 1000) : Calls Tryz.prog 40 #[pt l] w fun e w' => e = .returned (nt (tot xs)) ∧ Keep none_ w w' := by
 have hllt := hl.lt
 have hAlt := SlT.lt hA
 have hK0 : Keep none_ w w := Keep.refl _ _
 have hzhK0 := Keep.size hK0
 refine enterV Tryz.func40 rfl [pt l] 26 rfl rfl rfl ?_
 refine Vr ?_
 refine On 1 [0] ?_
 refine Oer ?_
 refine On 1 [0, 3] ?_
 refine Oe ?_
 refine V_seq ?_
 refine Vs [(0, pt l), (3, nt 0), (7, .bool true)] ?_
 refine V_true rfl ?_
 refine Vr ?_
 refine On 3 [3, 10] ?_
 refine Oc 104 (.tmp 10) 0 (.slice A xs.length cap) (some 11) hl rfl ?_
 refine Ose [(3, nt 0), (11, .slice A xs.length cap), (12, nt (xs.length : Int)), (13, nt 0)] ?_
 refine V_block ?_
 refine V_pick [(3, nt 0), (11, .slice A xs.length cap), (12, nt (xs.length : Int)), (13, nt 0)] rfl ?_
 refine V_loop (fun k wI e => ∃ i : Nat, ∃ s : Int, (k + i = xs.length) ∧ (s = tot (xs.take i)) ∧ Keep none_ w wI ∧ e = [(3, nt s), (11, .slice A xs.length cap), (12, nt (xs.length : Int)), (13, nt (i : Int))]) xs.length ⟨0, 0, rfl, rfl, Keep.refl _ _, rfl⟩ ?_
 rintro k2 w1 _ ⟨i, s, hki, hs, hk3, rfl⟩
 have hsz4 := Keep.size hk3
 replace hl := hl.k0 hk3
 replace hA := hA.keep0 hk3
 replace hK0 := hK0.tn hk3
 have hzhk3 := Keep.size hk3
 refine Vs [(3, nt s), (11, .slice A xs.length cap), (12, nt (xs.length : Int)), (13, nt (i : Int)), (14, .bool (decide ((i : Int) < (xs.length : Int))))] ?_
 refine V_seq ?_
 refine V_if ((i : Int) < (xs.length : Int)) (by kernel_rfl) (fun hc5 => ?_) (fun hc5 => ?_)
 ·
  refine V_skip ?_
  refine X_then ?_
  refine V_seq ?_
  refine V_block ?_
  refine Vr ?_
  obtain ⟨b6, o6, L6, T6, rfl, hat6⟩ := SlT.opn hA
  have hb6lt := hat6.blk.lt
  have hob7 := hAlt b6 ⟨_, rfl, rfl⟩
  refine Oi (b := b6) (o := o6) (len := xs.length) (cap := cap) (j := i) (some 15) 104 (.tmp 11) (.tmp 13) 93 2 16 .i64 ?_
  obtain ⟨x8, hx9⟩ := exAt (xs := xs) (i := i)
  obtain ⟨hst1, hst2, hst3, hbx1, hbx2⟩ := tot_step2 hnn htt hx9
  refine Oa 93 (.tmp 15) (o6 + i * 2) (Acc.cells x8) (some 16) 2 hat6.blk (At.elem' hat6 (es_at hx9)) (At.len hat6 (es_at hx9)) ?_
  refine OI_alloc 93 (.agg #[nt 0, nt 0]) [nt 0, nt 0] (some 5) (by kernel_rfl) (by kernel_rfl) (by kernel_rfl) ?_
  intro b10 w10 e10 hb10 k10 z10
  have hsz11 := Keep.size k10
  replace hl := hl.k0 k10
  replace hat6 := hat6.keep k10 id
  replace hK0 := hK0.tn k10
  replace hk3 := hk3.tn k10
  have hb10lt := hb10.lt
  refine Otg 93 (.tmp 5) (.tmp 16) 0 (Acc.cells x8) hb10 (Acc.len _) (Acc.one _) ?_
  intro w12 hb10_15 hk13 hz14
  replace hb10_15 : Blk w12 b10 (Acc.cells x8) 93 := (by rwa [over_whole (by rw [Acc.len]; rfl)] at hb10_15)
  have hsz16 := Keep.size hk13
  replace hl := hl.k1 hk13
  replace hat6 := hat6.keep hk13 (by show ¬ (_ = _); omega)
  replace hK0 := Keep.fr hK0 hk13
  replace hk3 := Keep.fr hk3 hk13
  refine Oe ?_
  refine V_region ?_
  refine On 2 [5, 11, 12, 13, 17, 18] ?_
  refine Oc 3 (.tmp 18) 0 (nt x8.free) (some 19) hb10_15 rfl ?_
  refine On 4 [11, 12, 13, 17, 19, 20] ?_
  refine Oc 3 (.tmp 20) 1 (nt x8.held) (some 21) hb10_15 rfl ?_
  have hw17 : IntKind.i64.wrap (x8.free + x8.held) = x8.free + x8.held := wrp
  refine Os 6 [(11, sl_ b6 o6 xs.length cap), (12, nt (xs.length : Int)), (13, nt (i : Int)), (17, nt s), (22, nt (IntKind.i64.wrap (x8.free + x8.held)))] ?_
  refine Oq (u := nt (IntKind.i64.wrap (x8.free + x8.held))) (v := nt (x8.free + x8.held)) 22 (by rw [hw17]) ?_
  have hw18 : IntKind.i64.wrap (s + (x8.free + x8.held)) = s + (x8.free + x8.held) := wrp
  refine Os 7 [(11, sl_ b6 o6 xs.length cap), (12, nt (xs.length : Int)), (13, nt (i : Int)), (23, nt (IntKind.i64.wrap (s + (x8.free + x8.held))))] ?_
  refine Oq (u := nt (IntKind.i64.wrap (s + (x8.free + x8.held)))) (v := nt (s + (x8.free + x8.held))) 23 (by rw [hw18]) ?_
  refine Os 8 [(3, nt (s + (x8.free + x8.held))), (11, sl_ b6 o6 xs.length cap), (12, nt (xs.length : Int)), (13, nt (i : Int))] ?_
  refine OI_end rfl ?_
  refine X_block ?_
  refine X_then ?_
  refine V_region ?_
  have hw19 : IntKind.i64.wrap ((i : Int) + 1) = ((i + 1 : Nat) : Int) := wrp
  refine Os 1 [(3, nt (s + (x8.free + x8.held))), (11, sl_ b6 o6 xs.length cap), (12, nt (xs.length : Int)), (24, nt (IntKind.i64.wrap ((i : Int) + 1)))] ?_
  refine Oq (u := nt (IntKind.i64.wrap ((i : Int) + 1))) (v := nt ((i + 1 : Nat) : Int)) 24 (by rw [hw19]) ?_
  refine Os 2 [(3, nt (s + (x8.free + x8.held))), (11, sl_ b6 o6 xs.length cap), (12, nt (xs.length : Int)), (13, nt ((i + 1 : Nat) : Int))] ?_
  refine OI_end rfl ?_
  exact V_again (k2 - 1) (by omega) [(3, nt (s + (x8.free + x8.held))), (11, sl_ b6 o6 xs.length cap), (12, nt (xs.length : Int)), (13, nt ((i + 1 : Nat) : Int))] rfl ⟨i + 1, s + (x8.free + x8.held), by omega, by rw [hst1, hs], hk3, rfl⟩
 refine V_exit ?_
 refine X_exit_then ?_
 refine X_exit_then ?_
 refine X_exit_here ?_
 refine X_then ?_
 refine Vs [(2, nt s)] ?_
 refine V_ret ?_
 have he : i = xs.length := by omega
 rw [he, List.take_length] at hs
 exact X_return _ rfl ⟨by rw [hs], hK0⟩
end Go.Al

namespace Go.Al
open Go Go.RowKit Go.Proofs
set_option maxRecDepth 10000 in
theorem locks_spec (l g : Nat) (sv : Value) (a : Int) (w : World) (hl : Blk w l [sv, pt g] 106) : Calls Tryz.prog 111 #[pt l, nt a] w fun e w' => ∃ bg bs bn, e = .returned (.func (.func 116) #[] #[pt bg, pt bs, pt bn]) ∧ Blk w' bg [pt g] 102 ∧ Blk w' bs [nt 0] 3 ∧ Blk w' bn [nt a] 3 ∧ Keep none_ w w' ∧ w.heap.size ≤ bg ∧ w.heap.size ≤ bs ∧ w.heap.size ≤ bn := by
 have hllt := hl.lt
 have hK0 : Keep none_ w w := Keep.refl _ _
 have hzhK0 := Keep.size hK0
 refine enterV Tryz.func111 rfl [pt l, nt a] 15 rfl rfl rfl ?_
 refine Vr ?_
 refine On 1 [0, 1] ?_
 refine Oe ?_
 refine V_seq ?_
 refine Vs [(0, pt l), (1, nt a), (6, .bool false)] ?_
 refine V_false rfl ?_
 refine V_skip ?_
 refine X_then ?_
 refine Vr ?_
 refine On 3 [1, 11] ?_
 refine Oc 102 (.tmp 11) 1 (pt g) (some 12) hl rfl ?_
 refine On 5 [12, 13] ?_
 refine Ok (kL 113 #[(.tmp 12), (.tmp 13)] #[102, 3]) 113 #[pt g, nt a] (some 14) (row_spec _ rfl a _) ?_
 rintro _ w1 ⟨bg3, bs4, bn5, rfl, hbg3, hbs4, hbn5, hk2, hgebg3, hgebs4, hgebn5⟩
 refine ⟨_, rfl, ?_⟩
 have hsz6 := Keep.size hk2
 replace hl := hl.k0 hk2
 replace hK0 := hK0.tn hk2
 have hbg3lt := hbg3.lt
 have hbs4lt := hbs4.lt
 have hbn5lt := hbn5.lt
 refine Ose [(4, .func (.func 116) #[] #[pt bg3, pt bs4, pt bn5])] ?_
 refine V_ret ?_
 exact X_return _ rfl ⟨bg3, bs4, bn5, rfl, hbg3, hbs4, hbn5, hK0, by omega, by omega, by omega⟩
set_option maxRecDepth 10000 in
theorem locked_spec (F : Nat → Prop) (l : Nat) (xs : List Acc) (cs : List Ci) (a : Int) (w : World) (h : Led F w l xs cs) : Calls Tryz.prog 103 #[pt l, nt a] w fun e w' => e = .returned (nt (lockedL cs a)) ∧ Keep none_ w w' := by
 obtain ⟨hinv, hFl, hFlt, g, A, cap, D, hat, hG, hAF, hDF, hAD⟩ := h
 have hl := hat.blk
 have hA := hat.sl
 have hllt := hl.lt
 have hAl : ∀ q, inA A q → q ≠ l := fun q hq => (hAF q hq).2
 have hAlt := SlT.lt hA
 have hDl : ∀ q, D q → q ≠ l := fun q hq => (hDF q hq).2
 have hDlt := Grd.lt hG
 have hx10 := hinv.1
 have hcl := hG.len
 have hK0 : Keep none_ w w := Keep.refl _ _
 have hzhK0 := Keep.size hK0
 refine enterM Tryz.func103 rfl [pt l, nt a] 17 rfl rfl rfl ?_
 refine V_pick [(0, pt l), (1, nt a)] rfl ?_
 refine Vr ?_
 refine On 1 [0, 1, 4] ?_
 refine Oer ?_
 refine OI_alloc 3 (nt 0) [nt 0] (some 5) (by kernel_rfl) (by kernel_rfl) (by kernel_rfl) ?_
 intro b1 w1 e1 hb1 k1 z1
 have hsz2 := Keep.size k1
 replace hl := hl.k0 k1
 replace hA := hA.keep0 k1
 replace hG := Grd.keep hG k1 nk
 replace hK0 := hK0.tn k1
 have hb1lt := hb1.lt
 refine Ot 3 (.tmp 5) (.const (Value.int IntKind.i64 0)) 0 (nt 0) hb1 ?_
 intro w3 hb1_6 hk4 hz5
 replace hb1_6 : Blk w3 b1 [nt 0] 3 := hb1_6
 have hsz7 := Keep.size hk4
 replace hl := hl.k1 hk4
 replace hA := hA.keep hk4 (fun q hq hs => by have hs : q = b1 := hs; have g0 := hAl q hq; have g1 := hAlt q hq; omega)
 replace hG := Grd.keep hG hk4 (fun q hq hs => by have hs : q = b1 := hs; have g0 := hDl q hq; have g1 := hDlt q hq; omega)
 replace hK0 := Keep.fr hK0 hk4
 refine Oe ?_
 refine V_seq ?_
 refine Vr ?_
 refine Os 2 [(4, nt 0), (5, pt b1), (8, pt l), (9, nt a)] ?_
 refine Ok (kL 111 #[(.tmp 8), (.tmp 9)] #[31, 3]) 111 #[pt l, nt a] (some 10) (locks_spec l g _ a _ hl) ?_
 rintro _ w8 ⟨bg10, bs11, bn12, rfl, hbg10, hbs11, hbn12, hk9, hgebg10, hgebs11, hgebn12⟩
 refine ⟨_, rfl, ?_⟩
 have hsz13 := Keep.size hk9
 replace hl := hl.k0 hk9
 replace hb1_6 := hb1_6.k0 hk9
 replace hA := hA.keep0 hk9
 replace hG := Grd.keep hG hk9 nk
 replace hK0 := hK0.tn hk9
 have hbg10lt := hbg10.lt
 have hbs11lt := hbs11.lt
 have hbn12lt := hbn12.lt
 refine Oe ?_
 refine V_block ?_
 obtain ⟨_, _, _, _, A2, cap2, hat2, hAD2⟩ := hG
 have hA2 := hat2.sl
 have owA2 : ∀ q, inA A2 q → q < w.heap.size := fun q hq => hDlt q (hAD2 q hq)
 refine V_pick [(5, pt b1), (10, .func (.func 116) #[] #[pt bg10, pt bs11, pt bn12])] rfl ?_
 have hN0 : w.heap.size ≤ w8.heap.size := Keep.size hK0
 refine V_range2 (gf := 116) (caps := #[pt bg10, pt bs11, pt bn12]) (m := (rowL a cs).length) (by kernel_rfl) (by kernel_rfl) (by kernel_rfl) (along1_iter0 bg10 bs11 bn12 g cap2 A2 cs a (by omega)) (⟨hbg10, hat2, ⟨hbs11, hbn12, hA2⟩⟩) (fun W W' h k => ⟨h.1.quiet k, h.2.1.quiet k, h.2.2.quiet k⟩) (enc2_size _) (fun M1 k W => (Blk W bs11 [nt 0] 3) ∧ (Blk W bn12 [nt a] 3) ∧ (SlT W 3 Ci.cells A2 cap2 cs) ∧ (Keep none_ w W) ∧ (Blk W b1 [nt (lockM ((rowL a cs).take k) 0)] 3)) (fun M1 c k W => False) (fun M1 k W W' h hk => by obtain ⟨jbs11, jbn12, jA2, jhK0, jb1⟩ := h; exact ⟨jbs11.quiet hk, jbn12.quiet hk, jA2.quiet hk, jhK0.quiet hk (by omega), jb1.quiet hk⟩) (fun _ _ _ _ _ h _ => h.elim) (fun M1 hM1 => ⟨hbs11, hbn12, hA2, hK0, hb1_6⟩) (fun M1 k W h => by obtain ⟨jbs11, jbn12, jA2, jhK0, jb1⟩ := h; exact ⟨jbs11, jbn12, jA2⟩) ?_ ?_ (fun _ _ _ _ _ _ _ _ h _ => h.elim)
 ·
  intro lp D M1 k W hD hl hM hMW hkm ⟨jbs11, jbn12, jA2, jhK0, jb1⟩ ⟨rr, hrr⟩ hDD
  have hzjhK0 := Keep.size jhK0
  have hb1lt := jb1.lt
  have hbs11lt := jbs11.lt
  have hbn12lt := jbn12.lt
  have ltjA2 := SlT.lt jA2
  obtain ⟨x, hx⟩ : ∃ x, (rowL a cs)[k]? = some x := ⟨_, List.getElem?_eq_getElem hkm⟩
  rw [enc2_at hx]
  have hstp : lockM ((rowL a cs).take (k + 1)) 0 = if x.2 > lockM ((rowL a cs).take k) 0 then x.2 else lockM ((rowL a cs).take k) 0 := by obtain ⟨h1, h2⟩ := List.getElem?_eq_some_iff.1 hx; rw [List.take_succ_eq_append_getElem h1, h2, lockM_app]
  refine V_pick [(5, pt b1), (12, nt x.2)] rfl ?_
  have hfen : Keep (fen w8.heap.size M1) W W := Keep.refl _ _
  have hzhfen := Keep.size hfen
  refine V_region ?_
  refine Os 1 [(5, pt b1), (7, nt x.2)] ?_
  refine OI_end rfl ?_
  refine X_begin2 hfen ?_
  intro W2 hk2 ⟨r2, hr2⟩ hD2
  have hsz14 := Keep.size hk2
  replace jb1 := Blk.quiet jb1 hk2
  replace jbs11 := Blk.quiet jbs11 hk2
  replace jbn12 := Blk.quiet jbn12 hk2
  replace jA2 := jA2.quiet hk2
  replace jhK0 := Keep.quiet jhK0 hk2 (by omega)
  have hzhk2 := Keep.size hk2
  have hfenb : Keep (fen w8.heap.size M1) W2 W2 := Keep.refl _ _
  have hzhfenb := Keep.size hfenb
  refine V_block ?_
  refine V_region ?_
  refine Oc 3 (.tmp 5) 0 (nt (lockM ((rowL a cs).take k) 0)) (some 13) jb1 rfl ?_
  refine Os 3 [(5, pt b1), (15, nt (if x.2 > lockM ((rowL a cs).take k) 0 then x.2 else lockM ((rowL a cs).take k) 0))] ?_
  refine Ot 3 (.tmp 5) (.tmp 15) 0 (nt (if x.2 > lockM ((rowL a cs).take k) 0 then x.2 else lockM ((rowL a cs).take k) 0)) jb1 ?_
  intro w15 hb1_18 hk16 hz17
  replace hb1_18 : Blk w15 b1 [nt (if x.2 > lockM ((rowL a cs).take k) 0 then x.2 else lockM ((rowL a cs).take k) 0)] 3 := hb1_18
  have hsz19 := Keep.size hk16
  replace jbs11 := jbs11.k1 hk16
  replace jbn12 := jbn12.k1 hk16
  replace jA2 := jA2.keep hk16 (fun q hq hs => by have hs : q = b1 := hs; have g0 := owA2 q hq; have g1 := ltjA2 q hq; omega)
  replace jhK0 := Keep.fr jhK0 hk16
  replace hfenb := Keep.fresh hfenb hk16 (by intro i hi hs; have hs2 : i = b1 := hs; show _ ∨ _; omega)
  refine OI_end rfl ?_
  refine X_block ?_
  exact fun a _ => ⟨hfenb, jbs11, jbn12, jA2, jhK0, by rw [hstp]; exact hb1_18⟩
 ·
  intro D M1 W hD hM ⟨jbs11, jbn12, jA2, jhK0, jb1⟩ hDD
  have hzjhK0 := Keep.size jhK0
  have hb1lt := jb1.lt
  have hbs11lt := jbs11.lt
  have hbn12lt := jbn12.lt
  have ltjA2 := SlT.lt jA2
  rw [List.take_length] at jb1
  refine X_block ?_
  refine X_then ?_
  refine Vr ?_
  refine Oc 3 (.tmp 5) 0 (nt (lockM (rowL a cs) 0)) (some 16) jb1 rfl ?_
  refine Ose [(4, nt (lockM (rowL a cs) 0))] ?_
  refine V_ret ?_
  exact leave1 (nt (lockM (rowL a cs) 0)) (.inl rfl) hDD (fun w' hk => ⟨res_tmps rfl, ⟨rfl, Keep.quiet jhK0 hk (by omega)⟩⟩)
set_option maxRecDepth 10000 in
theorem spends_spec (F : Nat → Prop) (l : Nat) (xs : List Acc) (cs : List Ci) (a n : Int) (w : World) (h : Led F w l xs cs) : Calls Tryz.prog 77 #[pt l, nt a, nt n] w fun e w' => e = .returned (nt (spendsE xs cs a n)) ∧ Keep none_ w w' := by
 have hFlt := Led.lt h
 have hllt := hFlt _ (Led.at_ h)
 have hinv := Led.inv h
 obtain ⟨hab1, hab2, hab3⟩ := acct_bnd hinv a
 have hK0 : Keep none_ w w := Keep.refl _ _
 have hzhK0 := Keep.size hK0
 refine enterV Tryz.func77 rfl [pt l, nt a, nt n] 41 rfl rfl rfl ?_
 refine Vr ?_
 refine On 1 [0, 1, 2] ?_
 refine Oer ?_
 refine On 2 [0, 1, 2, 10, 11] ?_
 refine Ok (kL 30 #[(.tmp 10), (.tmp 11)] #[31, 3]) 30 #[pt l, nt a] (some 12) (account_spec F l xs cs a _ h) ?_
 rintro _ w5 ⟨rfl, hk6⟩
 refine ⟨_, rfl, ?_⟩
 have hsz7 := Keep.size hk6
 replace h := h.keep hk6 nk
 replace hK0 := hK0.tn hk6
 refine On 6 [0, 1, 2, 13, 14] ?_
 refine OI_alloc 93 (.agg #[nt 0, nt 0]) [nt 0, nt 0] (some 7) (by kernel_rfl) (by kernel_rfl) (by kernel_rfl) ?_
 intro b8 w8 e8 hb8 k8 z8
 have hsz9 := Keep.size k8
 replace h := h.keep k8 nk
 replace hK0 := hK0.tn k8
 have hb8lt := hb8.lt
 refine Otg 93 (.tmp 7) (.tmp 13) 0 (Acc.cells (acct xs a)) hb8 (Acc.len _) (Acc.one _) ?_
 intro w10 hb8_13 hk11 hz12
 replace hb8_13 : Blk w10 b8 (Acc.cells (acct xs a)) 93 := (by rwa [over_whole (by rw [Acc.len]; rfl)] at hb8_13)
 have hsz14 := Keep.size hk11
 replace h := h.keep hk11 (fun q hq hs => by have hs : q = b8 := hs; have g1 := hFlt q hq; omega)
 replace hK0 := Keep.fr hK0 hk11
 refine On 9 [0, 1, 2, 7, 8] ?_
 refine Oe ?_
 refine V_seq ?_
 refine V_block ?_
 refine Vr ?_
 refine Os 3 [(0, pt l), (1, nt a), (2, nt n), (7, pt b8), (18, .bool (!(isA a)))] ?_
 cases hg15 : (!(isA a))
 ·
  refine OI_eq [(0, pt l), (1, nt a), (2, nt n), (7, pt b8), (18, .bool false)] (by first | rfl | rw [hg15]) ?_
  refine On 4 [0, 1, 2, 7, 18, 19] ?_
  refine Ok (kL 39 #[(.tmp 19)] #[3]) 39 #[nt n] (some 20) (isAmount_spec n _) ?_
  rintro _ w10 ⟨rfl, rfl⟩
  refine ⟨_, rfl, ?_⟩
  refine Ose [(0, pt l), (1, nt a), (2, nt n), (7, pt b8), (15, .bool (!(decide (0 ≤ n ∧ n ≤ 1073741824))))] ?_
  refine V_not (0 ≤ n ∧ n ≤ 1073741824) (by kernel_rfl) (fun hc21 => ?_) (fun hc21 => ?_)
  ·
   refine Vs [(6, nt 1)] ?_
   refine V_ret ?_
   refine X_ret_block ?_
   refine X_ret_then ?_
   exact X_return (nt 1) rfl ⟨by unfold spendsE; simp_all <;> omega, hK0⟩
  refine Vr ?_
  refine On 2 [0, 1, 2, 7, 24, 25] ?_
  refine Oc 3 (.tmp 25) 0 (nt ((acct xs a).free)) (some 26) hb8_13 rfl ?_
  refine Ose [(0, pt l), (1, nt a), (2, nt n), (7, pt b8), (23, .bool (decide (n > (acct xs a).free)))] ?_
  refine V_if (n > (acct xs a).free) (by kernel_rfl) (fun hc22 => ?_) (fun hc22 => ?_)
  ·
   refine Vs [(6, nt 6)] ?_
   refine V_ret ?_
   refine X_ret_block ?_
   refine X_ret_then ?_
   exact X_return (nt 6) rfl ⟨by unfold spendsE; simp_all <;> omega, hK0⟩
  refine V_seq ?_
  refine Vd (acts [9]) none_ [[0, 1, 2, 7, 8, 9, 3, 4, 5, 6, 10, 11, 12]] ?_
  intro w24 hk23 he25 L hL26
  have hsz27 := Keep.size hk23
  replace hb8_13 := hb8_13.k0 hk23
  replace h := h.keep hk23 nk
  replace hK0 := hK0.tn hk23
  have qhb8_13 := hb8_13
  have K28 : Keep none_ w24 w24 := Keep.refl _ _
  obtain rfl := List.mem_singleton.1 hL26
  refine Gs [7, 8, 9, 3, 4, 5, 6, 10, 11, 12] [(0, pt l), (1, nt a), (2, nt n), (7, pt b8), (31, .bool (decide (n > 0)))] ?_
  by_cases hg29 : n > 0
  ·
   refine GI_eq [(0, pt l), (1, nt a), (2, nt n), (7, pt b8), (31, .bool true)] (by first | simp [hg29] | rfl) ?_
   refine Gs [9, 3, 4, 5, 6, 10, 11, 12] [(2, nt n), (7, pt b8), (31, .bool true), (36, pt l), (37, nt a)] ?_
   refine Gk (kL 103 #[(.tmp 36), (.tmp 37)] #[31, 3]) 103 #[pt l, nt a] (some 38) (locked_spec F l xs cs a _ h) ?_
   rintro _ w30 ⟨rfl, hk31⟩
   have K32 := K28.tr (Keep.ofNone hk31)
   refine ⟨_, rfl, K32, ?_⟩
   have hzK32 := Keep.size K32
   have hsz33 := Keep.size hk31
   replace hb8_13 := hb8_13.k0 hk31
   replace h := h.keep hk31 nk
   replace hK0 := hK0.tn hk31
   refine Gn [4, 5, 6, 10, 11, 12] [2, 31, 32, 38] ?_
   refine Gc0 3 (.tmp 32) 0 (nt ((acct xs a).free)) (some 33) qhb8_13 rfl ?_
   have hw34 : IntKind.i64.wrap (((acct xs a).free) - n) = ((acct xs a).free) - n := wrp
   refine Gs [10, 11, 12] [(31, .bool true), (35, nt (IntKind.i64.wrap (((acct xs a).free) - n))), (38, nt (lockedL cs a))] ?_
   refine GI_eq [(31, .bool true), (35, nt (((acct xs a).free) - n)), (38, nt (lockedL cs a))] (by rw [hw34]) ?_
   refine Gs [] [(28, .bool (decide (((acct xs a).free) - n < lockedL cs a)))] ?_
   refine GI_end ?_
   refine X_then ?_
   refine V_if (((acct xs a).free) - n < lockedL cs a) (by kernel_rfl) (fun hc35 => ?_) (fun hc35 => ?_)
   ·
    refine Vs [(6, nt 7)] ?_
    refine V_ret ?_
    refine X_ret_block ?_
    refine X_ret_then ?_
    exact X_return (nt 7) rfl ⟨by unfold spendsE; simp_all <;> omega, hK0⟩
   refine V_skip ?_
   refine X_block ?_
   refine X_then ?_
   refine Vs [(6, nt 0)] ?_
   refine V_ret ?_
   exact X_return (nt 0) rfl ⟨by unfold spendsE; simp_all <;> omega, hK0⟩
  refine GI_eq [(0, pt l), (1, nt a), (2, nt n), (7, pt b8), (31, .bool false)] (by first | simp [hg29] | rfl) ?_
  refine Gs [] [(28, .bool false)] ?_
  refine GI_end ?_
  refine X_then ?_
  refine V_false rfl ?_
  refine V_skip ?_
  refine X_block ?_
  refine X_then ?_
  refine Vs [(6, nt 0)] ?_
  refine V_ret ?_
  exact X_return (nt 0) rfl ⟨by unfold spendsE; simp_all <;> omega, hK0⟩
 refine OI_eq [(0, pt l), (1, nt a), (2, nt n), (7, pt b8), (18, .bool true)] (by first | rfl | rw [hg15]) ?_
 refine Ose [(0, pt l), (1, nt a), (2, nt n), (7, pt b8), (15, .bool true)] ?_
 refine V_true rfl ?_
 refine Vs [(6, nt 1)] ?_
 refine V_ret ?_
 refine X_ret_block ?_
 refine X_ret_then ?_
 exact X_return (nt 1) rfl ⟨by unfold spendsE; simp_all <;> omega, hK0⟩
end Go.Al

namespace Go.Al
open Go Go.RowKit Go.Proofs
def setA (xs : List Acc) (a : Int) (y : Acc) : List Acc := xs.set a.toNat y
def subF (xs : List Acc) (a n : Int) : List Acc := setA xs a (Acc.mk ((acct xs a).free - n) (acct xs a).held)
def addF (xs : List Acc) (a n : Int) : List Acc := setA xs a (Acc.mk ((acct xs a).free + n) (acct xs a).held)
def subH (xs : List Acc) (a n : Int) : List Acc := setA xs a (Acc.mk (acct xs a).free ((acct xs a).held - n))
def addH (xs : List Acc) (a n : Int) : List Acc := setA xs a (Acc.mk (acct xs a).free ((acct xs a).held + n))
theorem setA_at {xs : List Acc} {a : Int} {j : Nat} (ha : a = j) (y : Acc) : setA xs a y = xs.set j y := by subst ha; rfl
theorem acct_at {xs : List Acc} {a : Int} {j : Nat} {x : Acc} (ha : a = j) (hx : xs[j]? = some x) (hj : j < 10) : acct xs a = x := by subst ha; exact acct_in hx hj
theorem Inv.set {xs : List Acc} (h : Inv xs) {j : Nat} {x : Acc} (hx : xs[j]? = some x) (y : Acc) (h1 : 0 ≤ y.free) (h2 : 0 ≤ y.held) (h3 : tot xs + (y.free + y.held) - (x.free + x.held) ≤ 1073741824) : Inv (xs.set j y) := by
  refine ⟨by rw [List.length_set]; exact h.1, fun z hz => ?_, by rw [tot_set y hx]; exact h3⟩
  rcases List.mem_or_eq_of_mem_set hz with hz | rfl
  · exact h.2.1 z hz
  · exact ⟨h1, h2⟩
theorem spends_ok {xs : List Acc} {cs : List Ci} {a n : Int} (_hi : Inv xs) (h : spendsE xs cs a n = 0) : isA a = true ∧ 0 ≤ n ∧ n ≤ 1073741824 ∧ n ≤ (acct xs a).free ∧ (n > 0 → lockedL cs a ≤ (acct xs a).free - n) := by
  unfold spendsE at h
  split at h
  · cases h
  · rename_i h1
    split at h
    · cases h
    · rename_i h2
      split at h
      · cases h
      · rename_i h3
        simp only [not_or, Bool.not_eq_false, Classical.not_not] at h1
        refine ⟨h1.1, h1.2.1, h1.2.2, by omega, fun h4 => ?_⟩
        have : ¬ ((acct xs a).free - n < lockedL cs a) := fun h5 => h3 ⟨h4, h5⟩
        omega
def transE (xs : List Acc) (cs : List Ci) (a b n : Int) : Int := if isA b = false then 1 else if spendsE xs cs a n = 7 ∧ a = b then 0 else spendsE xs cs a n
def transX (xs : List Acc) (cs : List Ci) (a b n : Int) : List Acc := if isA b = true ∧ spendsE xs cs a n = 0 then addF (subF xs a n) b n else xs
def resX (xs : List Acc) (cs : List Ci) (a n : Int) : List Acc := if spendsE xs cs a n = 0 then addH (subF xs a n) a n else xs
def imin (a b : Int) : Int := if b < a then b else a
def imax (a b : Int) : Int := if b > a then b else a
def tkN (xs : List Acc) (a n : Int) : Int := if isA a = true then imax (imin n (acct xs a).held) 0 else 0
def tkX (xs : List Acc) (a n : Int) : List Acc := if isA a = true then subH xs a (tkN xs a n) else xs
def slX (xs : List Acc) (a n : Int) : List Acc := if tkN xs a n > 0 then addF (tkX xs a n) 0 (tkN xs a n) else tkX xs a n
theorem tk_bnd {h n : Int} (hh : 0 ≤ h) : 0 ≤ imax (imin n h) 0 ∧ imax (imin n h) 0 ≤ h := by unfold imax imin; split <;> split <;> omega
theorem tkN_bnd {xs : List Acc} (h : Inv xs) (a n : Int) : 0 ≤ tkN xs a n ∧ tkN xs a n ≤ (acct xs a).held := by
  have hb := acct_bnd h a
  unfold tkN
  split
  · exact tk_bnd hb.2.1
  · omega
set_option maxRecDepth 10000 in
theorem transfer_spec (F : Nat → Prop) (l : Nat) (xs : List Acc) (cs : List Ci) (a b n : Int) (w : World) (h : Led F w l xs cs) : Calls Tryz.prog 86 #[pt l, nt a, nt b, nt n] w fun e w' => e = .returned (nt (transE xs cs a b n)) ∧ (∃ F', Led F' w' l (transX xs cs a b n) (cs) ∧ (∀ q, F' q → F q ∨ w.heap.size ≤ q)) ∧ Keep F w w' := by
 have hFlt := Led.lt h
 have hllt := hFlt _ (Led.at_ h)
 have hinv := Led.inv h
 have hK0 : Keep F w w := Keep.refl _ _
 have hzhK0 := Keep.size hK0
 refine enterV Tryz.func86 rfl [pt l, nt a, nt b, nt n] 58 rfl rfl rfl ?_
 refine Vr ?_
 refine On 1 [0, 1, 2, 3] ?_
 refine Oer ?_
 refine On 3 [0, 1, 2, 3, 12, 13, 14] ?_
 refine Ok (kL 77 #[(.tmp 12), (.tmp 13), (.tmp 14)] #[31, 3, 3]) 77 #[pt l, nt a, nt n] (some 15) (spends_spec F l xs cs a n _ h) ?_
 rintro _ w1 ⟨rfl, hk2⟩
 refine ⟨_, rfl, ?_⟩
 have hsz3 := Keep.size hk2
 replace h := h.keep hk2 nk
 replace hK0 := hK0.tn hk2
 refine On 5 [0, 1, 2, 3, 9] ?_
 refine Oe ?_
 refine V_seq ?_
 refine Vr ?_
 refine On 2 [0, 1, 2, 3, 9, 17, 18] ?_
 refine Ok (kL 30 #[(.tmp 17), (.tmp 18)] #[31, 3]) 30 #[pt l, nt b] (some 19) (account_spec F l xs cs b _ h) ?_
 rintro _ w10 ⟨rfl, hk11⟩
 refine ⟨_, rfl, ?_⟩
 have hsz12 := Keep.size hk11
 replace h := h.keep hk11 nk
 replace hK0 := hK0.tn hk11
 refine On 6 [0, 1, 2, 3, 9, 20, 21] ?_
 refine OI_alloc 93 (.agg #[nt 0, nt 0]) [nt 0, nt 0] (some 10) (by kernel_rfl) (by kernel_rfl) (by kernel_rfl) ?_
 intro b13 w13 e13 hb13 k13 z13
 have hsz14 := Keep.size k13
 replace h := h.keep k13 nk
 replace hK0 := hK0.tn k13
 have hb13lt := hb13.lt
 refine Otg 93 (.tmp 10) (.tmp 20) 0 (Acc.cells (acct xs b)) hb13 (Acc.len _) (Acc.one _) ?_
 intro w15 hb13_18 hk16 hz17
 replace hb13_18 : Blk w15 b13 (Acc.cells (acct xs b)) 93 := (by rwa [over_whole (by rw [Acc.len]; rfl)] at hb13_18)
 have hsz19 := Keep.size hk16
 replace h := h.keep hk16 (fun q hq hs => by have hs : q = b13 := hs; have g1 := hFlt q hq; omega)
 replace hK0 := Keep.fresh hK0 hk16 (by intro i hi hs; have hs2 : i = b13 := hs; exfalso; omega)
 refine On 9 [0, 1, 2, 3, 9, 11] ?_
 refine Oer ?_
 refine Ose [(0, pt l), (1, nt a), (2, nt b), (3, nt n), (9, nt (spendsE xs cs a n)), (23, .bool (!(isA b)))] ?_
 refine V_ifb (!(isA b)) (by kernel_rfl) (fun hc20 => ?_) (fun hc20 => ?_)
 ·
  refine V_region ?_
  refine On 1 [0, 1, 2, 3, 9] ?_
  refine Oe ?_
  refine V_seq ?_
  refine Vs [(0, pt l), (1, nt a), (2, nt b), (3, nt n), (9, nt 1), (30, .bool false)] ?_
  refine V_false rfl ?_
  refine V_skip ?_
  refine X_then ?_
  refine V_seq ?_
  refine Vs [(0, pt l), (1, nt a), (2, nt b), (3, nt n), (9, nt 1), (32, .bool false)] ?_
  refine V_false rfl ?_
  refine V_skip ?_
  refine X_then ?_
  refine Vs [(8, nt 1)] ?_
  refine V_ret ?_
  exact X_return (nt 1) rfl ⟨by unfold transE; simp_all, ⟨F, by rw [show transX xs cs a b n = xs from by unfold transX; simp_all]; exact h, fun q h => .inl h⟩, hK0⟩
 refine V_skip ?_
 refine X_then ?_
 refine V_seq ?_
 refine Vr ?_
 refine Os 3 [(0, pt l), (1, nt a), (2, nt b), (3, nt n), (9, nt (spendsE xs cs a n)), (26, .bool (decide (spendsE xs cs a n = 7)))] ?_
 by_cases hg21 : spendsE xs cs a n = 7
 ·
  refine OI_eq [(0, pt l), (1, nt a), (2, nt b), (3, nt n), (9, nt (spendsE xs cs a n)), (26, .bool true)] (by first | simp [hg21] | rfl) ?_
  refine Ose [(0, pt l), (1, nt a), (2, nt b), (3, nt n), (9, nt (spendsE xs cs a n)), (30, .bool (decide (a = b)))] ?_
  refine V_if (a = b) (by kernel_rfl) (fun hc22 => ?_) (fun hc22 => ?_)
  ·
   refine Vs [(8, nt 0)] ?_
   refine V_ret ?_
   refine X_ret_then ?_
   exact X_return (nt 0) rfl ⟨by unfold transE; simp_all, ⟨F, by rw [show transX xs cs a b n = xs from by unfold transX; simp_all]; exact h, fun q h => .inl h⟩, hK0⟩
  refine V_skip ?_
  refine X_then ?_
  refine V_seq ?_
  refine Vs [(0, pt l), (1, nt a), (2, nt b), (3, nt n), (9, nt (spendsE xs cs a n)), (32, .bool (decide (spendsE xs cs a n = 0)))] ?_
  refine V_if (spendsE xs cs a n = 0) (by kernel_rfl) (fun hc23 => ?_) (fun hc23 => ?_)
  ·
   exact (by omega : False).elim
  refine V_skip ?_
  refine X_then ?_
  refine Vs [(8, nt (spendsE xs cs a n))] ?_
  refine V_ret ?_
  exact X_return (nt (spendsE xs cs a n)) rfl ⟨by unfold transE; simp_all, ⟨F, by rw [show transX xs cs a b n = xs from by unfold transX; simp_all]; exact h, fun q h => .inl h⟩, hK0⟩
 refine OI_eq [(0, pt l), (1, nt a), (2, nt b), (3, nt n), (9, nt (spendsE xs cs a n)), (26, .bool false)] (by first | simp [hg21] | rfl) ?_
 refine Ose [(0, pt l), (1, nt a), (2, nt b), (3, nt n), (9, nt (spendsE xs cs a n)), (30, .bool false)] ?_
 refine V_false rfl ?_
 refine V_skip ?_
 refine X_then ?_
 refine V_seq ?_
 refine Vs [(0, pt l), (1, nt a), (2, nt b), (3, nt n), (9, nt (spendsE xs cs a n)), (32, .bool (decide (spendsE xs cs a n = 0)))] ?_
 refine V_if (spendsE xs cs a n = 0) (by kernel_rfl) (fun hc24 => ?_) (fun hc24 => ?_)
 ·
  obtain ⟨hsa, hn1, hn2, hn3, hn4⟩ := spends_ok hinv hc24
  obtain ⟨hinvu25, hFlu25, hFltu25, gu25, Au25, capu25, Du25, hatu25, hGu25, hAFu25, hDFu25, hADu25⟩ := h
  have hlu25 := hatu25.blk
  have hAu25 := hatu25.sl
  have hlku25 := hlu25.lt
  have hAlu25 := fun q hq => And.intro (hAFu25 q hq).2 (hFlt q (hAFu25 q hq).1)
  have hAltu25 := SlT.lt hAu25
  have hDlu25 := fun q hq => And.intro (hDFu25 q hq).2 (hFlt q (hDFu25 q hq).1)
  have hDltu25 := Grd.lt hGu25
  have hx10u25 := hinvu25.1
  have htotu25 := hinvu25.2.2
  have hgu25lt := hDltu25 _ (Grd.at_ hGu25)
  obtain ⟨j26, hj26, hjl26⟩ : ∃ j : Nat, a = j ∧ j < 10 := ⟨(a).toNat, by have h9 := hsa; simp only [isA, decide_eq_true_eq] at h9; omega, by have h9 := hsa; simp only [isA, decide_eq_true_eq] at h9; omega⟩
  obtain ⟨j27, hj27, hjl27⟩ : ∃ j : Nat, b = j ∧ j < 10 := ⟨(b).toNat, by have h9 := (by simpa using hc20); simp only [isA, decide_eq_true_eq] at h9; omega, by have h9 := (by simpa using hc20); simp only [isA, decide_eq_true_eq] at h9; omega⟩
  obtain ⟨x0, hx0⟩ : ∃ x, xs[j26]? = some x := ⟨_, List.getElem?_eq_getElem (by omega)⟩
  have hxa := acct_at hj26 hx0 hjl26
  rw [hxa] at hn3 hn4
  obtain ⟨hbf0, hbh0, hbt0, _⟩ := hinv.at_ hx0
  refine Vr ?_
  refine On 3 [0, 1, 2, 3, 9, 35] ?_
  refine Oc 104 (.tmp 35) 0 (.slice Au25 xs.length capu25) (some 36) hlu25 rfl ?_
  refine On 5 [0, 2, 3, 9, 36, 37] ?_
  obtain ⟨b28, o28, L28, T28, rfl, hat28⟩ := SlT.opn hAu25
  have hb28lt := hat28.blk.lt
  have hob29 := hAlu25 b28 ⟨_, rfl, rfl⟩
  have hob30 := hAltu25 b28 ⟨_, rfl, rfl⟩
  have hne31 : ∀ q, Du25 q → q ≠ b28 := fun q hq hs => (fun q h1 h2 => hADu25 q h2 h1) q hq ⟨_, rfl, hs⟩
  have own32 := fun q hq => And.intro (hDlu25 q hq) (hne31 q hq)
  refine Op_ [(0, pt l), (2, nt b), (3, nt n), (9, nt (spendsE xs cs a n)), (36, sl_ b28 o28 xs.length capu25), (37, nt a)] ?_
  refine Oq (u := nt a) (v := nt (j26 : Int)) 37 (by rw [hj26]) ?_
  refine Oi (b := b28) (o := o28) (len := xs.length) (cap := capu25) (j := j26) (some 38) 104 (.tmp 36) (.tmp 37) 93 2 16 .i64 ?_
  refine On 7 [0, 2, 3, 9, 36, 37, 39] ?_
  refine Oc 3 (.tmp 39) (o28 + j26 * 2) (nt x0.free) (some 40) hat28.blk (At.cell0 hat28 (es_at hx0) rfl) ?_
  have hw33 : IntKind.i64.wrap (x0.free - n) = x0.free - n := wrp
  refine Os 10 [(0, pt l), (2, nt b), (3, nt n), (9, nt (spendsE xs cs a n)), (36, sl_ b28 o28 xs.length capu25), (37, nt (j26 : Int)), (42, nt (IntKind.i64.wrap (x0.free - n)))] ?_
  refine Oq (u := nt (IntKind.i64.wrap (x0.free - n))) (v := nt (x0.free - n)) 42 (by rw [hw33]) ?_
  refine Oi (b := b28) (o := o28) (len := xs.length) (cap := capu25) (j := j26) (some 43) 104 (.tmp 36) (.tmp 37) 93 2 16 .i64 ?_
  refine Os 12 [(0, pt l), (2, nt b), (3, nt n), (9, nt (spendsE xs cs a n)), (42, nt (x0.free - n)), (44, .pointer (some ⟨b28, o28 + j26 * 2, none⟩))] ?_
  refine Ts1 (Acc.mk (x0.free - n) x0.held : Acc) 0 (nt (x0.free - n)) hat28 hx0 (by simp [Acc.cells, over]) ?_
  intro w34 hat38 hk36 hz37 hlhx39 hx39
  have hsz40 := Keep.size hk36
  replace hb13_18 := hb13_18.k1 hk36
  replace hlu25 := hlu25.k1 hk36
  replace hK0 := Keep.fresh hK0 hk36 (by intro i hi hs; have hs2 : i = b28 := hs; first | (exfalso; omega) | (rw [hs2]; exact (hAFu25 _ ⟨_, rfl, rfl⟩).1))
  replace hGu25 := Grd.keep hGu25 hk36 (fun q hq hs => by have hs : q = b28 := hs; have g0 := own32 q hq; have g1 := hDltu25 q hq; omega)
  have ht41 : tot (xs.set j26 (Acc.mk (x0.free - n) x0.held)) = tot xs + ((x0.free - n) + x0.held) - (x0.free + x0.held) := tot_set _ hx0
  have hinv41 : Inv (xs.set j26 (Acc.mk (x0.free - n) x0.held)) := Inv.set hinvu25 hx0 _ (by show 0 ≤ (x0.free - n); omega) (by show 0 ≤ x0.held; omega) (by show tot xs + ((x0.free - n) + x0.held) - (x0.free + x0.held) ≤ 1073741824; omega)
  refine Oe ?_
  refine V_region ?_
  refine On 3 [2, 3, 9, 47] ?_
  refine Oc 104 (.tmp 47) 0 (sl_ b28 o28 xs.length capu25) (some 48) hlu25 rfl ?_
  refine On 5 [3, 9, 48, 49] ?_
  refine Op_ [(3, nt n), (9, nt (spendsE xs cs a n)), (48, sl_ b28 o28 xs.length capu25), (49, nt b)] ?_
  refine Oq (u := nt b) (v := nt (j27 : Int)) 49 (by rw [hj27]) ?_
  refine Oi (b := b28) (o := o28) (len := xs.length) (cap := capu25) (j := j27) (some 50) 104 (.tmp 48) (.tmp 49) 93 2 16 .i64 ?_
  refine On 7 [3, 9, 48, 49, 51] ?_
  obtain ⟨x42, hx43⟩ := exAt (xs := xs.set j26 (Acc.mk (x0.free - n) x0.held)) (i := j27)
  obtain ⟨hbf44, hbh44, hbt44, _⟩ := hinv41.at_ hx43
  refine Oc 3 (.tmp 51) (o28 + j27 * 2) (nt x42.free) (some 52) hat38.blk (At.cell0 hat38 (es_at hx43) rfl) ?_
  have hw45 : IntKind.i64.wrap (x42.free + n) = x42.free + n := wrp
  refine Os 10 [(9, nt (spendsE xs cs a n)), (48, sl_ b28 o28 xs.length capu25), (49, nt (j27 : Int)), (54, nt (IntKind.i64.wrap (x42.free + n)))] ?_
  refine Oq (u := nt (IntKind.i64.wrap (x42.free + n))) (v := nt (x42.free + n)) 54 (by rw [hw45]) ?_
  refine Oi (b := b28) (o := o28) (len := xs.length) (cap := capu25) (j := j27) (some 55) 104 (.tmp 48) (.tmp 49) 93 2 16 .i64 ?_
  refine Os 12 [(9, nt (spendsE xs cs a n)), (54, nt (x42.free + n)), (56, .pointer (some ⟨b28, o28 + j27 * 2, none⟩))] ?_
  refine Ts1 (Acc.mk (x42.free + n) x42.held : Acc) 0 (nt (x42.free + n)) hat38 hx43 (by simp [Acc.cells, over]) ?_
  intro w46 hat50 hk48 hz49 hlhx51 hx51
  have hsz52 := Keep.size hk48
  replace hb13_18 := hb13_18.k1 hk48
  replace hlu25 := hlu25.k1 hk48
  replace hK0 := Keep.fresh hK0 hk48 (by intro i hi hs; have hs2 : i = b28 := hs; first | (exfalso; omega) | (rw [hs2]; exact (hAFu25 _ ⟨_, rfl, rfl⟩).1))
  replace hGu25 := Grd.keep hGu25 hk48 (fun q hq hs => by have hs : q = b28 := hs; have g0 := own32 q hq; have g1 := hDltu25 q hq; omega)
  have ht53 : tot ((xs.set j26 (Acc.mk (x0.free - n) x0.held)).set j27 (Acc.mk (x42.free + n) x42.held)) = tot (xs.set j26 (Acc.mk (x0.free - n) x0.held)) + ((x42.free + n) + x42.held) - (x42.free + x42.held) := tot_set _ hx43
  have hinv53 : Inv ((xs.set j26 (Acc.mk (x0.free - n) x0.held)).set j27 (Acc.mk (x42.free + n) x42.held)) := Inv.set hinv41 hx43 _ (by show 0 ≤ (x42.free + n); omega) (by show 0 ≤ x42.held; omega) (by show tot (xs.set j26 (Acc.mk (x0.free - n) x0.held)) + ((x42.free + n) + x42.held) - (x42.free + x42.held) ≤ 1073741824; omega)
  refine Oer ?_
  refine Ose [(8, nt (spendsE xs cs a n))] ?_
  refine V_ret ?_
  exact X_return (nt (spendsE xs cs a n)) rfl ⟨by unfold transE; simp_all, ⟨F, (by rw [show transX xs cs a b n = addF (subF xs a n) b n from by unfold transX; rw [if_pos ⟨(by simpa using hc20), hc24⟩], show subF xs a n = _ from by unfold subF; rw [setA_at hj26, acct_at hj26 hx0 hjl26], show addF (xs.set j26 (Acc.mk (x0.free - n) x0.held)) b n = _ from by unfold addF; rw [setA_at hj27, acct_at hj27 hx43 hjl27]]; exact ⟨hinv53, hFlu25, fun q hq => Nat.lt_of_lt_of_le (hFltu25 q hq) (by omega), gu25, _, _, Du25, ⟨by simp only [List.length_set]; exact hlu25, At.slt hat50⟩, hGu25, hAFu25, hDFu25, hADu25⟩), fun q h => .inl h⟩, hK0⟩
 refine V_skip ?_
 refine X_then ?_
 refine Vs [(8, nt (spendsE xs cs a n))] ?_
 refine V_ret ?_
 exact X_return (nt (spendsE xs cs a n)) rfl ⟨by unfold transE; simp_all, ⟨F, by rw [show transX xs cs a b n = xs from by unfold transX; simp_all]; exact h, fun q h => .inl h⟩, hK0⟩
set_option maxRecDepth 10000 in
theorem reserve_spec (F : Nat → Prop) (l : Nat) (xs : List Acc) (cs : List Ci) (a n : Int) (w : World) (h : Led F w l xs cs) : Calls Tryz.prog 52 #[pt l, nt a, nt n] w fun e w' => e = .returned (nt (spendsE xs cs a n)) ∧ (∃ F', Led F' w' l (resX xs cs a n) (cs) ∧ (∀ q, F' q → F q ∨ w.heap.size ≤ q)) ∧ Keep F w w' := by
 have hFlt := Led.lt h
 have hllt := hFlt _ (Led.at_ h)
 have hinv := Led.inv h
 have hK0 : Keep F w w := Keep.refl _ _
 have hzhK0 := Keep.size hK0
 refine enterV Tryz.func52 rfl [pt l, nt a, nt n] 39 rfl rfl rfl ?_
 refine Vr ?_
 refine On 1 [0, 1, 2] ?_
 refine Oer ?_
 refine On 3 [0, 1, 2, 8, 9, 10] ?_
 refine Ok (kL 77 #[(.tmp 8), (.tmp 9), (.tmp 10)] #[31, 3, 3]) 77 #[pt l, nt a, nt n] (some 11) (spends_spec F l xs cs a n _ h) ?_
 rintro _ w1 ⟨rfl, hk2⟩
 refine ⟨_, rfl, ?_⟩
 have hsz3 := Keep.size hk2
 replace h := h.keep hk2 nk
 replace hK0 := hK0.tn hk2
 refine On 5 [0, 1, 2, 7] ?_
 refine Oe ?_
 refine V_seq ?_
 refine Vs [(0, pt l), (1, nt a), (2, nt n), (7, nt (spendsE xs cs a n)), (13, .bool (decide (spendsE xs cs a n = 0)))] ?_
 refine V_if (spendsE xs cs a n = 0) (by kernel_rfl) (fun hc4 => ?_) (fun hc4 => ?_)
 ·
  obtain ⟨hsa, hn1, hn2, hn3, hn4⟩ := spends_ok hinv hc4
  obtain ⟨hinvu5, hFlu5, hFltu5, gu5, Au5, capu5, Du5, hatu5, hGu5, hAFu5, hDFu5, hADu5⟩ := h
  have hlu5 := hatu5.blk
  have hAu5 := hatu5.sl
  have hlku5 := hlu5.lt
  have hAlu5 := fun q hq => And.intro (hAFu5 q hq).2 (hFlt q (hAFu5 q hq).1)
  have hAltu5 := SlT.lt hAu5
  have hDlu5 := fun q hq => And.intro (hDFu5 q hq).2 (hFlt q (hDFu5 q hq).1)
  have hDltu5 := Grd.lt hGu5
  have hx10u5 := hinvu5.1
  have htotu5 := hinvu5.2.2
  have hgu5lt := hDltu5 _ (Grd.at_ hGu5)
  obtain ⟨j6, hj6, hjl6⟩ : ∃ j : Nat, a = j ∧ j < 10 := ⟨(a).toNat, by have h9 := hsa; simp only [isA, decide_eq_true_eq] at h9; omega, by have h9 := hsa; simp only [isA, decide_eq_true_eq] at h9; omega⟩
  obtain ⟨x0, hx0⟩ : ∃ x, xs[j6]? = some x := ⟨_, List.getElem?_eq_getElem (by omega)⟩
  have hxa := acct_at hj6 hx0 hjl6
  rw [hxa] at hn3 hn4
  obtain ⟨hbf0, hbh0, hbt0, _⟩ := hinv.at_ hx0
  refine Vr ?_
  refine On 3 [0, 1, 2, 7, 16] ?_
  refine Oc 104 (.tmp 16) 0 (.slice Au5 xs.length capu5) (some 17) hlu5 rfl ?_
  refine On 5 [0, 1, 2, 7, 17, 18] ?_
  obtain ⟨b7, o7, L7, T7, rfl, hat7⟩ := SlT.opn hAu5
  have hb7lt := hat7.blk.lt
  have hob8 := hAlu5 b7 ⟨_, rfl, rfl⟩
  have hob9 := hAltu5 b7 ⟨_, rfl, rfl⟩
  have hne10 : ∀ q, Du5 q → q ≠ b7 := fun q hq hs => (fun q h1 h2 => hADu5 q h2 h1) q hq ⟨_, rfl, hs⟩
  have own11 := fun q hq => And.intro (hDlu5 q hq) (hne10 q hq)
  refine Op_ [(0, pt l), (1, nt a), (2, nt n), (7, nt (spendsE xs cs a n)), (17, sl_ b7 o7 xs.length capu5), (18, nt a)] ?_
  refine Oq (u := nt a) (v := nt (j6 : Int)) 18 (by rw [hj6]) ?_
  refine Oi (b := b7) (o := o7) (len := xs.length) (cap := capu5) (j := j6) (some 19) 104 (.tmp 17) (.tmp 18) 93 2 16 .i64 ?_
  refine On 7 [0, 1, 2, 7, 17, 18, 20] ?_
  refine Oc 3 (.tmp 20) (o7 + j6 * 2) (nt x0.free) (some 21) hat7.blk (At.cell0 hat7 (es_at hx0) rfl) ?_
  have hw12 : IntKind.i64.wrap (x0.free - n) = x0.free - n := wrp
  refine Os 10 [(0, pt l), (1, nt a), (2, nt n), (7, nt (spendsE xs cs a n)), (17, sl_ b7 o7 xs.length capu5), (18, nt (j6 : Int)), (23, nt (IntKind.i64.wrap (x0.free - n)))] ?_
  refine Oq (u := nt (IntKind.i64.wrap (x0.free - n))) (v := nt (x0.free - n)) 23 (by rw [hw12]) ?_
  refine Oi (b := b7) (o := o7) (len := xs.length) (cap := capu5) (j := j6) (some 24) 104 (.tmp 17) (.tmp 18) 93 2 16 .i64 ?_
  refine Os 12 [(0, pt l), (1, nt a), (2, nt n), (7, nt (spendsE xs cs a n)), (23, nt (x0.free - n)), (25, .pointer (some ⟨b7, o7 + j6 * 2, none⟩))] ?_
  refine Ts1 (Acc.mk (x0.free - n) x0.held : Acc) 0 (nt (x0.free - n)) hat7 hx0 (by simp [Acc.cells, over]) ?_
  intro w13 hat17 hk15 hz16 hlhx18 hx18
  have hsz19 := Keep.size hk15
  replace hlu5 := hlu5.k1 hk15
  replace hK0 := Keep.fresh hK0 hk15 (by intro i hi hs; have hs2 : i = b7 := hs; first | (exfalso; omega) | (rw [hs2]; exact (hAFu5 _ ⟨_, rfl, rfl⟩).1))
  replace hGu5 := Grd.keep hGu5 hk15 (fun q hq hs => by have hs : q = b7 := hs; have g0 := own11 q hq; have g1 := hDltu5 q hq; omega)
  have ht20 : tot (xs.set j6 (Acc.mk (x0.free - n) x0.held)) = tot xs + ((x0.free - n) + x0.held) - (x0.free + x0.held) := tot_set _ hx0
  have hinv20 : Inv (xs.set j6 (Acc.mk (x0.free - n) x0.held)) := Inv.set hinvu5 hx0 _ (by show 0 ≤ (x0.free - n); omega) (by show 0 ≤ x0.held; omega) (by show tot xs + ((x0.free - n) + x0.held) - (x0.free + x0.held) ≤ 1073741824; omega)
  refine Oe ?_
  refine V_region ?_
  refine On 3 [1, 2, 7, 28] ?_
  refine Oc 104 (.tmp 28) 0 (sl_ b7 o7 xs.length capu5) (some 29) hlu5 rfl ?_
  refine On 5 [2, 7, 29, 30] ?_
  refine Op_ [(2, nt n), (7, nt (spendsE xs cs a n)), (29, sl_ b7 o7 xs.length capu5), (30, nt a)] ?_
  refine Oq (u := nt a) (v := nt (j6 : Int)) 30 (by rw [hj6]) ?_
  refine Oi (b := b7) (o := o7) (len := xs.length) (cap := capu5) (j := j6) (some 31) 104 (.tmp 29) (.tmp 30) 93 2 16 .i64 ?_
  refine On 7 [2, 7, 29, 30, 32] ?_
  refine Oc 3 (.tmp 32) (o7 + j6 * 2 + 1) (nt x0.held) (some 33) hat17.blk (At.cell hat17 (es_at hx18) rfl) ?_
  have hw21 : IntKind.i64.wrap (x0.held + n) = x0.held + n := wrp
  refine Os 10 [(7, nt (spendsE xs cs a n)), (29, sl_ b7 o7 xs.length capu5), (30, nt (j6 : Int)), (35, nt (IntKind.i64.wrap (x0.held + n)))] ?_
  refine Oq (u := nt (IntKind.i64.wrap (x0.held + n))) (v := nt (x0.held + n)) 35 (by rw [hw21]) ?_
  refine Oi (b := b7) (o := o7) (len := xs.length) (cap := capu5) (j := j6) (some 36) 104 (.tmp 29) (.tmp 30) 93 2 16 .i64 ?_
  refine Os 12 [(7, nt (spendsE xs cs a n)), (35, nt (x0.held + n)), (37, .pointer (some ⟨b7, o7 + j6 * 2 + 1, none⟩))] ?_
  refine Ts1 (Acc.mk (x0.free - n) (x0.held + n) : Acc) 1 (nt (x0.held + n)) hat17 hx18 (by simp [Acc.cells, over]) ?_
  intro w22 hat26 hk24 hz25 hlhx27 hx27
  have hsz28 := Keep.size hk24
  replace hlu5 := hlu5.k1 hk24
  replace hK0 := Keep.fresh hK0 hk24 (by intro i hi hs; have hs2 : i = b7 := hs; first | (exfalso; omega) | (rw [hs2]; exact (hAFu5 _ ⟨_, rfl, rfl⟩).1))
  replace hGu5 := Grd.keep hGu5 hk24 (fun q hq hs => by have hs : q = b7 := hs; have g0 := own11 q hq; have g1 := hDltu5 q hq; omega)
  have ht29 : tot ((xs.set j6 (Acc.mk (x0.free - n) x0.held)).set j6 (Acc.mk (x0.free - n) (x0.held + n))) = tot (xs.set j6 (Acc.mk (x0.free - n) x0.held)) + ((x0.free - n) + (x0.held + n)) - ((x0.free - n) + x0.held) := tot_set _ hx18
  have hinv29 : Inv ((xs.set j6 (Acc.mk (x0.free - n) x0.held)).set j6 (Acc.mk (x0.free - n) (x0.held + n))) := Inv.set hinv20 hx18 _ (by show 0 ≤ (x0.free - n); omega) (by show 0 ≤ (x0.held + n); omega) (by show tot (xs.set j6 (Acc.mk (x0.free - n) x0.held)) + ((x0.free - n) + (x0.held + n)) - ((x0.free - n) + x0.held) ≤ 1073741824; omega)
  refine Oer ?_
  refine Ose [(6, nt (spendsE xs cs a n))] ?_
  refine V_ret ?_
  exact X_return (nt (spendsE xs cs a n)) rfl ⟨rfl, ⟨F, (by rw [show resX xs cs a n = addH (subF xs a n) a n from by unfold resX; rw [if_pos hc4], show subF xs a n = _ from by unfold subF; rw [setA_at hj6, acct_at hj6 hx0 hjl6], show addH (xs.set j6 (Acc.mk (x0.free - n) x0.held)) a n = _ from by unfold addH; rw [setA_at hj6, acct_at hj6 hx18 hjl6]]; exact ⟨hinv29, hFlu5, fun q hq => Nat.lt_of_lt_of_le (hFltu5 q hq) (by omega), gu5, _, _, Du5, ⟨by simp only [List.length_set]; exact hlu5, At.slt hat26⟩, hGu5, hAFu5, hDFu5, hADu5⟩), fun q h => .inl h⟩, hK0⟩
 refine V_skip ?_
 refine X_then ?_
 refine Vs [(6, nt (spendsE xs cs a n))] ?_
 refine V_ret ?_
 exact X_return (nt (spendsE xs cs a n)) rfl ⟨rfl, ⟨F, by rw [show resX xs cs a n = xs from by unfold resX; simp_all]; exact h, fun q h => .inl h⟩, hK0⟩
end Go.Al

namespace Go.Al
open Go Go.RowKit Go.Proofs
theorem tkX_tot {xs : List Acc} (hi : Inv xs) (a n : Int) : tot (tkX xs a n) = tot xs - tkN xs a n := by
  unfold tkX
  by_cases ha : isA a = true
  · obtain ⟨j, x, rfl, hj, hx, he⟩ := isA_some hi ha
    rw [if_pos ha]
    unfold subH
    rw [setA_at rfl, he, tot_set _ hx]
    simp only []
    omega
  · rw [if_neg ha]
    unfold tkN
    rw [if_neg ha]; omega
set_option maxRecDepth 10000 in
theorem takes_spec (F : Nat → Prop) (l : Nat) (xs : List Acc) (cs : List Ci) (a n : Int) (w : World) (h : Led F w l xs cs) : Calls Tryz.prog 108 #[pt l, nt a, nt n] w fun e w' => e = .returned (nt (tkN xs a n)) ∧ (∃ F', Led F' w' l (tkX xs a n) (cs) ∧ (∀ q, F' q → F q ∨ w.heap.size ≤ q)) ∧ Keep F w w' := by
 have hFlt := Led.lt h
 have hllt := hFlt _ (Led.at_ h)
 have hinv := Led.inv h
 have hK0 : Keep F w w := Keep.refl _ _
 have hzhK0 := Keep.size hK0
 refine enterV Tryz.func108 rfl [pt l, nt a, nt n] 35 rfl rfl rfl ?_
 refine Vr ?_
 refine On 1 [0, 1, 2] ?_
 refine Oer ?_
 refine On 2 [0, 1, 2, 10, 11] ?_
 refine Ok (kL 30 #[(.tmp 10), (.tmp 11)] #[31, 3]) 30 #[pt l, nt a] (some 12) (account_spec F l xs cs a _ h) ?_
 rintro _ w7 ⟨rfl, hk8⟩
 refine ⟨_, rfl, ?_⟩
 have hsz9 := Keep.size hk8
 replace h := h.keep hk8 nk
 replace hK0 := hK0.tn hk8
 refine On 6 [0, 1, 2, 13, 14] ?_
 refine OI_alloc 93 (.agg #[nt 0, nt 0]) [nt 0, nt 0] (some 7) (by kernel_rfl) (by kernel_rfl) (by kernel_rfl) ?_
 intro b10 w10 e10 hb10 k10 z10
 have hsz11 := Keep.size k10
 replace h := h.keep k10 nk
 replace hK0 := hK0.tn k10
 have hb10lt := hb10.lt
 refine Otg 93 (.tmp 7) (.tmp 13) 0 (Acc.cells (acct xs a)) hb10 (Acc.len _) (Acc.one _) ?_
 intro w12 hb10_15 hk13 hz14
 replace hb10_15 : Blk w12 b10 (Acc.cells (acct xs a)) 93 := (by rwa [over_whole (by rw [Acc.len]; rfl)] at hb10_15)
 have hsz16 := Keep.size hk13
 replace h := h.keep hk13 (fun q hq hs => by have hs : q = b10 := hs; have g1 := hFlt q hq; omega)
 replace hK0 := Keep.fresh hK0 hk13 (by intro i hi hs; have hs2 : i = b10 := hs; exfalso; omega)
 refine On 9 [0, 1, 2, 7, 8] ?_
 refine Oe ?_
 refine V_seq ?_
 refine Vs [(0, pt l), (1, nt a), (2, nt n), (7, pt b10), (16, .bool (!(isA a)))] ?_
 refine V_ifb (!(isA a)) (by kernel_rfl) (fun hc17 => ?_) (fun hc17 => ?_)
 ·
  refine Vs [(6, nt 0)] ?_
  refine V_ret ?_
  refine X_ret_then ?_
  exact X_return (nt 0) rfl ⟨by unfold tkN; simp_all, ⟨F, by rw [show tkX xs a n = xs from by unfold tkX; simp_all]; exact h, fun q h => .inl h⟩, hK0⟩
 obtain ⟨hinvu18, hFlu18, hFltu18, gu18, Au18, capu18, Du18, hatu18, hGu18, hAFu18, hDFu18, hADu18⟩ := h
 have hlu18 := hatu18.blk
 have hAu18 := hatu18.sl
 have hlku18 := hlu18.lt
 have hAlu18 := fun q hq => And.intro (hAFu18 q hq).2 (hFlt q (hAFu18 q hq).1)
 have hAltu18 := SlT.lt hAu18
 have hDlu18 := fun q hq => And.intro (hDFu18 q hq).2 (hFlt q (hDFu18 q hq).1)
 have hDltu18 := Grd.lt hGu18
 have hx10u18 := hinvu18.1
 have htotu18 := hinvu18.2.2
 have hgu18lt := hDltu18 _ (Grd.at_ hGu18)
 obtain ⟨j19, hj19, hjl19⟩ : ∃ j : Nat, a = j ∧ j < 10 := ⟨(a).toNat, by have h9 := (by simpa using hc17); simp only [isA, decide_eq_true_eq] at h9; omega, by have h9 := (by simpa using hc17); simp only [isA, decide_eq_true_eq] at h9; omega⟩
 obtain ⟨x0, hx0⟩ : ∃ x, xs[j19]? = some x := ⟨_, List.getElem?_eq_getElem (by omega)⟩
 have hxa := acct_at hj19 hx0 hjl19
 obtain ⟨hbf0, hbh0, hbt0, _⟩ := hinvu18.at_ hx0
 have htk : 0 ≤ imax (imin n (acct xs a).held) 0 ∧ imax (imin n (acct xs a).held) 0 ≤ x0.held := by rw [hxa]; exact tk_bnd hbh0
 refine V_skip ?_
 refine X_then ?_
 refine Vr ?_
 refine On 2 [0, 1, 17, 18] ?_
 refine Oc 3 (.tmp 18) 1 (nt ((acct xs a).held)) (some 19) hb10_15 rfl ?_
 refine On 6 [0, 1, 2] ?_
 refine Oer ?_
 refine On 3 [1, 2, 24] ?_
 refine Oc 104 (.tmp 24) 0 (.slice Au18 xs.length capu18) (some 25) hlu18 rfl ?_
 refine On 5 [2, 25, 26] ?_
 obtain ⟨b20, o20, L20, T20, rfl, hat20⟩ := SlT.opn hAu18
 have hb20lt := hat20.blk.lt
 have hob21 := hAlu18 b20 ⟨_, rfl, rfl⟩
 have hob22 := hAltu18 b20 ⟨_, rfl, rfl⟩
 have hne23 : ∀ q, Du18 q → q ≠ b20 := fun q hq hs => (fun q h1 h2 => hADu18 q h2 h1) q hq ⟨_, rfl, hs⟩
 have own24 := fun q hq => And.intro (hDlu18 q hq) (hne23 q hq)
 refine Op_ [(2, nt (imax (imin n ((acct xs a).held)) 0)), (25, sl_ b20 o20 xs.length capu18), (26, nt a)] ?_
 refine Oq (u := nt a) (v := nt (j19 : Int)) 26 (by rw [hj19]) ?_
 refine Oi (b := b20) (o := o20) (len := xs.length) (cap := capu18) (j := j19) (some 27) 104 (.tmp 25) (.tmp 26) 93 2 16 .i64 ?_
 refine On 7 [2, 25, 26, 28] ?_
 refine Oc 3 (.tmp 28) (o20 + j19 * 2 + 1) (nt x0.held) (some 29) hat20.blk (At.cell hat20 (es_at hx0) rfl) ?_
 have hw25 : IntKind.i64.wrap (x0.held - (imax (imin n ((acct xs a).held)) 0)) = x0.held - (imax (imin n ((acct xs a).held)) 0) := wrp
 refine Os 10 [(2, nt (imax (imin n ((acct xs a).held)) 0)), (25, sl_ b20 o20 xs.length capu18), (26, nt (j19 : Int)), (31, nt (IntKind.i64.wrap (x0.held - (imax (imin n ((acct xs a).held)) 0))))] ?_
 refine Oq (u := nt (IntKind.i64.wrap (x0.held - (imax (imin n ((acct xs a).held)) 0)))) (v := nt (x0.held - (imax (imin n ((acct xs a).held)) 0))) 31 (by rw [hw25]) ?_
 refine Oi (b := b20) (o := o20) (len := xs.length) (cap := capu18) (j := j19) (some 32) 104 (.tmp 25) (.tmp 26) 93 2 16 .i64 ?_
 refine Os 12 [(2, nt (imax (imin n ((acct xs a).held)) 0)), (31, nt (x0.held - (imax (imin n ((acct xs a).held)) 0))), (33, .pointer (some ⟨b20, o20 + j19 * 2 + 1, none⟩))] ?_
 refine Ts1 (Acc.mk x0.free (x0.held - (imax (imin n ((acct xs a).held)) 0)) : Acc) 1 (nt (x0.held - (imax (imin n ((acct xs a).held)) 0))) hat20 hx0 (by simp [Acc.cells, over]) ?_
 intro w26 hat30 hk28 hz29 hlhx31 hx31
 have hsz32 := Keep.size hk28
 replace hb10_15 := hb10_15.k1 hk28
 replace hlu18 := hlu18.k1 hk28
 replace hK0 := Keep.fresh hK0 hk28 (by intro i hi hs; have hs2 : i = b20 := hs; first | (exfalso; omega) | (rw [hs2]; exact (hAFu18 _ ⟨_, rfl, rfl⟩).1))
 replace hGu18 := Grd.keep hGu18 hk28 (fun q hq hs => by have hs : q = b20 := hs; have g0 := own24 q hq; have g1 := hDltu18 q hq; omega)
 have ht33 : tot (xs.set j19 (Acc.mk x0.free (x0.held - (imax (imin n ((acct xs a).held)) 0)))) = tot xs + (x0.free + (x0.held - (imax (imin n ((acct xs a).held)) 0))) - (x0.free + x0.held) := tot_set _ hx0
 have hinv33 : Inv (xs.set j19 (Acc.mk x0.free (x0.held - (imax (imin n ((acct xs a).held)) 0)))) := Inv.set hinvu18 hx0 _ (by show 0 ≤ x0.free; omega) (by show 0 ≤ (x0.held - (imax (imin n ((acct xs a).held)) 0)); omega) (by show tot xs + (x0.free + (x0.held - (imax (imin n ((acct xs a).held)) 0))) - (x0.free + x0.held) ≤ 1073741824; omega)
 refine Oer ?_
 refine Ose [(6, nt (imax (imin n ((acct xs a).held)) 0))] ?_
 refine V_ret ?_
 have hsa : isA a = true := (by simpa using hc17)
 exact X_return (nt (imax (imin n ((acct xs a).held)) 0)) rfl ⟨by simp only [tkN, hsa, if_true], ⟨F, (by rw [show tkX xs a n = xs.set j19 (Acc.mk x0.free (x0.held - (imax (imin n ((acct xs a).held)) 0))) from by simp only [tkX, tkN, subH, hsa, if_true, setA_at hj19, hxa]]; exact ⟨hinv33, hFlu18, fun q hq => Nat.lt_of_lt_of_le (hFltu18 q hq) (by omega), gu18, _, _, Du18, ⟨by simp only [List.length_set]; exact hlu18, At.slt hat30⟩, hGu18, hAFu18, hDFu18, hADu18⟩), fun q h => .inl h⟩, hK0⟩
end Go.Al

namespace Go.Al
open Go Go.RowKit Go.Proofs
set_option maxRecDepth 10000 in
theorem slash_spec (F : Nat → Prop) (l : Nat) (xs : List Acc) (cs : List Ci) (a n : Int) (w : World) (h : Led F w l xs cs) : Calls Tryz.prog 90 #[pt l, nt a, nt n] w fun e w' => e = .returned (nt (tkN xs a n)) ∧ (∃ F', Led F' w' l (slX xs a n) (cs) ∧ (∀ q, F' q → F q ∨ w.heap.size ≤ q)) ∧ Keep F w w' := by
 have hFlt := Led.lt h
 have hllt := hFlt _ (Led.at_ h)
 have hinv := Led.inv h
 have htot0 := (tot_mem hinv.2.1).1
 have htot1 := hinv.2.2
 have hK0 : Keep F w w := Keep.refl _ _
 have hzhK0 := Keep.size hK0
 refine enterV Tryz.func90 rfl [pt l, nt a, nt n] 25 rfl rfl rfl ?_
 refine Vr ?_
 refine On 1 [0, 1, 2] ?_
 refine Oer ?_
 refine On 3 [0, 7, 8, 9] ?_
 refine Ok (kL 108 #[(.tmp 7), (.tmp 8), (.tmp 9)] #[31, 3, 3]) 108 #[pt l, nt a, nt n] (some 10) (takes_spec F l xs cs a n _ h) ?_
 rintro _ w1 ⟨rfl, ⟨F3, ho4, hfr5⟩, hk2⟩
 refine ⟨_, rfl, ?_⟩
 have hsz6 := Keep.size hk2
 replace hK0 := Keep.fresh hK0 hk2 (by intro i hi hs; first | exact hs | (exfalso; have h2 := hFlt i hs; omega) | (have h2 := hFlt i hs; show _ ∨ _; omega))
 have lt7 := Led.lt ho4
 refine On 5 [0, 2] ?_
 refine Oe ?_
 refine V_seq ?_
 refine Vs [(0, pt l), (2, nt (tkN xs a n)), (12, .bool (decide (tkN xs a n > 0)))] ?_
 refine V_if (tkN xs a n > 0) (by kernel_rfl) (fun hc8 => ?_) (fun hc8 => ?_)
 ·
  have htx := tkX_tot hinv a n
  obtain ⟨hinvu9, hFlu9, hFltu9, gu9, Au9, capu9, Du9, hatu9, hGu9, hAFu9, hDFu9, hADu9⟩ := ho4
  have hlu9 := hatu9.blk
  have hAu9 := hatu9.sl
  have hlku9 := hlu9.lt
  have hAlu9 := fun q hq => And.intro (hAFu9 q hq).2 (lt7 q (hAFu9 q hq).1)
  have hAltu9 := SlT.lt hAu9
  have hDlu9 := fun q hq => And.intro (hDFu9 q hq).2 (lt7 q (hDFu9 q hq).1)
  have hDltu9 := Grd.lt hGu9
  have hx10u9 := hinvu9.1
  have htotu9 := hinvu9.2.2
  have hgu9lt := hDltu9 _ (Grd.at_ hGu9)
  obtain ⟨x0, hx0⟩ : ∃ x, (tkX xs a n)[0]? = some x := ⟨_, List.getElem?_eq_getElem (by omega)⟩
  obtain ⟨hbf0, hbh0, hbt0, _⟩ := hinvu9.at_ hx0
  have htn := tkN_bnd hinv a n
  have htb := acct_bnd hinv a
  refine V_region ?_
  refine On 3 [2, 15] ?_
  refine Oc 104 (.tmp 15) 0 (.slice Au9 ((tkX xs a n).length) capu9) (some 16) hlu9 rfl ?_
  obtain ⟨b10, o10, L10, T10, rfl, hat10⟩ := SlT.opn hAu9
  have hb10lt := hat10.blk.lt
  have hob11 := hAlu9 b10 ⟨_, rfl, rfl⟩
  have hob12 := hAltu9 b10 ⟨_, rfl, rfl⟩
  have hne13 : ∀ q, Du9 q → q ≠ b10 := fun q hq hs => (fun q h1 h2 => hADu9 q h2 h1) q hq ⟨_, rfl, hs⟩
  have own14 := fun q hq => And.intro (hDlu9 q hq) (hne13 q hq)
  refine Oi (b := b10) (o := o10) (len := (tkX xs a n).length) (cap := capu9) (j := 0) (some 17) 104 (.tmp 16) (.const (Value.int IntKind.i64 0)) 93 2 16 .i64 ?_
  refine On 6 [2, 16, 18] ?_
  refine Oc 3 (.tmp 18) (o10 + 0 * 2) (nt x0.free) (some 19) hat10.blk (At.cell0 hat10 (es_at hx0) rfl) ?_
  have hw15 : IntKind.i64.wrap (x0.free + (tkN xs a n)) = x0.free + (tkN xs a n) := wrp
  refine Os 9 [(2, nt (tkN xs a n)), (16, sl_ b10 o10 ((tkX xs a n).length) capu9), (21, nt (IntKind.i64.wrap (x0.free + (tkN xs a n))))] ?_
  refine Oq (u := nt (IntKind.i64.wrap (x0.free + (tkN xs a n)))) (v := nt (x0.free + (tkN xs a n))) 21 (by rw [hw15]) ?_
  refine Oi (b := b10) (o := o10) (len := (tkX xs a n).length) (cap := capu9) (j := 0) (some 22) 104 (.tmp 16) (.const (Value.int IntKind.i64 0)) 93 2 16 .i64 ?_
  refine Os 11 [(2, nt (tkN xs a n)), (21, nt (x0.free + (tkN xs a n))), (23, .pointer (some ⟨b10, o10 + 0 * 2, none⟩))] ?_
  refine Ts1 (Acc.mk (x0.free + (tkN xs a n)) x0.held : Acc) 0 (nt (x0.free + (tkN xs a n))) hat10 hx0 (by simp [Acc.cells, over]) ?_
  intro w16 hat20 hk18 hz19 hlhx21 hx21
  have hsz22 := Keep.size hk18
  replace hlu9 := hlu9.k1 hk18
  replace hK0 := Keep.fresh hK0 hk18 (by intro i hi hs; have hs2 : i = b10 := hs; first | (exfalso; omega) | (have h9 := (hAFu9 i ⟨_, rfl, hs2⟩).1; rcases hfr5 i h9 with h9 | h9; exact h9; (exfalso; omega)))
  replace hGu9 := Grd.keep hGu9 hk18 (fun q hq hs => by have hs : q = b10 := hs; have g0 := own14 q hq; have g1 := hDltu9 q hq; omega)
  have ht23 : tot ((tkX xs a n).set 0 (Acc.mk (x0.free + (tkN xs a n)) x0.held)) = tot (tkX xs a n) + ((x0.free + (tkN xs a n)) + x0.held) - (x0.free + x0.held) := tot_set _ hx0
  have hinv23 : Inv ((tkX xs a n).set 0 (Acc.mk (x0.free + (tkN xs a n)) x0.held)) := Inv.set hinvu9 hx0 _ (by show 0 ≤ (x0.free + (tkN xs a n)); omega) (by show 0 ≤ x0.held; omega) (by show tot (tkX xs a n) + ((x0.free + (tkN xs a n)) + x0.held) - (x0.free + x0.held) ≤ 1073741824; omega)
  refine Oer ?_
  refine Ose [(6, nt (tkN xs a n))] ?_
  refine V_ret ?_
  exact X_return (nt (tkN xs a n)) rfl ⟨rfl, ⟨F3, (by rw [show slX xs a n = (tkX xs a n).set 0 (Acc.mk (x0.free + (tkN xs a n)) x0.held) from by unfold slX; rw [if_pos hc8]; unfold addF; rw [setA_at (rfl : (0 : Int) = ((0 : Nat) : Int)), acct_at (rfl : (0 : Int) = ((0 : Nat) : Int)) hx0 (by decide)]]; exact ⟨hinv23, hFlu9, fun q hq => Nat.lt_of_lt_of_le (hFltu9 q hq) (by omega), gu9, _, _, Du9, ⟨by simp only [List.length_set]; exact hlu9, At.slt hat20⟩, hGu9, hAFu9, hDFu9, hADu9⟩), hfr5⟩, hK0⟩
 refine V_skip ?_
 refine X_then ?_
 refine Vs [(6, nt (tkN xs a n))] ?_
 refine V_ret ?_
 exact X_return (nt (tkN xs a n)) rfl ⟨rfl, ⟨F3, by rw [show slX xs a n = tkX xs a n from by unfold slX; rw [if_neg hc8]]; exact ho4, hfr5⟩, hK0⟩
end Go.Al

namespace Go.Al
open Go Go.RowKit Go.Proofs
def newX (fs : List Int) (n : Nat) : List Acc := (List.range n).map fun k : Nat => Acc.mk ((fs[k]?).getD 0) 0
theorem newX_len (fs : List Int) (n : Nat) : (newX fs n).length = n := by simp [newX]
theorem newX_succ (fs : List Int) (n : Nat) : newX fs (n + 1) = newX fs n ++ [Acc.mk ((fs[n]?).getD 0) 0] := by simp [newX, List.range_succ]
def okF (fs : List Int) (i : Nat) : Prop := ∀ (k : Nat) (x : Int), k < i → fs[k]? = some x → 0 ≤ x ∧ x ≤ 1073741824
def okP (fs : List Int) : Prop := fs.length ≤ 10 ∧ (∀ x ∈ fs, 0 ≤ x ∧ x ≤ 1073741824) ∧ tot (newX fs 10) ≤ 1073741824
theorem okF_all {fs : List Int} (hl : fs.length ≤ 10) (h : okF fs 10) : ∀ x ∈ fs, 0 ≤ x ∧ x ≤ 1073741824 := by
  intro x hx
  obtain ⟨k, hk, rfl⟩ := List.getElem_of_mem hx
  exact h k _ (by omega) (List.getElem?_eq_getElem hk)
theorem newX_nn {fs : List Int} {i : Nat} (h : okF fs i) : ∀ x ∈ newX fs i, 0 ≤ x.free ∧ 0 ≤ x.held := by
  intro x hx
  simp only [newX, List.mem_map, List.mem_range] at hx
  obtain ⟨k, hk, rfl⟩ := hx
  refine ⟨?_, Int.le_refl _⟩
  show 0 ≤ (fs[k]?).getD 0
  cases hf : fs[k]? with
  | none => exact Int.le_refl _
  | some x => exact (h k x hk hf).1
theorem newX_tot {fs : List Int} : ∀ {i : Nat}, okF fs i → tot (newX fs i) ≤ i * 1073741824
  | 0, _ => by simp [newX, tot]
  | i + 1, h => by
    have ih := newX_tot (i := i) (fun k x hk hx => h k x (by omega) hx)
    have happ : ∀ (a b : List Acc), tot (a ++ b) = tot a + tot b := by
      intro a b
      induction a with
      | nil => simp [tot]
      | cons y l ih => simp only [List.cons_append, tot, ih]; omega
    rw [newX_succ, happ]
    simp only [tot]
    have : (fs[i]?).getD 0 ≤ 1073741824 := by
      cases hf : fs[i]? with
      | none => simp
      | some x => exact (h i x (by omega) hf).2
    omega
set_option maxRecDepth 10000 in
theorem new_spec6 (A : Option Addr) (cap : Nat) (fs : List Int) (w : World) (hA : ArgT w 1 intc A cap fs) (hn : fs.length ≤ 100000) : Calls Tryz.prog 17 #[.slice A fs.length cap] w fun e w' => (okP fs ∧ ∃ l F, e = .returned (.tuple #[pt l, nt 0]) ∧ Led F w' l (newX fs 10) [] ∧ Keep none_ w w' ∧ (∀ q, F q → w.heap.size ≤ q)) ∨ (¬ okP fs ∧ e = .returned (.tuple #[.pointer none, nt 1]) ∧ Keep none_ w w') := by
 have hA0 := hA
 have hK0 : Keep none_ w w := Keep.refl _ _
 have hzhK0 := Keep.size hK0
 refine enterV Tryz.func17 rfl [.slice A fs.length cap] 45 rfl rfl rfl ?_
 refine Vr ?_
 refine On 2 [0] ?_
 refine Oe ?_
 refine V_seq ?_
 refine Vs [(0, .slice A fs.length cap), (9, .bool (decide ((fs.length : Int) > 10)))] ?_
 refine V_if ((fs.length : Int) > 10) (by kernel_rfl) (fun hc1 => ?_) (fun hc1 => ?_)
 ·
  refine Vs [(2, .pointer none), (3, nt 1)] ?_
  refine V_ret ?_
  refine X_ret_then ?_
  exact X_return _ rfl (.inr ⟨fun hh => by have := hh.1; omega, rfl, hK0⟩)
 refine V_skip ?_
 refine X_then ?_
 refine Vr ?_
 refine Ok (kL 38 #[] #[]) 38 #[] (some 10) (new_grd _) ?_
 rintro _ w4 ⟨g6, F7, rfl, ho8, hk5, hge9⟩
 refine ⟨_, rfl, ?_⟩
 have hsz10 := Keep.size hk5
 replace hA := ArgT.keep0 hA hk5
 replace hK0 := hK0.tn hk5
 have own11 : ∀ q, F7 q → w.heap.size ≤ q := fun q hq => by have h1 := hge9 q hq; omega
 have lt12 := Grd.lt ho8
 have hg6lt : g6 < w4.heap.size := Grd.lt ho8 _ (Grd.at_ ho8)
 have hg6ge := hge9 _ (Grd.at_ ho8)
 refine On 2 [0, 11] ?_
 refine OI_box 106 (.tmp 11) (.agg #[.slice none 0 0, pt g6]) [.slice none 0 0, pt g6] (some 12) (by kernel_rfl) (by kernel_rfl) (by kernel_rfl) ?_
 intro b13 w13 e13 hb13 k13 z13
 have hsz14 := Keep.size k13
 replace hA := ArgT.keep0 hA k13
 replace hK0 := hK0.tn k13
 replace ho8 := Grd.keep ho8 k13 nk
 have hb13lt := hb13.lt
 refine On 4 [0, 4] ?_
 refine Oe ?_
 refine V_seq ?_
 refine Vs [(0, .slice A fs.length cap), (4, pt b13), (13, nt 0)] ?_
 refine V_block ?_
 refine V_pick [(0, .slice A fs.length cap), (4, pt b13), (13, nt 0)] rfl ?_
 refine V_loop (fun k wI e => ∃ i : Nat, ∃ A2 : Option Addr, ∃ cap2 : Nat, (k + i = 10) ∧ (Blk wI b13 [.slice A2 (newX fs i).length cap2, pt g6] 106) ∧ (SlT wI 2 Acc.cells A2 cap2 (newX fs i)) ∧ (∀ q, inA A2 q → w13.heap.size ≤ q) ∧ (okF fs i) ∧ Keep (only b13) w13 wI ∧ e = [(0, .slice A fs.length cap), (4, pt b13), (13, nt (i : Int))]) 10 ⟨0, none, 0, by omega, hb13, SlT.nil _ _ _, fun q h => (inA_none h).elim, fun k x h => by omega, Keep.refl _ _, rfl⟩ ?_
 rintro k16 w15 _ ⟨i, A2, cap2, hki, hl2, hA2, ow2, hokf, hk17, rfl⟩
 have hsz18 := Keep.size hk17
 replace hA := ArgT.keep hA hk17 hA0 (fun k hk hs => by have hs : k = b13 := hs; omega)
 replace hK0 := Keep.fr hK0 hk17
 replace ho8 := Grd.keep ho8 hk17 (fun q hq hs => by have hs : q = b13 := hs; have g0 := own11 q hq; have g1 := lt12 q hq; omega)
 have hzhk17 := Keep.size hk17
 have lt2 := SlT.lt hA2
 have hb13lt := hl2.lt
 have hnl := newX_len fs i
 refine Vs [(0, .slice A fs.length cap), (4, pt b13), (13, nt (i : Int)), (14, .bool (decide ((i : Int) < 10)))] ?_
 refine V_seq ?_
 refine V_if ((i : Int) < 10) (by kernel_rfl) (fun hc19 => ?_) (fun hc19 => ?_)
 ·
  refine V_skip ?_
  refine X_then ?_
  refine V_seq ?_
  refine V_block ?_
  refine Vr ?_
  refine On 2 [0, 4, 5, 13] ?_
  refine Oer ?_
  refine On 1 [0, 4, 5, 13, 16] ?_
  refine OI_alloc 93 (.agg #[nt 0, nt 0]) [nt 0, nt 0] (some 6) (by kernel_rfl) (by kernel_rfl) (by kernel_rfl) ?_
  intro b20 w20 e20 hb20 k20 z20
  have hsz21 := Keep.size k20
  replace hl2 := hl2.k0 k20
  replace hA := ArgT.keep0 hA k20
  replace hA2 := hA2.keep0 k20
  replace hK0 := hK0.tn k20
  replace ho8 := Grd.keep ho8 k20 nk
  replace hk17 := hk17.tn k20
  have hb20lt := hb20.lt
  refine OI_set (m := 2) (kd := true) 93 (.tmp 6) (.tmp 16) 0 (.agg #[nt 0, nt 0]) [nt 0, nt 0] none (by kernel_rfl) (by kernel_rfl) (by kernel_rfl) hb20 (by kernel_rfl) (by kernel_rfl) (by kernel_rfl) (Nat.le_of_ble_eq_true (by kernel_rfl)) (by simp [Value.oneCell']) ?_
  intro w22 hb20_25 hk23 hz24
  replace hb20_25 : Blk w22 b20 [nt 0, nt 0] 93 := hb20_25
  have hsz26 := Keep.size hk23
  replace hl2 := hl2.k1 hk23
  replace hA := ArgT.keep hA hk23 hA0 (fun k hk hs => by have hs : k = b20 := hs; omega)
  replace hA2 := hA2.keep hk23 (fun q hq hs => by have hs : q = b20 := hs; have g0 := ow2 q hq; have g1 := lt2 q hq; omega)
  replace hK0 := Keep.fr hK0 hk23
  replace ho8 := Grd.keep ho8 hk23 (fun q hq hs => by have hs : q = b20 := hs; have g0 := own11 q hq; have g1 := lt12 q hq; omega)
  replace hk17 := Keep.fr hk17 hk23
  refine Oe ?_
  refine V_seq ?_
  refine Vs [(0, .slice A fs.length cap), (4, pt b13), (5, nt (i : Int)), (6, pt b20), (13, nt (i : Int)), (20, .bool (decide ((i : Int) < (fs.length : Int))))] ?_
  refine V_if ((i : Int) < (fs.length : Int)) (by kernel_rfl) (fun hc27 => ?_) (fun hc27 => ?_)
  ·
   refine V_region ?_
   refine On 2 [0, 4, 6, 13, 21, 22] ?_
   obtain ⟨b28, o28, L28, rfl, hat28⟩ := ArgT.open_ hA (by first | omega | (simp only [List.length_map]; omega) | (simp; done) | (simp; omega))
   have hb28lt0 := ArgT.lt hA0 (by first | omega | (simp only [List.length_map]; omega) | (simp; done) | (simp; omega))
   have hb28lt := hat28.blk.lt
   refine Oi (b := b28) (o := o28) (len := fs.length) (cap := cap) (j := i) (some 23) 49 (.tmp 21) (.tmp 22) 3 1 8 .i64 ?_
   obtain ⟨x29, hx30⟩ := exAt (xs := fs) (i := i)
   refine OI_cellR 3 (.tmp 23) (o28 + i * 1) (nt x29) (some 24) (by kernel_rfl) (by kernel_rfl) hat28.blk (m := 1) (by kernel_rfl) (AtR.cell0 hat28 (es_at hx30) rfl) ?_
   refine On 5 [0, 4, 6, 13, 24, 25] ?_
   refine Ot 3 (.tmp 25) (.tmp 24) 0 (nt x29) hb20_25 ?_
   intro w31 hb20_34 hk32 hz33
   replace hb20_34 : Blk w31 b20 [nt x29, nt 0] 93 := hb20_34
   have hsz35 := Keep.size hk32
   replace hl2 := hl2.k1 hk32
   replace hat28 := hat28.keep hk32 (by show ¬ (_ = _); omega)
   replace hA2 := hA2.keep hk32 (fun q hq hs => by have hs : q = b20 := hs; have g0 := ow2 q hq; have g1 := lt2 q hq; omega)
   replace hK0 := Keep.fr hK0 hk32
   replace ho8 := Grd.keep ho8 hk32 (fun q hq hs => by have hs : q = b20 := hs; have g0 := own11 q hq; have g1 := lt12 q hq; omega)
   replace hk17 := Keep.fr hk17 hk32
   refine Oe ?_
   refine V_seq ?_
   refine Vr ?_
   refine On 1 [0, 4, 6, 13, 26] ?_
   refine Oc 3 (.tmp 26) 0 (nt x29) (some 27) hb20_34 rfl ?_
   refine Ok (kL 39 #[(.tmp 27)] #[3]) 39 #[nt x29] (some 28) (isAmount_spec x29 _) ?_
   rintro _ w31 ⟨rfl, rfl⟩
   refine ⟨_, rfl, ?_⟩
   refine Ose [(0, sl_ b28 o28 fs.length cap), (4, pt b13), (6, pt b20), (13, nt (i : Int)), (29, .bool (!(decide (0 ≤ x29 ∧ x29 ≤ 1073741824))))] ?_
   refine V_not (0 ≤ x29 ∧ x29 ≤ 1073741824) (by kernel_rfl) (fun hc41 => ?_) (fun hc41 => ?_)
   ·
    refine Vs [(2, .pointer none), (3, nt 1)] ?_
    refine V_ret ?_
    refine X_ret_then ?_
    refine X_ret_block ?_
    refine X_ret_then ?_
    refine X_ret_then ?_
    refine X_ret_block ?_
    refine X_ret_then ?_
    exact X_return _ rfl (.inr ⟨fun hh => hc41 (hh.2.1 _ (List.mem_of_getElem? hx30)), rfl, hK0⟩)
   refine V_skip ?_
   refine X_then ?_
   refine V_draws (acts [6, 7, 10]) (fun q => q ≠ b13 ∧ q ≠ b20) [[5, 6, 1, 2, 3, 4, 7, 0, 8, 9, 10]] (by kernel_rfl) (by repeat first | exact sure_body (by rintro _ _ (⟨_, _, _, h, _⟩ | ⟨_, h, _⟩) <;> exact ⟨_, h⟩) | refine sure_then ?_ | refine sure_block ?_ | refine sure_join ?_) (by kernel_rfl) ?_
   intro w43 hk42 he44 L hL45
   have hsz46 := Keep.size hk42
   replace hl2 := hl2.k0 hk42
   replace hb20_34 := hb20_34.k0 hk42
   replace hat28 := hat28.keep hk42 id
   replace hA2 := hA2.keep0 hk42
   replace hK0 := hK0.tn hk42
   replace ho8 := Grd.keep ho8 hk42 nk
   replace hk17 := hk17.tn hk42
   have qhl2 := hl2
   have qhb20_34 := hb20_34
   have qhat28 := hat28
   have K47 : Keep (fun q => q ≠ b13 ∧ q ≠ b20) w43 w43 := Keep.refl _ _
   obtain rfl := List.mem_singleton.1 hL45
   refine Ga 93 (.tmp 6) 0 [nt x29, nt 0] (some 35) 2 qhb20_34 (by show ¬ (b20 ≠ b13 ∧ b20 ≠ b20); omega) rfl rfl ?_
   refine GI_slit (E := 93) (zv := .agg #[nt 0, nt 0]) (sz := 2) (by_ := 16) 104 1 #[(0, (Operand.tmp 35))] [.agg #[nt x29, nt 0]] [nt x29, nt 0] (some 36) (by kernel_rfl) (by kernel_rfl) K47 (by kernel_rfl) (by kernel_rfl) (by omega) rfl (by omega) (by intro v hv; simp only [List.mem_cons, List.not_mem_nil, or_false] at hv; rcases hv with rfl <;> rfl) (by kernel_rfl) rfl ?_
   intro b48 w48 e48 hb48 k48 z48 K49
   have hsz50 := Keep.size k48
   replace hl2 := hl2.k0 k48
   replace hb20_34 := hb20_34.k0 k48
   replace hat28 := hat28.keep k48 id
   replace hA2 := hA2.keep0 k48
   replace hK0 := hK0.tn k48
   replace ho8 := Grd.keep ho8 k48 nk
   replace hk17 := hk17.tn k48
   have hb48lt := hb48.lt
   refine Gs [4, 7, 0, 8, 9, 10] [(0, sl_ b28 o28 fs.length cap), (4, pt b13), (13, nt (i : Int)), (33, pt b13), (36, sl_ b48 0 1 1)] ?_
   refine Gc 104 (.tmp 33) 0 (.slice A2 ((newX fs i).length) cap2) (some 34) qhl2 (by show ¬ (b13 ≠ b13 ∧ b13 ≠ b20); omega) rfl ?_
   refine GI_append (t := 104) (at2 := 104) (E := 93) (E2 := 93) (sz := 2) (by_ := 16) (zv := .agg #[nt 0, nt 0]) (m := (newX fs i).length) (k := 1) (.tmp 34) (.tmp 36) (.slice A2 ((newX fs i).length) cap2) (sl_ b48 0 1 1) (some 37) (by kernel_rfl) (by kernel_rfl) (by kernel_rfl) (by kernel_rfl) (by kernel_rfl) (by kernel_rfl) (by kernel_rfl) (by kernel_rfl) (SlT.slr hA2) (slr_one hb48 (Acc.len (Acc.mk x29 0))) (Acc.one (Acc.mk x29 0)) (by first | omega | (simp only [List.length_nil]; omega)) (by omega) (by first | omega | (simp only [List.length_nil]; omega)) (by omega) ?_
   intro vv9 w51 hap
   obtain ⟨A51, cap51, rfl, hA51, hk51, own51x⟩ := app_one (f := Acc.cells) (xs := (newX fs i)) (x := (Acc.mk x29 0)) (A := A2) (cap := cap2) hap (fun x _ => Acc.len x) (Acc.len _)
   have own51 : ∀ q, inA A51 q → w13.heap.size ≤ q := fun q hq => by rcases own51x q hq with h | h; exact ow2 q h; (show w13.heap.size ≤ q; omega)
   refine ⟨Keep.fresh K49 hk51 (by intro i hi hs; have h1 := ow2 i hs; have h2 := lt2 i hs; show i ≠ b13 ∧ i ≠ b20; omega), ?_⟩
   have K52 := Keep.fresh K49 hk51 (by intro i hi hs; have h1 := ow2 i hs; have h2 := lt2 i hs; show i ≠ b13 ∧ i ≠ b20; omega)
   have hsz53 := Keep.size hk51
   replace hl2 := hl2.keep hk51 (fun hs => by have h1 := ow2 _ hs; have h2 := lt2 _ hs; omega)
   replace hb20_34 := hb20_34.keep hk51 (fun hs => by have h1 := ow2 _ hs; have h2 := lt2 _ hs; omega)
   replace hat28 := hat28.keep hk51 (fun hs => by have h1 := ow2 _ hs; have h2 := lt2 _ hs; omega)
   replace hK0 := Keep.fresh hK0 hk51 (by intro i hi hs; first | exact hs | (exfalso; have h1 := ow2 i hs; have h2 := lt2 i hs; omega) | (have h1 := ow2 i hs; have h2 := lt2 i hs; show _ ∨ _; omega))
   replace ho8 := Grd.keep ho8 hk51 (fun q hq hs => by have g0 := own11 q hq; have g1 := lt12 q hq; have h1 := ow2 q hs; have h2 := lt2 q hs; omega)
   replace hk17 := Keep.fresh hk17 hk51 (by intro i hi hs; first | exact hs | (exfalso; have h1 := ow2 i hs; have h2 := lt2 i hs; omega) | (have h1 := ow2 i hs; have h2 := lt2 i hs; show _ ∨ _; omega))
   have lt51 := SlT.lt hA51
   refine Gs [10] [(0, sl_ b28 o28 fs.length cap), (4, pt b13), (13, nt (i : Int)), (37, .slice A51 (((newX fs i) ++ [Acc.mk x29 0]).length) cap51), (39, pt b13)] ?_
   refine GI_final 10 (by kernel_rfl) (by kernel_rfl) ?_
   refine Ot 104 (.tmp 39) (.tmp 37) 0 (.slice A51 (((newX fs i) ++ [Acc.mk x29 0]).length) cap51) hl2 ?_
   intro w54 hb13_57 hk55 hz56
   replace hb13_57 : Blk w54 b13 [.slice A51 (((newX fs i) ++ [Acc.mk x29 0]).length) cap51, pt g6] 106 := hb13_57
   have hsz58 := Keep.size hk55
   replace hb20_34 := hb20_34.k1 hk55
   replace hat28 := hat28.keep hk55 (by show ¬ (_ = _); omega)
   replace hA51 := hA51.keep hk55 (fun q hq hs => by have hs : q = b13 := hs; have g0 := own51 q hq; have g1 := lt51 q hq; omega)
   replace hK0 := Keep.fr hK0 hk55
   replace ho8 := Grd.keep ho8 hk55 (fun q hq hs => by have hs : q = b13 := hs; have g0 := own11 q hq; have g1 := lt12 q hq; omega)
   replace hk17 := Keep.fr hk17 hk55
   refine OI_end rfl ?_
   refine X_block ?_
   refine X_then ?_
   refine V_region ?_
   have hw59 : IntKind.i64.wrap ((i : Int) + 1) = ((i + 1 : Nat) : Int) := wrp
   refine Os 1 [(0, sl_ b28 o28 fs.length cap), (4, pt b13), (40, nt (IntKind.i64.wrap ((i : Int) + 1)))] ?_
   refine Oq (u := nt (IntKind.i64.wrap ((i : Int) + 1))) (v := nt ((i + 1 : Nat) : Int)) 40 (by rw [hw59]) ?_
   refine Os 2 [(0, sl_ b28 o28 fs.length cap), (4, pt b13), (13, nt ((i + 1 : Nat) : Int))] ?_
   refine OI_end rfl ?_
   have hns : newX fs (i + 1) = newX fs i ++ [Acc.mk x29 0] := (by rw [newX_succ, show (fs[i]?).getD 0 = x29 from by rw [hx30]; rfl])
   exact V_again (k16 - 1) (by omega) [(0, sl_ b28 o28 fs.length cap), (4, pt b13), (13, nt ((i + 1 : Nat) : Int))] rfl ⟨i + 1, A51, cap51, by omega, by rw [hns]; exact hb13_57, by rw [hns]; exact hA51, own51, fun k x hk hx => by rcases Nat.lt_or_ge k i with h9 | h9; exact hokf k x h9 hx; (obtain rfl : k = i := by omega); (rw [hx30] at hx; cases hx; exact hc41), hk17, rfl⟩
  refine V_skip ?_
  refine X_then ?_
  refine V_seq ?_
  refine Vr ?_
  refine On 1 [0, 4, 6, 13, 26] ?_
  refine Oc 3 (.tmp 26) 0 (nt 0) (some 27) hb20_25 rfl ?_
  refine Ok (kL 39 #[(.tmp 27)] #[3]) 39 #[nt 0] (some 28) (isAmount_spec 0 _) ?_
  rintro _ w22 ⟨rfl, rfl⟩
  refine ⟨_, rfl, ?_⟩
  refine Ose [(0, .slice A fs.length cap), (4, pt b13), (6, pt b20), (13, nt (i : Int)), (29, .bool (!(decide (0 ≤ (0 : Int) ∧ 0 ≤ 1073741824))))] ?_
  refine V_not (0 ≤ (0 : Int) ∧ 0 ≤ 1073741824) (by kernel_rfl) (fun hc65 => ?_) (fun hc65 => ?_)
  ·
   exact (by omega : False).elim
  refine V_skip ?_
  refine X_then ?_
  refine V_draws (acts [6, 7, 10]) (fun q => q ≠ b13 ∧ q ≠ b20) [[5, 6, 1, 2, 3, 4, 7, 0, 8, 9, 10]] (by kernel_rfl) (by repeat first | exact sure_body (by rintro _ _ (⟨_, _, _, h, _⟩ | ⟨_, h, _⟩) <;> exact ⟨_, h⟩) | refine sure_then ?_ | refine sure_block ?_ | refine sure_join ?_) (by kernel_rfl) ?_
  intro w67 hk66 he68 L hL69
  have hsz70 := Keep.size hk66
  replace hl2 := hl2.k0 hk66
  replace hb20_25 := hb20_25.k0 hk66
  replace hA := ArgT.keep0 hA hk66
  replace hA2 := hA2.keep0 hk66
  replace hK0 := hK0.tn hk66
  replace ho8 := Grd.keep ho8 hk66 nk
  replace hk17 := hk17.tn hk66
  have qhl2 := hl2
  have qhb20_25 := hb20_25
  have K71 : Keep (fun q => q ≠ b13 ∧ q ≠ b20) w67 w67 := Keep.refl _ _
  obtain rfl := List.mem_singleton.1 hL69
  refine Ga 93 (.tmp 6) 0 [nt 0, nt 0] (some 35) 2 qhb20_25 (by show ¬ (b20 ≠ b13 ∧ b20 ≠ b20); omega) rfl rfl ?_
  refine GI_slit (E := 93) (zv := .agg #[nt 0, nt 0]) (sz := 2) (by_ := 16) 104 1 #[(0, (Operand.tmp 35))] [.agg #[nt 0, nt 0]] [nt 0, nt 0] (some 36) (by kernel_rfl) (by kernel_rfl) K71 (by kernel_rfl) (by kernel_rfl) (by omega) rfl (by omega) (by intro v hv; simp only [List.mem_cons, List.not_mem_nil, or_false] at hv; rcases hv with rfl <;> rfl) (by kernel_rfl) rfl ?_
  intro b72 w72 e72 hb72 k72 z72 K73
  have hsz74 := Keep.size k72
  replace hl2 := hl2.k0 k72
  replace hb20_25 := hb20_25.k0 k72
  replace hA := ArgT.keep0 hA k72
  replace hA2 := hA2.keep0 k72
  replace hK0 := hK0.tn k72
  replace ho8 := Grd.keep ho8 k72 nk
  replace hk17 := hk17.tn k72
  have hb72lt := hb72.lt
  refine Gs [4, 7, 0, 8, 9, 10] [(0, .slice A fs.length cap), (4, pt b13), (13, nt (i : Int)), (33, pt b13), (36, sl_ b72 0 1 1)] ?_
  refine Gc 104 (.tmp 33) 0 (.slice A2 ((newX fs i).length) cap2) (some 34) qhl2 (by show ¬ (b13 ≠ b13 ∧ b13 ≠ b20); omega) rfl ?_
  refine GI_append (t := 104) (at2 := 104) (E := 93) (E2 := 93) (sz := 2) (by_ := 16) (zv := .agg #[nt 0, nt 0]) (m := (newX fs i).length) (k := 1) (.tmp 34) (.tmp 36) (.slice A2 ((newX fs i).length) cap2) (sl_ b72 0 1 1) (some 37) (by kernel_rfl) (by kernel_rfl) (by kernel_rfl) (by kernel_rfl) (by kernel_rfl) (by kernel_rfl) (by kernel_rfl) (by kernel_rfl) (SlT.slr hA2) (slr_one hb72 (Acc.len (Acc.mk 0 0))) (Acc.one (Acc.mk 0 0)) (by first | omega | (simp only [List.length_nil]; omega)) (by omega) (by first | omega | (simp only [List.length_nil]; omega)) (by omega) ?_
  intro vv9 w75 hap
  obtain ⟨A75, cap75, rfl, hA75, hk75, own75x⟩ := app_one (f := Acc.cells) (xs := (newX fs i)) (x := (Acc.mk 0 0)) (A := A2) (cap := cap2) hap (fun x _ => Acc.len x) (Acc.len _)
  have own75 : ∀ q, inA A75 q → w13.heap.size ≤ q := fun q hq => by rcases own75x q hq with h | h; exact ow2 q h; (show w13.heap.size ≤ q; omega)
  refine ⟨Keep.fresh K73 hk75 (by intro i hi hs; have h1 := ow2 i hs; have h2 := lt2 i hs; show i ≠ b13 ∧ i ≠ b20; omega), ?_⟩
  have K76 := Keep.fresh K73 hk75 (by intro i hi hs; have h1 := ow2 i hs; have h2 := lt2 i hs; show i ≠ b13 ∧ i ≠ b20; omega)
  have hsz77 := Keep.size hk75
  replace hl2 := hl2.keep hk75 (fun hs => by have h1 := ow2 _ hs; have h2 := lt2 _ hs; omega)
  replace hb20_25 := hb20_25.keep hk75 (fun hs => by have h1 := ow2 _ hs; have h2 := lt2 _ hs; omega)
  replace hA := ArgT.keep hA hk75 hA0 (fun k hk hs => by have h1 := ow2 k hs; have h2 := lt2 k hs; omega)
  replace hK0 := Keep.fresh hK0 hk75 (by intro i hi hs; first | exact hs | (exfalso; have h1 := ow2 i hs; have h2 := lt2 i hs; omega) | (have h1 := ow2 i hs; have h2 := lt2 i hs; show _ ∨ _; omega))
  replace ho8 := Grd.keep ho8 hk75 (fun q hq hs => by have g0 := own11 q hq; have g1 := lt12 q hq; have h1 := ow2 q hs; have h2 := lt2 q hs; omega)
  replace hk17 := Keep.fresh hk17 hk75 (by intro i hi hs; first | exact hs | (exfalso; have h1 := ow2 i hs; have h2 := lt2 i hs; omega) | (have h1 := ow2 i hs; have h2 := lt2 i hs; show _ ∨ _; omega))
  have lt75 := SlT.lt hA75
  refine Gs [10] [(0, .slice A fs.length cap), (4, pt b13), (13, nt (i : Int)), (37, .slice A75 (((newX fs i) ++ [Acc.mk 0 0]).length) cap75), (39, pt b13)] ?_
  refine GI_final 10 (by kernel_rfl) (by kernel_rfl) ?_
  refine Ot 104 (.tmp 39) (.tmp 37) 0 (.slice A75 (((newX fs i) ++ [Acc.mk 0 0]).length) cap75) hl2 ?_
  intro w78 hb13_81 hk79 hz80
  replace hb13_81 : Blk w78 b13 [.slice A75 (((newX fs i) ++ [Acc.mk 0 0]).length) cap75, pt g6] 106 := hb13_81
  have hsz82 := Keep.size hk79
  replace hb20_25 := hb20_25.k1 hk79
  replace hA := ArgT.keep hA hk79 hA0 (fun k hk hs => by have hs : k = b13 := hs; omega)
  replace hA75 := hA75.keep hk79 (fun q hq hs => by have hs : q = b13 := hs; have g0 := own75 q hq; have g1 := lt75 q hq; omega)
  replace hK0 := Keep.fr hK0 hk79
  replace ho8 := Grd.keep ho8 hk79 (fun q hq hs => by have hs : q = b13 := hs; have g0 := own11 q hq; have g1 := lt12 q hq; omega)
  replace hk17 := Keep.fr hk17 hk79
  refine OI_end rfl ?_
  refine X_block ?_
  refine X_then ?_
  refine V_region ?_
  have hw83 : IntKind.i64.wrap ((i : Int) + 1) = ((i + 1 : Nat) : Int) := wrp
  refine Os 1 [(0, .slice A fs.length cap), (4, pt b13), (40, nt (IntKind.i64.wrap ((i : Int) + 1)))] ?_
  refine Oq (u := nt (IntKind.i64.wrap ((i : Int) + 1))) (v := nt ((i + 1 : Nat) : Int)) 40 (by rw [hw83]) ?_
  refine Os 2 [(0, .slice A fs.length cap), (4, pt b13), (13, nt ((i + 1 : Nat) : Int))] ?_
  refine OI_end rfl ?_
  have hns : newX fs (i + 1) = newX fs i ++ [Acc.mk 0 0] := (by rw [newX_succ, show (fs[i]?).getD 0 = 0 from by rw [List.getElem?_eq_none (by omega)]; rfl])
  exact V_again (k16 - 1) (by omega) [(0, .slice A fs.length cap), (4, pt b13), (13, nt ((i + 1 : Nat) : Int))] rfl ⟨i + 1, A75, cap75, by omega, by rw [hns]; exact hb13_81, by rw [hns]; exact hA75, own75, fun k x hk hx => by rcases Nat.lt_or_ge k i with h9 | h9; exact hokf k x h9 hx; (obtain rfl : k = i := by omega); (rw [List.getElem?_eq_none (by omega)] at hx; cases hx), hk17, rfl⟩
 refine V_exit ?_
 refine X_exit_then ?_
 refine X_exit_then ?_
 refine X_exit_here ?_
 refine X_then ?_
 refine V_seq ?_
 refine Vr ?_
 refine On 1 [4, 41] ?_
 obtain rfl : i = 10 := by omega
 have hnn := newX_nn hokf
 have htl := newX_tot hokf
 refine Ok (kL 40 #[(.tmp 41)] #[31]) 40 #[pt b13] (some 42) (issued_at b13 cap2 A2 _ (newX fs 10) _ hl2 hA2 hnn (by omega) (by rw [newX_len]; omega)) ?_
 rintro _ w84 ⟨rfl, hk85⟩
 refine ⟨_, rfl, ?_⟩
 have hsz86 := Keep.size hk85
 replace hl2 := hl2.k0 hk85
 replace hA := ArgT.keep0 hA hk85
 replace hA2 := hA2.keep0 hk85
 replace hK0 := hK0.tn hk85
 replace ho8 := Grd.keep ho8 hk85 nk
 refine Ose [(4, pt b13), (43, .bool (decide (tot (newX fs 10) > 1073741824)))] ?_
 refine V_if (tot (newX fs 10) > 1073741824) (by kernel_rfl) (fun hc87 => ?_) (fun hc87 => ?_)
 ·
  refine Vs [(2, .pointer none), (3, nt 1)] ?_
  refine V_ret ?_
  refine X_ret_then ?_
  exact X_return _ rfl (.inr ⟨fun hh => by have := hh.2.2; omega, rfl, hK0⟩)
 refine V_skip ?_
 refine X_then ?_
 refine Vs [(2, pt b13), (3, nt 0)] ?_
 refine V_ret ?_
 exact X_return _ rfl (.inl ⟨⟨by omega, okF_all (by omega) hokf, by omega⟩, b13, fun q => w.heap.size ≤ q ∧ q < w84.heap.size, rfl, ⟨⟨newX_len _ _, newX_nn hokf, by omega⟩, ⟨by omega, by omega⟩, fun q hq => hq.2, g6, A2, cap2, F7, ⟨hl2, hA2⟩, ho8, fun q hq => ⟨⟨by have h1 := ow2 q hq; omega, by have h1 := lt2 q hq; omega⟩, by have h1 := ow2 q hq; omega⟩, fun q hq => ⟨⟨by have h1 := own11 q hq; omega, by have h1 := lt12 q hq; omega⟩, by have h1 := lt12 q hq; omega⟩, fun q h1 h2 => by have h3 := ow2 q h1; have h4 := lt12 q h2; omega⟩, hK0, fun q hq => hq.1⟩)
end Go.Al

namespace Go.Al
open Go Go.RowKit Go.Proofs
theorem Blk.ne {w : World} {a b : Nat} {L L' : List Value} {t t' : TypeId} (h : Blk w a L t) (h' : Blk w b L' t') (ht : t ≠ t') : a ≠ b := fun e => ht (by subst e; exact (h.inj h').2)
structure PollS where
  track : Int
  t : Tly
  state : Int
  stop : Int
def PollS.cells (p : PollS) : List Value := [nt p.track, nt p.t.a, nt p.t.n, nt p.t.s, nt p.state, nt p.stop]
structure DelS where
  to : Int
  level : Int
  n : Int
def DelS.cells (d : DelS) : List Value := [nt d.to, nt d.level, nt d.n]
structure RecS where
  d : Option DelS
  got : Wgt
  till : Int
  n : Int
def RecS.zero : RecS := ⟨none, ⟨0, 0⟩, 0, 0⟩
def RecS.cells (dp : Option Addr) (r : RecS) : List Value := [.pointer dp, nt r.got.v, nt r.got.c, nt r.till, nt r.n]
structure VS where
  ps : List (Option PollS)
  cs : List GV.Ci
  rc : Int → Int → RecS
structure VP where
  gv : Nat
  gr : Nat
  pp : List (Option Addr)
  rs : List GR.Ci
def okD (r : RecS) : Prop := ∀ d, r.d = some d → (0 ≤ d.to ∧ d.to < 10) ∧ (0 ≤ d.level ∧ d.level ≤ 6) ∧ (0 ≤ d.n ∧ d.n ≤ 1073741824)
structure VS.Inv (s : VS) : Prop where
  len : s.ps.length = 12
  votes : ∀ c ∈ s.cs, (0 ≤ c.a ∧ c.a < 10) ∧ (0 ≤ c.b ∧ c.b < 12) ∧ okV c.v ∧ ∃ p, s.ps[c.b.toNat]? = some (some p)
  dels : ∀ a t, okD (s.rc a t)
def VS.setP (s : VS) (i : Nat) (p : PollS) : VS := { s with ps := s.ps.set i (some p) }
def RecB (M : Nat → Prop) (w : World) (q : Nat) (r : RecS) : Prop := ∃ dp, Blk w q (RecS.cells dp r) 232 ∧ (r.d = none → dp = none) ∧ (∀ d, r.d = some d → ∃ b, dp = some ⟨b, 0, none⟩ ∧ Blk w b d.cells 254 ∧ M b)
structure VotX (F1 F2 M : Nat → Prop) (w : World) (v : Nat) (P : VP) (s : VS) : Prop where
  inv : s.Inv
  gv : GV.Grd F1 w P.gv s.cs
  gr : GR.Grd F2 w P.gr P.rs
  mv : M v
  lt : ∀ q, M q → q < w.heap.size
  d12 : ∀ q, F1 q → ¬ F2 q
  d1 : ∀ q, F1 q → ¬ M q
  d2 : ∀ q, F2 q → ¬ M q
  len : P.pp.length = 12
  blk : Blk w v (P.pp.map Value.pointer ++ [.pointer (some ⟨P.gv, 0, none⟩), .pointer (some ⟨P.gr, 0, none⟩)]) 130
  polls : ∀ i : Nat, i < 12 → (P.pp[i]? = some none ∧ s.ps[i]? = some none) ∨ ∃ b p, P.pp[i]? = some (some ⟨b, 0, none⟩) ∧ s.ps[i]? = some (some p) ∧ Blk w b p.cells 167 ∧ M b
  pinj : ∀ (i j b : Nat), P.pp[i]? = some (some ⟨b, 0, none⟩) → P.pp[j]? = some (some ⟨b, 0, none⟩) → i = j
  keys : ∀ c ∈ P.rs, (0 ≤ c.a ∧ c.a < 10) ∧ (0 ≤ c.b ∧ c.b < 4)
  recs : ∀ a t, (GR.getC a t P.rs = none ∧ s.rc a t = RecS.zero) ∨ ∃ q, GR.getC a t P.rs = some (some ⟨q, 0, none⟩) ∧ RecB M w q (s.rc a t) ∧ M q
  rinj : ∀ (a t a' t' : Int) (q : Nat), GR.getC a t P.rs = some (some ⟨q, 0, none⟩) → GR.getC a' t' P.rs = some (some ⟨q, 0, none⟩) → a = a' ∧ t = t'
def Vot (F : Nat → Prop) (w : World) (v : Nat) (P : VP) (s : VS) : Prop := ∃ F1 F2 M, VotX F1 F2 M w v P s ∧ (∀ q, F1 q → F q) ∧ (∀ q, F2 q → F q) ∧ (∀ q, M q → F q) ∧ (∀ q, F q → q < w.heap.size)
theorem Vot.lt {F : Nat → Prop} {w : World} {v : Nat} {P : VP} {s : VS} (h : Vot F w v P s) : ∀ q, F q → q < w.heap.size := by
  obtain ⟨_, _, _, _, _, _, _, h⟩ := h; exact h
theorem Vot.at_ {F : Nat → Prop} {w : World} {v : Nat} {P : VP} {s : VS} (h : Vot F w v P s) : F v := by
  obtain ⟨_, _, _, h, _, _, h3, _⟩ := h; exact h3 _ h.mv
theorem Vot.inv {F : Nat → Prop} {w : World} {v : Nat} {P : VP} {s : VS} (h : Vot F w v P s) : s.Inv := by
  obtain ⟨_, _, _, h, _⟩ := h; exact h.inv
theorem RecB.keep {S M : Nat → Prop} {w w' : World} {q : Nat} {r : RecS} (h : RecB M w q r) (k : Keep S w w') (h1 : ¬ S q) (h2 : ∀ b, M b → ¬ S b) : RecB M w' q r := by
  obtain ⟨dp, hb, hn, hs⟩ := h
  refine ⟨dp, hb.keep k h1, hn, fun d hd => ?_⟩
  obtain ⟨b, e, hb', hM⟩ := hs d hd
  exact ⟨b, e, hb'.keep k (h2 b hM), hM⟩
theorem RecB.quiet {M : Nat → Prop} {N : Nat} {w w' : World} {q : Nat} {r : RecS} (h : RecB M w q r) (k : Keep (lb N w) w w') : RecB M w' q r := by
  obtain ⟨dp, hb, hn, hs⟩ := h
  refine ⟨dp, hb.quiet k, hn, fun d hd => ?_⟩
  obtain ⟨b, e, hb', hM⟩ := hs d hd
  exact ⟨b, e, hb'.quiet k, hM⟩
theorem RecB.mono {M M' : Nat → Prop} {w : World} {q : Nat} {r : RecS} (h : RecB M w q r) (hM : ∀ b, M b → M' b) : RecB M' w q r := by
  obtain ⟨dp, hb, hn, hs⟩ := h
  refine ⟨dp, hb, hn, fun d hd => ?_⟩
  obtain ⟨b, e, hb', h⟩ := hs d hd
  exact ⟨b, e, hb', hM b h⟩
theorem RecB.keep1 {M : Nat → Prop} {w w' : World} {q b : Nat} {r : RecS} (h : RecB M w q r) (k : Keep (only b) w w') {L : List Value} {t : TypeId} (hb : Blk w b L t) (hq : q ≠ b) (ht : t ≠ 254) : RecB M w' q r := by
  obtain ⟨dp, hb', hn, hs⟩ := h
  refine ⟨dp, hb'.keep k hq, hn, fun d hd => ?_⟩
  obtain ⟨c, e, hc, hM⟩ := hs d hd
  exact ⟨c, e, hc.keep k (Blk.ne hc hb (fun e => ht e.symm)), hM⟩
theorem VotX.keepM {F1 F2 M F1' F2' M' : Nat → Prop} {w w' : World} {v : Nat} {P : VP} {s : VS} (h : VotX F1 F2 M w v P s) (S : Nat → Prop) (k : Keep S w w') (hS : ∀ q, M q → ¬ S q) {cs : List GV.Ci} (hi : ({ s with cs := cs } : VS).Inv) (hM : ∀ q, M q → M' q) (hlt : ∀ q, M' q → q < w'.heap.size)
    (h1 : GV.Grd F1' w' P.gv cs) (h2 : GR.Grd F2' w' P.gr P.rs) (d12 : ∀ q, F1' q → ¬ F2' q) (d1 : ∀ q, F1' q → ¬ M' q) (d2 : ∀ q, F2' q → ¬ M' q) : VotX F1' F2' M' w' v P { s with cs := cs } where
  inv := hi
  gv := h1
  gr := h2
  mv := hM _ h.mv
  lt := hlt
  d12 := d12
  d1 := d1
  d2 := d2
  len := h.len
  blk := h.blk.keep k (hS _ h.mv)
  polls := fun i hi => by
    rcases h.polls i hi with h | ⟨b, p, e1, e2, hb, hm⟩
    · exact .inl h
    · exact .inr ⟨b, p, e1, e2, hb.keep k (hS _ hm), hM _ hm⟩
  pinj := h.pinj
  keys := h.keys
  recs := fun a t => by
    rcases h.recs a t with h | ⟨q, e, hr, hm⟩
    · exact .inl h
    · exact .inr ⟨q, e, (hr.keep k (hS _ hm) hS).mono hM, hM _ hm⟩
  rinj := h.rinj
theorem Vot.keep {S F : Nat → Prop} {w w' : World} {v : Nat} {P : VP} {s : VS} (h : Vot F w v P s) (k : Keep S w w') (hS : ∀ q, F q → ¬ S q) : Vot F w' v P s := by
  obtain ⟨F1, F2, M, h, h1, h2, h3, h4⟩ := h
  exact ⟨F1, F2, M, h.keepM S k (fun q hq => hS q (h3 q hq)) h.inv (fun _ h => h) (fun q hq => Nat.lt_of_lt_of_le (h.lt q hq) k.size) (h.gv.keep k (fun q hq => hS q (h1 q hq))) (h.gr.keep k (fun q hq => hS q (h2 q hq))) h.d12 h.d1 h.d2, h1, h2, h3, fun q hq => Nat.lt_of_lt_of_le (h4 q hq) k.size⟩
theorem Vot.quiet {N : Nat} {F : Nat → Prop} {w w' : World} {v : Nat} {P : VP} {s : VS} (h : Vot F w v P s) (k : Keep (lb N w) w w') : Vot F w' v P s := by
  obtain ⟨F1, F2, M, h, h1, h2, h3, h4⟩ := h
  refine ⟨F1, F2, M, ⟨h.inv, h.gv.quiet k, h.gr.quiet k, h.mv, fun q hq => Nat.lt_of_lt_of_le (h.lt q hq) k.size, h.d12, h.d1, h.d2, h.len, h.blk.quiet k, fun i hi => ?_, h.pinj, h.keys, fun a t => ?_, h.rinj⟩, h1, h2, h3, fun q hq => Nat.lt_of_lt_of_le (h4 q hq) k.size⟩
  · rcases h.polls i hi with h | ⟨b, p, e1, e2, hb, hm⟩
    · exact .inl h
    · exact .inr ⟨b, p, e1, e2, hb.quiet k, hm⟩
  · rcases h.recs a t with h | ⟨q, e, hr, hm⟩
    · exact .inl h
    · exact .inr ⟨q, e, hr.quiet k, hm⟩
theorem Vot.poll {F : Nat → Prop} {w : World} {v : Nat} {P : VP} {s : VS} (h : Vot F w v P s) {i : Nat} {b : Nat} (e : P.pp[i]? = some (some ⟨b, 0, none⟩)) : ∃ p, s.ps[i]? = some (some p) ∧ Blk w b p.cells 167 ∧ F b := by
  obtain ⟨F1, F2, M, h, h1, h2, h3, h4⟩ := h
  have hi : i < 12 := by rw [← h.len]; exact (List.getElem?_eq_some_iff.1 e).1
  rcases h.polls i hi with ⟨e1, _⟩ | ⟨b', p, e1, e2, hb, hm⟩
  · rw [e] at e1; cases e1
  · rw [e] at e1; cases e1; exact ⟨p, e2, hb, h3 _ hm⟩
theorem Vot.pollB {F : Nat → Prop} {w : World} {v : Nat} {P : VP} {s : VS} (h : Vot F w v P s) {i b : Nat} {p : PollS} (e : P.pp[i]? = some (some ⟨b, 0, none⟩)) (e2 : s.ps[i]? = some (some p)) : Blk w b p.cells 167 ∧ F b := by
  obtain ⟨p', h1, h2⟩ := h.poll e
  rw [e2] at h1; cases h1; exact h2
theorem Vot.vblk {F : Nat → Prop} {w : World} {v : Nat} {P : VP} {s : VS} (h : Vot F w v P s) : P.pp.length = 12 ∧ Blk w v (P.pp.map Value.pointer ++ [.pointer (some ⟨P.gv, 0, none⟩), .pointer (some ⟨P.gr, 0, none⟩)]) 130 := by
  obtain ⟨_, _, _, h, _⟩ := h; exact ⟨h.len, h.blk⟩
theorem VotX.setPoll {F1 F2 M : Nat → Prop} {w w' : World} {v : Nat} {P : VP} {s : VS} (h : VotX F1 F2 M w v P s) {i b : Nat} {p p' : PollS} (e : P.pp[i]? = some (some ⟨b, 0, none⟩)) (e2 : s.ps[i]? = some (some p)) (k : Keep (only b) w w') (hb' : Blk w' b p'.cells 167) : VotX F1 F2 M w' v P (s.setP i p') ∧ M b := by
  have hi : i < 12 := by rw [← h.len]; exact (List.getElem?_eq_some_iff.1 e).1
  have hMb : M b ∧ Blk w b p.cells 167 := by
    rcases h.polls i hi with ⟨e1, _⟩ | ⟨b', p, e1, e3, hb, hm⟩
    · rw [e] at e1; cases e1
    · rw [e] at e1; cases e1; rw [e2] at e3; cases e3; exact ⟨hm, hb⟩
  obtain ⟨hM, hB⟩ := hMb
  have hil : i < s.ps.length := (List.getElem?_eq_some_iff.1 e2).1
  refine ⟨⟨⟨by show (s.ps.set i (some p')).length = 12; rw [List.length_set]; exact h.inv.len, fun c hc => ?_, h.inv.dels⟩, h.gv.keep k (fun q hq hs => h.d1 q hq (by rw [show q = b from hs]; exact hM)), h.gr.keep k (fun q hq hs => h.d2 q hq (by rw [show q = b from hs]; exact hM)), h.mv, fun q hq => Nat.lt_of_lt_of_le (h.lt q hq) k.size, h.d12, h.d1, h.d2, h.len, h.blk.keep k (Blk.ne h.blk hB (by decide)), fun j hj => ?_, h.pinj, h.keys, fun a t => ?_, h.rinj⟩, hM⟩
  · obtain ⟨g1, g2, g3, p0, g4⟩ := h.inv.votes c hc
    refine ⟨g1, g2, g3, ?_⟩
    show ∃ p, (s.ps.set i (some p'))[c.b.toNat]? = some (some p)
    by_cases he : i = c.b.toNat
    · exact ⟨p', by rw [← he, List.getElem?_set_self hil]⟩
    · exact ⟨p0, by rw [List.getElem?_set_ne he]; exact g4⟩
  · show (P.pp[j]? = some none ∧ (s.ps.set i (some p'))[j]? = some none) ∨ ∃ b p, P.pp[j]? = some (some ⟨b, 0, none⟩) ∧ (s.ps.set i (some p'))[j]? = some (some p) ∧ Blk w' b p.cells 167 ∧ M b
    by_cases he : i = j
    · subst he
      exact .inr ⟨b, p', e, by rw [List.getElem?_set_self hil], hb', hM⟩
    · rw [List.getElem?_set_ne he]
      rcases h.polls j hj with hh | ⟨b2, p2, f1, f2, hb2, hm2⟩
      · exact .inl hh
      · exact .inr ⟨b2, p2, f1, f2, hb2.keep k (fun hs => he (h.pinj i j b e (by rw [f1, show b2 = b from hs]))), hm2⟩
  · rcases h.recs a t with hh | ⟨q, e1, hr, hm⟩
    · exact .inl hh
    · refine .inr ⟨q, e1, hr.keep1 k hB ?_ (by decide), hm⟩
      obtain ⟨_, hq, _⟩ := hr
      exact Blk.ne hq hB (by decide)
theorem Vot.setPoll {F : Nat → Prop} {w w' : World} {v : Nat} {P : VP} {s : VS} (h : Vot F w v P s) {i b : Nat} {p p' : PollS} (e : P.pp[i]? = some (some ⟨b, 0, none⟩)) (e2 : s.ps[i]? = some (some p)) (k : Keep (only b) w w') (hb' : Blk w' b p'.cells 167) : Vot F w' v P (s.setP i p') := by
  obtain ⟨F1, F2, M, h, h1, h2, h3, h4⟩ := h
  exact ⟨F1, F2, M, (h.setPoll e e2 k hb').1, h1, h2, h3, fun q hq => Nat.lt_of_lt_of_le (h4 q hq) k.size⟩
def pollAt (s : VS) (ref : Int) : Option PollS := if 0 ≤ ref ∧ ref < 12 then (s.ps[ref.toNat]?).join else none
theorem Vot.pollcase {F : Nat → Prop} {w : World} {v : Nat} {P : VP} {s : VS} (h : Vot F w v P s) (ref : Int) : (pollAt s ref = none ∧ (¬ (0 ≤ ref ∧ ref < 12) ∨ ∃ i : Nat, ref = (i : Int) ∧ i < 12 ∧ P.pp[i]? = some none)) ∨ ∃ (i b : Nat) (p : PollS), ref = (i : Int) ∧ i < 12 ∧ P.pp[i]? = some (some ⟨b, 0, none⟩) ∧ s.ps[i]? = some (some p) ∧ pollAt s ref = some p := by
  obtain ⟨F1, F2, M, h, _⟩ := h
  by_cases hr : 0 ≤ ref ∧ ref < 12
  · obtain ⟨i, rfl⟩ : ∃ i : Nat, ref = i := ⟨ref.toNat, by omega⟩
    rcases h.polls i (by omega) with ⟨e1, e2⟩ | ⟨b, p, e1, e2, _⟩
    · exact .inl ⟨by unfold pollAt; rw [if_pos hr, Int.toNat_natCast, e2]; rfl, .inr ⟨i, rfl, by omega, e1⟩⟩
    · exact .inr ⟨i, b, p, rfl, by omega, e1, e2, by unfold pollAt; rw [if_pos hr, Int.toNat_natCast, e2]; rfl⟩
  · exact .inl ⟨by unfold pollAt; rw [if_neg hr], .inl hr⟩
theorem over_pp {pp : List (Option Addr)} {tl : List Value} {i : Nat} {x : Option Addr} (hi : i < pp.length) : over (pp.map Value.pointer ++ tl) (0 + i * 1) [.pointer x] = (pp.set i x).map Value.pointer ++ tl := by
  have e : 0 + i * 1 = ([] : List Value).length + i := by simp
  have h1 := over_mid (X := []) (Y := pp.map Value.pointer) (Z := tl) (k := i) (v := .pointer x) (by simpa using hi)
  rw [e]
  simp only [List.nil_append] at h1 ⊢
  rw [h1]
  congr 1
  unfold over
  rw [List.map_set, List.set_eq_take_append_cons_drop, if_pos (by simpa using hi)]
  simp
theorem Vot.addPoll {F : Nat → Prop} {w w' : World} {v : Nat} {P : VP} {s : VS} (h : Vot F w v P s) {i b : Nat} {p : PollS} (hi : i < 12) (_e : P.pp[i]? = some none) (k : Keep (only v) w w') (hv : Blk w' v ((P.pp.set i (some ⟨b, 0, none⟩)).map Value.pointer ++ [.pointer (some ⟨P.gv, 0, none⟩), .pointer (some ⟨P.gr, 0, none⟩)]) 130) (hb : Blk w' b p.cells 167) (hge : w.heap.size ≤ b) :
    ∃ F', Vot F' w' v { P with pp := P.pp.set i (some ⟨b, 0, none⟩) } (s.setP i p) ∧ ∀ q, F' q → F q ∨ w.heap.size ≤ q := by
  obtain ⟨F1, F2, M, h, h1, h2, h3, h4⟩ := h
  have hsz := k.size
  have hbv := hb.lt
  have hil : i < s.ps.length := by rw [h.inv.len]; exact hi
  have hpl : i < P.pp.length := by rw [h.len]; exact hi
  have kS : ∀ x, x < w.heap.size → x ≠ v → ¬ only v x := fun x _ hx hs => hx hs
  refine ⟨fun x => F x ∨ x = b, ⟨F1, F2, fun x => M x ∨ x = b, ⟨⟨by show (s.ps.set i (some p)).length = 12; rw [List.length_set]; exact h.inv.len, fun c hc => ?_, h.inv.dels⟩, h.gv.keep k (fun x hx hs => h.d1 x hx (by rw [show x = v from hs]; exact h.mv)), h.gr.keep k (fun x hx hs => h.d2 x hx (by rw [show x = v from hs]; exact h.mv)), .inl h.mv, ?_, h.d12, ?_, ?_, by show (P.pp.set i _).length = 12; rw [List.length_set]; exact h.len, hv, fun j hj => ?_, ?_, h.keys, fun a t => ?_, h.rinj⟩, fun x hx => .inl (h1 x hx), fun x hx => .inl (h2 x hx), fun x hx => hx.imp (h3 x) id, ?_⟩, fun q hq => hq.imp id (fun e => by rw [e]; exact hge)⟩
  · obtain ⟨g1, g2, g3, p0, g4⟩ := h.inv.votes c hc
    refine ⟨g1, g2, g3, ?_⟩
    show ∃ p', (s.ps.set i (some p))[c.b.toNat]? = some (some p')
    by_cases he : i = c.b.toNat
    · exact ⟨p, by rw [← he, List.getElem?_set_self hil]⟩
    · exact ⟨p0, by rw [List.getElem?_set_ne he]; exact g4⟩
  · rintro x (hx | rfl)
    · exact Nat.lt_of_lt_of_le (h.lt x hx) hsz
    · exact hbv
  · rintro x hx (hm | rfl)
    · exact h.d1 x hx hm
    · have := h.gv.lt _ hx; omega
  · rintro x hx (hm | rfl)
    · exact h.d2 x hx hm
    · have := h.gr.lt _ hx; omega
  · show ((P.pp.set i (some ⟨b, 0, none⟩))[j]? = some none ∧ (s.ps.set i (some p))[j]? = some none) ∨ ∃ b' p', (P.pp.set i (some ⟨b, 0, none⟩))[j]? = some (some ⟨b', 0, none⟩) ∧ (s.ps.set i (some p))[j]? = some (some p') ∧ Blk w' b' p'.cells 167 ∧ (M b' ∨ b' = b)
    by_cases he : i = j
    · subst he
      exact .inr ⟨b, p, by rw [List.getElem?_set_self hpl], by rw [List.getElem?_set_self hil], hb, .inr rfl⟩
    · rw [List.getElem?_set_ne he, List.getElem?_set_ne he]
      rcases h.polls j hj with hh | ⟨b2, p2, f1, f2, hb2, hm2⟩
      · exact .inl hh
      · exact .inr ⟨b2, p2, f1, f2, hb2.keep k (Blk.ne hb2 h.blk (by decide)), .inl hm2⟩
  · show ∀ (j j' c : Nat), (P.pp.set i (some ⟨b, 0, none⟩))[j]? = some (some ⟨c, 0, none⟩) → (P.pp.set i (some ⟨b, 0, none⟩))[j']? = some (some ⟨c, 0, none⟩) → j = j'
    have hold : ∀ (j c : Nat), P.pp[j]? = some (some ⟨c, 0, none⟩) → c < w.heap.size := by
      intro j c hjc
      have hj : j < 12 := by rw [← h.len]; exact (List.getElem?_eq_some_iff.1 hjc).1
      rcases h.polls j hj with ⟨f1, _⟩ | ⟨b2, p2, f1, f2, hb2, hm2⟩
      · rw [hjc] at f1; cases f1
      · rw [hjc] at f1; cases f1; exact hb2.lt
    intro j j' c hj hj'
    by_cases e1 : i = j <;> by_cases e2 : i = j'
    · exact e1.symm.trans e2
    · subst e1
      rw [List.getElem?_set_self hpl] at hj; cases hj
      rw [List.getElem?_set_ne e2] at hj'
      have := hold _ _ hj'; omega
    · subst e2
      rw [List.getElem?_set_self hpl] at hj'; cases hj'
      rw [List.getElem?_set_ne e1] at hj
      have := hold _ _ hj; omega
    · rw [List.getElem?_set_ne e1] at hj
      rw [List.getElem?_set_ne e2] at hj'
      exact h.pinj _ _ _ hj hj'
  · rcases h.recs a t with hh | ⟨q, e1, hr, hm⟩
    · exact .inl hh
    · refine .inr ⟨q, e1, (hr.keep1 k h.blk ?_ (by decide)).mono (fun _ h => .inl h), .inl hm⟩
      obtain ⟨_, hq, _⟩ := hr
      exact Blk.ne hq h.blk (by decide)
  · rintro x (hx | rfl)
    · exact Nat.lt_of_lt_of_le (h4 x hx) hsz
    · exact hbv
end Go.Al
