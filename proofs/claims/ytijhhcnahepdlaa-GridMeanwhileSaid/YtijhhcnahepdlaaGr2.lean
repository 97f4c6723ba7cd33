/-
  Walks of package grid: slices.
-/
import Derived.Test.YtijhhcnahepdlaaGr
namespace Go.Al
open Go Go.RowKit Go.Proofs
theorem clone_nil (w : World) : Calls Try.prog 30 #[.slice none 0 0] w fun e w' => e = .returned (.slice none 0 0) ∧ w' = w := by
  refine enterV Try.func30 rfl [.slice none 0 0] 8 rfl rfl rfl ?_
  refine V_pick [(0, .slice none 0 0)] rfl ?_
  refine V_seq ?_
  refine V_region ?_
  refine OI_static 1 [(0, .slice none 0 0)] (by kernel_rfl) ?_
  refine OI_end rfl ?_
  refine X_then ?_
  refine V_seq ?_
  refine V_seq ?_
  refine V_region ?_
  refine OI_static 2 [(0, .slice none 0 0), (4, .bool true)] (by kernel_rfl) ?_
  refine OI_end rfl ?_
  refine X_then ?_
  refine V_true rfl ?_
  refine V_seq ?_
  refine V_region ?_
  refine OI_static 1 [(2, .slice none 0 0)] (by kernel_rfl) ?_
  refine OI_end rfl ?_
  refine X_then ?_
  refine V_ret ?_
  refine X_ret_then ?_
  exact X_return _ rfl ⟨rfl, rfl⟩

theorem clone_at (b o cap : Nat) (L : List Value) (T : TypeId) (xs : List Ci) (w : World) (h : At w b o L T 3 cap (xs.map Ci.cells)) (hn : xs.length ≤ 1000000) : Calls Try.prog 30 #[.slice (some ⟨b, o, none⟩) xs.length cap] w fun e w' => ∃ A' cap', e = .returned (.slice A' xs.length cap') ∧ SlT w' 3 Ci.cells A' cap' xs ∧ Keep none_ w w' ∧ (∀ k, inA A' k → w.heap.size ≤ k) := by
  have hblt := h.blk.lt
  have hK0 : Keep none_ w w := Keep.refl _ _
  have hzhK0 := Keep.size hK0
  refine enterV Try.func30 rfl [.slice (some ⟨b, o, none⟩) xs.length cap] 8 rfl rfl rfl ?_
  refine V_pick [(0, .slice (some ⟨b, o, none⟩) xs.length cap)] rfl ?_
  refine V_seq ?_
  refine V_region ?_
  refine OI_static 1 [(0, .slice (some ⟨b, o, none⟩) xs.length cap)] (by kernel_rfl) ?_
  refine OI_end rfl ?_
  refine X_then ?_
  refine V_seq ?_
  refine V_seq ?_
  refine V_region ?_
  refine OI_static 2 [(0, .slice (some ⟨b, o, none⟩) xs.length cap), (4, .bool false)] (by kernel_rfl) ?_
  refine OI_end rfl ?_
  refine X_then ?_
  refine V_false rfl ?_
  refine V_skip ?_
  refine X_then ?_
  refine V_seq ?_
  refine V_region ?_
  refine OI_slit (E := 70) (zv := .agg #[.int .i64 0, .int .i64 0, .int .i64 0]) (sz := 3) (by_ := 24) 64 0 #[] [] [] (some 5) (by kernel_rfl) (by kernel_rfl) (by kernel_rfl) (by omega) rfl (by omega) (by intro v hv; cases hv) (by kernel_rfl) rfl ?_
  intro b1 w1 e1 hb1 k1 z1
  have hsz2 := Keep.size k1
  replace h := h.keep k1 (fun f => f)
  have hblt := h.blk.lt
  replace hK0 := Keep.tr hK0 (Keep.ofNone k1); have hzhK0 := Keep.size hK0
  have hb1lt := hb1.lt
  refine OI_static 2 [(5, .slice (some ⟨b1, 0, none⟩) 0 0), (6, .slice (some ⟨b, o, none⟩) xs.length cap)] (by kernel_rfl) ?_
  refine OI_append (t := 64) (at2 := 64) (E := 70) (E2 := 70) (sz := 3) (by_ := 24) (zv := .agg #[.int .i64 0, .int .i64 0, .int .i64 0]) (m := 0) (k := xs.length) (.tmp 5) (.tmp 6) (.slice (some ⟨b1, 0, none⟩) 0 0) (.slice (some ⟨b, o, none⟩) xs.length cap) (some 7) (by kernel_rfl) (by kernel_rfl) (by kernel_rfl) (by kernel_rfl) (by kernel_rfl) (by kernel_rfl) (by kernel_rfl) (SlT.slr (slt_blk (f := Ci.cells) (xs := []) hb1 Ci.len rfl)) (SlT.slr (At.slt h)) (one_flat Ci.one) (by omega) (by omega) (by omega) (by omega) ?_
  intro v w9 hap
  obtain ⟨A9, cap9, rfl, h9, hin⟩ := SlT.of (xs := xs) hap.holds (by omega) (by simp) (fun x _ => Ci.len x)
  have hk9 : Keep (only b1) w1 w9 := hap.keep
  have hown : ∀ k, inA A9 k → w.heap.size ≤ k := fun k hk => by rcases hap.own k (hin k hk) with h | h; (have h : k = b1 := h; omega); omega
  have hsz3 := Keep.size hk9
  replace h := h.keep hk9 (by show ¬ (_ = _); omega)
  have hblt := h.blk.lt
  replace hK0 := Keep.fresh hK0 hk9 (by intro i hi hs; first | exact hs | exact Or.inl hs | exact Or.inr hs | (exfalso; have hs2 : i = b1 := hs; omega)); have hzhK0 := Keep.size hK0
  refine OI_pick [(7, .slice A9 (0 + xs.length) cap9)] (by kernel_rfl) ?_
  refine OI_eq [(7, .slice A9 xs.length cap9)] (by rw [Nat.zero_add]) ?_
  refine OI_static 4 [(2, .slice A9 xs.length cap9)] (by kernel_rfl) ?_
  refine OI_end rfl ?_
  refine X_then ?_
  refine V_ret ?_
  exact X_return _ rfl ⟨A9, cap9, rfl, h9, hK0, hown⟩

theorem clone_spec (A : Option Addr) (cap : Nat) (xs : List Ci) (w : World) (hA : SlT w 3 Ci.cells A cap xs) (hn : xs.length ≤ 1000000) : Calls Try.prog 30 #[.slice A xs.length cap] w fun e w' => ∃ A' cap', e = .returned (.slice A' xs.length cap') ∧ SlT w' 3 Ci.cells A' cap' xs ∧ Keep none_ w w' ∧ (∀ k, inA A' k → w.heap.size ≤ k) := by
  rcases Nat.eq_zero_or_pos xs.length with h0 | h0
  · obtain rfl := List.length_eq_zero_iff.1 h0
    rcases hA with ⟨rfl, rfl, _⟩ | ⟨b, o, L, T, rfl, h1, h2, h3, h4, h5⟩
    · exact (clone_nil w).mono (by rintro e w' ⟨rfl, rfl⟩; exact ⟨none, 0, rfl, SlT.nil _ _ _, Keep.refl _ _, fun k hk => (inA_none hk).elim⟩)
    · exact clone_at b o cap L T [] w ⟨h1, h2, h3, h4, h5⟩ hn
  · obtain ⟨b, o, L, T, rfl, h⟩ := hA.open_ h0
    exact clone_at b o cap L T xs w h hn

theorem insert_nil (vb : Nat) (x : Ci) (w : World) (hv : Blk w vb (Ci.cells x) 70) : Calls Try.prog 31 #[.slice none 0 0, .int .i64 0, .slice (some ⟨vb, 0, none⟩) 1 1] w fun e w' => ∃ A' cap', e = .returned (.slice A' 1 cap') ∧ SlT w' 3 Ci.cells A' cap' [x] ∧ Keep none_ w w' ∧ (∀ k, inA A' k → w.heap.size ≤ k) := by
  have hvblt := hv.lt
  have hK0 : Keep none_ w w := Keep.refl _ _
  have hzhK0 := Keep.size hK0
  refine enterV Try.func31 rfl [.slice none 0 0, .int .i64 0, .slice (some ⟨vb, 0, none⟩) 1 1] 95 rfl rfl rfl ?_
  refine V_pick [(0, .slice none 0 0), (1, .int .i64 0), (2, .slice (some ⟨vb, 0, none⟩) 1 1)] rfl ?_
  refine V_seq ?_
  refine V_region ?_
  refine OI_static 1 [(0, .slice none 0 0), (1, .int .i64 0), (2, .slice (some ⟨vb, 0, none⟩) 1 1)] (by kernel_rfl) ?_
  refine OI_end rfl ?_
  refine X_then ?_
  refine V_seq ?_
  refine V_region ?_
  refine OI_static 2 [(0, .slice none 0 0), (1, .int .i64 0), (2, .slice (some ⟨vb, 0, none⟩) 1 1), (10, .slice none 0 0), (11, .int .i64 0)] (by kernel_rfl) ?_
  refine OI_pure (some 12) ((Op.slice 64 (Operand.tmp 10) (some (Operand.tmp 11)) none none)) (by kernel_rfl) (pure_slice (E := 70) (sz := 3) (by_ := 24) (base := none) (len := 0) (cap := 0) (lo := (some (.tmp 11))) (hi := none) (l := 0) (h := 0) (by kernel_rfl) (by kernel_rfl) ⟨.i64, by kernel_rfl⟩ rfl (by omega) (by omega)) ?_
  refine OI_pick [(0, .slice none 0 0), (1, .int .i64 0), (2, .slice (some ⟨vb, 0, none⟩) 1 1)] (by kernel_rfl) ?_
  refine OI_end rfl ?_
  refine X_then ?_
  refine V_seq ?_
  refine V_region ?_
  refine OI_static 3 [(0, .slice none 0 0), (1, .int .i64 0), (2, .slice (some ⟨vb, 0, none⟩) 1 1), (7, .int .i64 1)] (by kernel_rfl) ?_
  refine OI_end rfl ?_
  refine X_then ?_
  refine V_seq ?_
  refine V_seq ?_
  refine V_region ?_
  refine OI_static 2 [(0, .slice none 0 0), (1, .int .i64 0), (2, .slice (some ⟨vb, 0, none⟩) 1 1), (7, .int .i64 1), (16, .bool false)] (by kernel_rfl) ?_
  refine OI_end rfl ?_
  refine X_then ?_
  refine V_false rfl ?_
  refine V_skip ?_
  refine X_then ?_
  refine V_seq ?_
  refine V_region ?_
  refine OI_static 3 [(0, .slice none 0 0), (1, .int .i64 0), (2, .slice (some ⟨vb, 0, none⟩) 1 1), (7, .int .i64 1), (8, .int .i64 0)] (by kernel_rfl) ?_
  refine OI_end rfl ?_
  refine X_then ?_
  refine V_seq ?_
  refine V_seq ?_
  refine V_region ?_
  refine OI_static 3 [(0, .slice none 0 0), (1, .int .i64 0), (2, .slice (some ⟨vb, 0, none⟩) 1 1), (7, .int .i64 1), (8, .int .i64 0), (22, .bool true)] (by kernel_rfl) ?_
  refine OI_end rfl ?_
  refine X_then ?_
  refine V_true rfl ?_
  refine V_seq ?_
  refine V_region ?_
  refine OI_static 2 [(23, .slice none 0 0), (24, .slice (some ⟨vb, 0, none⟩) 1 1)] (by kernel_rfl) ?_
  refine OI_append (t := 64) (at2 := 64) (E := 70) (E2 := 70) (sz := 3) (by_ := 24) (zv := .agg #[.int .i64 0, .int .i64 0, .int .i64 0]) (m := 0) (k := 1) (.tmp 23) (.tmp 24) (.slice none 0 0) (.slice (some ⟨vb, 0, none⟩) 1 1) (some 25) (by kernel_rfl) (by kernel_rfl) (by kernel_rfl) (by kernel_rfl) (by kernel_rfl) (by kernel_rfl) (by kernel_rfl) (.inl ⟨rfl, rfl, rfl⟩) (slr_one hv (Ci.len _)) (Ci.one _) (by omega) (by omega) (by omega) (by omega) ?_
  intro v w9 hap
  obtain ⟨A9, cap9, rfl, h9, hin⟩ := SlT.of (xs := [x]) hap.holds rfl (by simp) (fun x _ => Ci.len x)
  have hk9 : Keep none_ w w9 := hap.keep
  have hown : ∀ k, inA A9 k → w.heap.size ≤ k := fun k hk => by rcases hap.own k (hin k hk) with h | h; exact h.elim; exact h
  have hsz1 := Keep.size hk9
  replace hv := hv.keep hk9 (fun f => f)
  have hvblt := hv.lt
  replace hK0 := Keep.tr hK0 (Keep.ofNone hk9); have hzhK0 := Keep.size hK0
  refine OI_pick [(25, .slice A9 (0 + 1) cap9)] (by kernel_rfl) ?_
  refine OI_eq [(25, .slice A9 1 cap9)] (by rw [Nat.zero_add]) ?_
  refine OI_static 4 [(6, .slice A9 1 cap9)] (by kernel_rfl) ?_
  refine OI_end rfl ?_
  refine X_then ?_
  refine V_ret ?_
  refine X_ret_then ?_
  exact X_return _ rfl ⟨A9, cap9, rfl, h9, hK0, hown⟩

theorem insert_at (b o cap vb i : Nat) (L : List Value) (T : TypeId) (xs : List Ci) (x : Ci) (w : World) (h : At w b o L T 3 cap (xs.map Ci.cells)) (hv : Blk w vb (Ci.cells x) 70) (hne : vb ≠ b) (hi : i ≤ xs.length) (hn : xs.length ≤ 1000000) : Calls Try.prog 31 #[.slice (some ⟨b, o, none⟩) xs.length cap, .int .i64 (i : Int), .slice (some ⟨vb, 0, none⟩) 1 1] w fun e w' => ∃ A' cap', e = .returned (.slice A' (xs.length + 1) cap') ∧ SlT w' 3 Ci.cells A' cap' (xs.take i ++ x :: xs.drop i) ∧ Keep (only b) w w' ∧ (∀ k, inA A' k → k = b ∨ w.heap.size ≤ k) := by
  have hblt := h.blk.lt
  have hvblt := hv.lt
  have hle : xs.length ≤ cap := by simpa using h.le
  have hK0 : Keep (only b) w w := Keep.refl _ _
  have hzhK0 := Keep.size hK0
  refine enterV Try.func31 rfl [.slice (some ⟨b, o, none⟩) xs.length cap, .int .i64 ((i : Nat) : Int), .slice (some ⟨vb, 0, none⟩) 1 1] 95 rfl rfl rfl ?_
  refine V_pick [(0, .slice (some ⟨b, o, none⟩) xs.length cap), (1, .int .i64 ((i : Nat) : Int)), (2, .slice (some ⟨vb, 0, none⟩) 1 1)] rfl ?_
  refine V_seq ?_
  refine V_region ?_
  refine OI_static 1 [(0, .slice (some ⟨b, o, none⟩) xs.length cap), (1, .int .i64 ((i : Nat) : Int)), (2, .slice (some ⟨vb, 0, none⟩) 1 1)] (by kernel_rfl) ?_
  refine OI_end rfl ?_
  refine X_then ?_
  refine V_seq ?_
  refine V_region ?_
  refine OI_static 2 [(0, .slice (some ⟨b, o, none⟩) xs.length cap), (1, .int .i64 ((i : Nat) : Int)), (2, .slice (some ⟨vb, 0, none⟩) 1 1), (10, .slice (some ⟨b, o, none⟩) xs.length cap), (11, .int .i64 ((i : Nat) : Int))] (by kernel_rfl) ?_
  refine OI_pure (some 12) ((Op.slice 64 (Operand.tmp 10) (some (Operand.tmp 11)) none none)) (by kernel_rfl) (pure_slice (E := 70) (sz := 3) (by_ := 24) (base := (some ⟨b, o, none⟩)) (len := xs.length) (cap := cap) (lo := (some (.tmp 11))) (hi := none) (l := i) (h := xs.length) (by kernel_rfl) (by kernel_rfl) ⟨.i64, by kernel_rfl⟩ rfl (by omega) (by omega)) ?_
  refine OI_pick [(0, .slice (some ⟨b, o, none⟩) xs.length cap), (1, .int .i64 ((i : Nat) : Int)), (2, .slice (some ⟨vb, 0, none⟩) 1 1)] (by kernel_rfl) ?_
  refine OI_end rfl ?_
  refine X_then ?_
  refine V_seq ?_
  refine V_region ?_
  refine OI_static 3 [(0, .slice (some ⟨b, o, none⟩) xs.length cap), (1, .int .i64 ((i : Nat) : Int)), (2, .slice (some ⟨vb, 0, none⟩) 1 1), (7, .int .i64 1)] (by kernel_rfl) ?_
  refine OI_end rfl ?_
  refine X_then ?_
  refine V_seq ?_
  refine V_seq ?_
  refine V_region ?_
  refine OI_static 2 [(0, .slice (some ⟨b, o, none⟩) xs.length cap), (1, .int .i64 ((i : Nat) : Int)), (2, .slice (some ⟨vb, 0, none⟩) 1 1), (7, .int .i64 1), (16, .bool false)] (by kernel_rfl) ?_
  refine OI_end rfl ?_
  refine X_then ?_
  refine V_false rfl ?_
  refine V_skip ?_
  refine X_then ?_
  refine V_seq ?_
  refine V_region ?_
  refine OI_static 3 [(0, .slice (some ⟨b, o, none⟩) xs.length cap), (1, .int .i64 ((i : Nat) : Int)), (2, .slice (some ⟨vb, 0, none⟩) 1 1), (7, .int .i64 1), (8, .int .i64 ((xs.length : Nat) : Int))] (by kernel_rfl) ?_
  refine OI_end rfl ?_
  refine X_then ?_
  refine V_seq ?_
  refine V_seq ?_
  refine V_region ?_
  refine OI_static 3 [(0, .slice (some ⟨b, o, none⟩) xs.length cap), (1, .int .i64 ((i : Nat) : Int)), (2, .slice (some ⟨vb, 0, none⟩) 1 1), (7, .int .i64 1), (8, .int .i64 ((xs.length : Nat) : Int)), (22, .bool (decide (((i : Nat) : Int) = ((xs.length : Nat) : Int))))] (by kernel_rfl) ?_
  refine OI_end rfl ?_
  refine X_then ?_
  refine V_if (((i : Nat) : Int) = ((xs.length : Nat) : Int)) (by kernel_rfl) (fun hc1 => ?_) (fun hc1 => ?_)
  · skip
    refine V_seq ?_
    refine V_region ?_
    refine OI_static 2 [(23, .slice (some ⟨b, o, none⟩) xs.length cap), (24, .slice (some ⟨vb, 0, none⟩) 1 1)] (by kernel_rfl) ?_
    obtain rfl : i = xs.length := by omega
    refine OI_append (t := 64) (at2 := 64) (E := 70) (E2 := 70) (sz := 3) (by_ := 24) (zv := .agg #[.int .i64 0, .int .i64 0, .int .i64 0]) (m := xs.length) (k := 1) (.tmp 23) (.tmp 24) (.slice (some ⟨b, o, none⟩) xs.length cap) (.slice (some ⟨vb, 0, none⟩) 1 1) (some 25) (by kernel_rfl) (by kernel_rfl) (by kernel_rfl) (by kernel_rfl) (by kernel_rfl) (by kernel_rfl) (by kernel_rfl) (SlT.slr (At.slt h)) (slr_one hv (Ci.len _)) (Ci.one _) (by omega) (by omega) (by omega) (by omega) ?_
    intro v w9 hap
    obtain ⟨A9, cap9, rfl, h9, hin⟩ := SlT.of (xs := xs.take xs.length ++ x :: xs.drop xs.length) hap.holds (by simp) (by simp) (fun x _ => Ci.len x)
    have hk9 : Keep (only b) w w9 := hap.keep
    have hown : ∀ k, inA A9 k → k = b ∨ w.heap.size ≤ k := fun k hk => hap.own k (hin k hk)
    have hsz2 := Keep.size hk9
    replace hv := hv.keep hk9 (by show ¬ (_ = _); omega)
    have hvblt := hv.lt
    replace hK0 := Keep.fresh hK0 hk9 (by intro i hi hs; first | exact hs | exact Or.inl hs | exact Or.inr hs | (exfalso; have hs2 : i = b := hs; omega)); have hzhK0 := Keep.size hK0
    refine OI_static 4 [(6, .slice A9 (xs.length + 1) cap9)] (by kernel_rfl) ?_
    refine OI_end rfl ?_
    refine X_then ?_
    refine V_ret ?_
    refine X_ret_then ?_
    exact X_return _ rfl ⟨A9, cap9, rfl, h9, hK0, hown⟩
  · skip
    refine V_skip ?_
    refine X_then ?_
    refine V_seq ?_
    refine V_seq ?_
    refine V_region ?_
    have hw3 : IntKind.i64.wrap (((xs.length : Nat) : Int) + 1) = ((xs.length + 1 : Nat) : Int) := (wrap64_id (by omega) (by omega)).trans (by omega)
    refine OI_static 3 [(0, .slice (some ⟨b, o, none⟩) xs.length cap), (1, .int .i64 ((i : Nat) : Int)), (2, .slice (some ⟨vb, 0, none⟩) 1 1), (7, .int .i64 1), (8, .int .i64 ((xs.length : Nat) : Int)), (28, .int .i64 (IntKind.i64.wrap (((xs.length : Nat) : Int) + 1)))] (by kernel_rfl) ?_
    refine OI_eq [(0, .slice (some ⟨b, o, none⟩) xs.length cap), (1, .int .i64 ((i : Nat) : Int)), (2, .slice (some ⟨vb, 0, none⟩) 1 1), (7, .int .i64 1), (8, .int .i64 ((xs.length : Nat) : Int)), (28, .int .i64 ((xs.length + 1 : Nat) : Int))] (by rw [hw3]) ?_
    refine OI_static 6 [(0, .slice (some ⟨b, o, none⟩) xs.length cap), (1, .int .i64 ((i : Nat) : Int)), (2, .slice (some ⟨vb, 0, none⟩) 1 1), (7, .int .i64 1), (8, .int .i64 ((xs.length : Nat) : Int)), (31, .bool (decide (((xs.length + 1 : Nat) : Int) > ((cap : Nat) : Int))))] (by kernel_rfl) ?_
    refine OI_end rfl ?_
    refine X_then ?_
    refine V_if (((xs.length + 1 : Nat) : Int) > ((cap : Nat) : Int)) (by kernel_rfl) (fun hc4 => ?_) (fun hc4 => ?_)
    · skip
      refine V_seq ?_
      refine V_region ?_
      refine OI_static 2 [(0, .slice (some ⟨b, o, none⟩) xs.length cap), (1, .int .i64 ((i : Nat) : Int)), (2, .slice (some ⟨vb, 0, none⟩) 1 1), (7, .int .i64 1), (8, .int .i64 ((xs.length : Nat) : Int)), (32, .slice (some ⟨b, o, none⟩) xs.length cap), (33, .int .i64 ((i : Nat) : Int))] (by kernel_rfl) ?_
      refine OI_pure (some 34) ((Op.slice 64 (Operand.tmp 32) none (some (Operand.tmp 33)) none)) (by kernel_rfl) (pure_sliceTo (E := 70) (sz := 3) (by_ := 24) (base := (some ⟨b, o, none⟩)) (len := xs.length) (cap := cap) (h := i) (kd := .i64) (by kernel_rfl) (by kernel_rfl) (by kernel_rfl) (by omega)) ?_
      have hw5 : IntKind.i64.wrap (((xs.length : Nat) : Int) + 1) = ((xs.length + 1 : Nat) : Int) := (wrap64_id (by omega) (by omega)).trans (by omega)
      refine OI_static 6 [(0, .slice (some ⟨b, o, none⟩) xs.length cap), (1, .int .i64 ((i : Nat) : Int)), (2, .slice (some ⟨vb, 0, none⟩) 1 1), (7, .int .i64 1), (34, .slice (some ⟨b, o, none⟩) i cap), (37, .int .i64 (IntKind.i64.wrap (((xs.length : Nat) : Int) + 1)))] (by kernel_rfl) ?_
      refine OI_eq [(0, .slice (some ⟨b, o, none⟩) xs.length cap), (1, .int .i64 ((i : Nat) : Int)), (2, .slice (some ⟨vb, 0, none⟩) 1 1), (7, .int .i64 1), (34, .slice (some ⟨b, o, none⟩) i cap), (37, .int .i64 ((xs.length + 1 : Nat) : Int))] (by rw [hw5]) ?_
      have hw6 : IntKind.i64.wrap (((xs.length + 1 : Nat) : Int) - ((i : Nat) : Int)) = ((xs.length + 1 - i : Nat) : Int) := (wrap64_id (by omega) (by omega)).trans (by omega)
      refine OI_static 8 [(0, .slice (some ⟨b, o, none⟩) xs.length cap), (1, .int .i64 ((i : Nat) : Int)), (2, .slice (some ⟨vb, 0, none⟩) 1 1), (7, .int .i64 1), (34, .slice (some ⟨b, o, none⟩) i cap), (39, .int .i64 (IntKind.i64.wrap (((xs.length + 1 : Nat) : Int) - ((i : Nat) : Int))))] (by kernel_rfl) ?_
      refine OI_eq [(0, .slice (some ⟨b, o, none⟩) xs.length cap), (1, .int .i64 ((i : Nat) : Int)), (2, .slice (some ⟨vb, 0, none⟩) 1 1), (7, .int .i64 1), (34, .slice (some ⟨b, o, none⟩) i cap), (39, .int .i64 ((xs.length + 1 - i : Nat) : Int))] (by rw [hw6]) ?_
      refine OI_appmake (t := 64) (E := 70) (at2 := 3) (sz := 3) (by_ := 24) (m := i) (k := xs.length + 1 - i) (N := xs.length + 1) (kd := .i64) (zv := .agg #[.int .i64 0, .int .i64 0, .int .i64 0]) (s := .slice (some ⟨b, o, none⟩) i cap) (base := some ⟨b, o, none⟩) (cap := cap) (.tmp 34) (.tmp 39) (some 40) (by kernel_rfl) (by kernel_rfl) (by kernel_rfl) (by kernel_rfl) (by kernel_rfl) (by kernel_rfl) rfl (At.prefT h hi) (by omega) (by omega) (by omega) (by omega) (by kernel_rfl) (by omega) ?_
      intro b9 nc zs w9 hb9 hnc hzs hB9 hk9 hz9
      have hsz7 := Keep.size hk9
      replace hv := hv.keep hk9 (fun f => f)
      have hvblt := hv.lt
      replace h := h.keep hk9 (fun f => f)
      have hblt := h.blk.lt
      replace hK0 := Keep.tr hK0 (Keep.ofNone hk9); have hzhK0 := Keep.size hK0
      have hb9lt := hB9.lt
      obtain ⟨g1, g2, g3, g4, g5⟩ := grow_cells (sz := 3) (n := xs.length) (i := i) (nc := nc) (c := Ci.cells x) (zs := zs) (es := xs.map Ci.cells) h.sizes (by simp) hi (by omega) (Ci.len x) hzs
      refine OI_static 10 [(0, .slice (some ⟨b, o, none⟩) xs.length cap), (1, .int .i64 ((i : Nat) : Int)), (2, .slice (some ⟨vb, 0, none⟩) 1 1), (7, .int .i64 1), (9, .slice (some ⟨b9, 0, none⟩) (xs.length + 1) nc)] (by kernel_rfl) ?_
      refine OI_end rfl ?_
      refine X_then ?_
      refine V_seq ?_
      refine V_region ?_
      refine OI_static 2 [(0, .slice (some ⟨b, o, none⟩) xs.length cap), (1, .int .i64 ((i : Nat) : Int)), (2, .slice (some ⟨vb, 0, none⟩) 1 1), (7, .int .i64 1), (9, .slice (some ⟨b9, 0, none⟩) (xs.length + 1) nc), (41, .slice (some ⟨b9, 0, none⟩) (xs.length + 1) nc), (42, .int .i64 ((i : Nat) : Int))] (by kernel_rfl) ?_
      refine OI_pure (some 43) ((Op.slice 64 (Operand.tmp 41) (some (Operand.tmp 42)) none none)) (by kernel_rfl) (pure_sliceFrom (E := 70) (sz := 3) (by_ := 24) (b := b9) (o := 0) (len := xs.length + 1) (cap := nc) (l := i) (kd := .i64) (by kernel_rfl) (by kernel_rfl) (by kernel_rfl) (by omega) (by omega) (by omega)) ?_
      refine OI_static 4 [(0, .slice (some ⟨b, o, none⟩) xs.length cap), (1, .int .i64 ((i : Nat) : Int)), (7, .int .i64 1), (9, .slice (some ⟨b9, 0, none⟩) (xs.length + 1) nc), (43, .slice (some ⟨b9, 0 + i * 3, none⟩) (xs.length + 1 - i) (nc - i)), (44, .slice (some ⟨vb, 0, none⟩) 1 1)] (by kernel_rfl) ?_
      refine OI_turn (some 45) ((Op.call { callee := (Callee.builtin Builtin.copy), args := #[(Operand.tmp 43), (Operand.tmp 44)], argTypes := #[64, 64] })) (by kernel_rfl) (Blk.lt hB9) (copy_run (t := 64) (E := 70) (at2 := 64) (sz := 3) (by_ := 24) (b := b9) (o := 0 + i * 3) (dl := xs.length + 1 - i) (dc := nc - i) (k := 1) (m := 1) (cells := Ci.cells x) (x := (.tmp 43)) (y := (.tmp 44)) (by kernel_rfl) (by kernel_rfl) hB9 (slr_one hv (Ci.len _)) (by omega) (by omega) (fun u hu => Ci.one _ u (List.mem_of_mem_take hu))) ?_
      intro w8 hB9 hk9 hz10
      replace hB9 : Blk w8 b9 (over (((xs.map Ci.cells).take i).flatten ++ zs) (i * 3) (Ci.cells x)) 70 := by rwa [show (Ci.cells x).take (1 * 3) = Ci.cells x from List.take_of_length_le (by rw [Ci.len]; omega), Nat.zero_add] at hB9
      have hsz11 := Keep.size hk9
      replace hv := hv.keep hk9 (by show ¬ (_ = _); omega)
      have hvblt := hv.lt
      replace h := h.keep hk9 (by show ¬ (_ = _); omega)
      have hblt := h.blk.lt
      replace hK0 := Keep.fresh hK0 hk9 (by intro i hi hs; first | exact hs | exact Or.inl hs | exact Or.inr hs | (exfalso; have hs2 : i = b9 := hs; omega)); have hzhK0 := Keep.size hK0
      refine OI_end rfl ?_
      refine X_then ?_
      refine V_seq ?_
      refine V_draws (acts [8]) (only b9) [[0, 1, 2, 3, 4, 5, 6, 7, 8]] (by kernel_rfl) (by repeat first | exact sure_body (by rintro _ _ ⟨_, _, h, _⟩; exact ⟨_, h⟩) | refine sure_then ?_ | refine sure_block ?_ | refine sure_join ?_) (by kernel_rfl) ?_
      intro w13 hk12 he14 L hL15
      have hsz16 := Keep.size hk12
      replace hv := hv.keep hk12 (fun f => f)
      have hvblt := hv.lt
      replace hB9 := hB9.keep hk12 (fun f => f)
      have hb9lt := hB9.lt
      replace h := h.keep hk12 (fun f => f)
      have hblt := h.blk.lt
      replace hK0 := Keep.tr hK0 (Keep.ofNone hk12); have hzhK0 := Keep.size hK0
      have qhv := hv
      have qhB9 := hB9
      have qh := h
      have K17 : Keep (only b9) w13 w13 := Keep.refl _ _
      obtain rfl := List.mem_singleton.1 hL15
      have hw18 : IntKind.i64.wrap (((i : Nat) : Int) + 1) = ((i + 1 : Nat) : Int) := (wrap64_id (by omega) (by omega)).trans (by omega)
      refine GI_static [4, 5, 6, 7, 8] [(0, .slice (some ⟨b, o, none⟩) xs.length cap), (1, .int .i64 ((i : Nat) : Int)), (9, .slice (some ⟨b9, 0, none⟩) (xs.length + 1) nc), (46, .slice (some ⟨b9, 0, none⟩) (xs.length + 1) nc), (49, .int .i64 (IntKind.i64.wrap (((i : Nat) : Int) + 1)))] (by kernel_rfl) ?_
      refine GI_eq [(0, .slice (some ⟨b, o, none⟩) xs.length cap), (1, .int .i64 ((i : Nat) : Int)), (9, .slice (some ⟨b9, 0, none⟩) (xs.length + 1) nc), (46, .slice (some ⟨b9, 0, none⟩) (xs.length + 1) nc), (49, .int .i64 ((i + 1 : Nat) : Int))] (by rw [hw18]) ?_
      refine GI_pure (some 50) ((Op.slice 64 (Operand.tmp 46) (some (Operand.tmp 49)) none none)) (by kernel_rfl) (by kernel_rfl) (pure_sliceFrom (E := 70) (sz := 3) (by_ := 24) (b := b9) (o := 0) (len := xs.length + 1) (cap := nc) (l := i + 1) (kd := .i64) (by kernel_rfl) (by kernel_rfl) (by kernel_rfl) (by omega) (by omega) (by omega)) ?_
      refine GI_static [7, 8] [(9, .slice (some ⟨b9, 0, none⟩) (xs.length + 1) nc), (50, .slice (some ⟨b9, 0 + (i + 1) * 3, none⟩) (xs.length + 1 - (i + 1)) (nc - (i + 1))), (51, .slice (some ⟨b, o, none⟩) xs.length cap), (52, .int .i64 ((i : Nat) : Int))] (by kernel_rfl) ?_
      refine GI_pure (some 53) ((Op.slice 64 (Operand.tmp 51) (some (Operand.tmp 52)) none none)) (by kernel_rfl) (by kernel_rfl) (pure_sliceFrom (E := 70) (sz := 3) (by_ := 24) (b := b) (o := o) (len := xs.length) (cap := cap) (l := i) (kd := .i64) (by kernel_rfl) (by kernel_rfl) (by kernel_rfl) (by omega) (by omega) (by omega)) ?_
      refine GI_final 8 (by kernel_rfl) (by kernel_rfl) ?_
      refine OI_turn (some 54) ((Op.call { callee := (Callee.builtin Builtin.copy), args := #[(Operand.tmp 50), (Operand.tmp 53)], argTypes := #[64, 64] })) (by kernel_rfl) (Blk.lt hB9) (copy_run (t := 64) (E := 70) (at2 := 64) (sz := 3) (by_ := 24) (b := b9) (o := 0 + (i + 1) * 3) (dl := xs.length + 1 - (i + 1)) (dc := nc - (i + 1)) (k := xs.length - i) (m := xs.length - i) (cells := ((xs.map Ci.cells).drop i).flatten) (x := (.tmp 50)) (y := (.tmp 53)) (by kernel_rfl) (by kernel_rfl) hB9 (At.suffT h hi) (by omega) (by omega) (fun u hu => one_flatten Ci.one u (by rw [List.map_drop]; exact List.mem_of_mem_take hu))) ?_
      intro w19 hB9 hk20 hz21
      replace hB9 : Blk w19 b9 (over (over (((xs.map Ci.cells).take i).flatten ++ zs) (i * 3) (Ci.cells x)) ((i + 1) * 3) ((xs.map Ci.cells).drop i).flatten) 70 := by rwa [show ((xs.map Ci.cells).drop i).flatten.take ((xs.length - i) * 3) = ((xs.map Ci.cells).drop i).flatten from List.take_of_length_le (by omega), Nat.zero_add] at hB9
      have hsz22 := Keep.size hk20
      replace hv := hv.keep hk20 (by show ¬ (_ = _); omega)
      have hvblt := hv.lt
      replace h := h.keep hk20 (by show ¬ (_ = _); omega)
      have hblt := h.blk.lt
      replace hK0 := Keep.fresh hK0 hk20 (by intro i hi hs; first | exact hs | exact Or.inl hs | exact Or.inr hs | (exfalso; have hs2 : i = b9 := hs; omega)); have hzhK0 := Keep.size hK0
      refine OI_end rfl ?_
      refine X_then ?_
      refine V_seq ?_
      refine V_region ?_
      refine OI_static 2 [(6, .slice (some ⟨b9, 0, none⟩) (xs.length + 1) nc)] (by kernel_rfl) ?_
      refine OI_end rfl ?_
      refine X_then ?_
      refine V_ret ?_
      refine X_ret_then ?_
      exact X_return _ rfl ⟨_, nc, rfl, ins_slt hB9 hi (by omega) (by rw [g3, g4]; omega) (by rw [List.length_map]; exact g2) Ci.len, hK0, fun k hk => .inr (by rw [inA_some hk]; omega)⟩
    · skip
      refine V_skip ?_
      refine X_then ?_
      refine V_seq ?_
      refine V_region ?_
      have hw23 : IntKind.i64.wrap (((xs.length : Nat) : Int) + 1) = ((xs.length + 1 : Nat) : Int) := (wrap64_id (by omega) (by omega)).trans (by omega)
      refine OI_static 4 [(1, .int .i64 ((i : Nat) : Int)), (2, .slice (some ⟨vb, 0, none⟩) 1 1), (7, .int .i64 1), (8, .int .i64 ((xs.length : Nat) : Int)), (56, .slice (some ⟨b, o, none⟩) xs.length cap), (59, .int .i64 (IntKind.i64.wrap (((xs.length : Nat) : Int) + 1)))] (by kernel_rfl) ?_
      refine OI_eq [(1, .int .i64 ((i : Nat) : Int)), (2, .slice (some ⟨vb, 0, none⟩) 1 1), (7, .int .i64 1), (8, .int .i64 ((xs.length : Nat) : Int)), (56, .slice (some ⟨b, o, none⟩) xs.length cap), (59, .int .i64 ((xs.length + 1 : Nat) : Int))] (by rw [hw23]) ?_
      refine OI_pure (some 60) ((Op.slice 64 (Operand.tmp 56) none (some (Operand.tmp 59)) none)) (by kernel_rfl) (pure_sliceTo (E := 70) (sz := 3) (by_ := 24) (base := (some ⟨b, o, none⟩)) (len := xs.length) (cap := cap) (h := xs.length + 1) (kd := .i64) (by kernel_rfl) (by kernel_rfl) (by kernel_rfl) (by omega)) ?_
      refine OI_static 6 [(0, .slice (some ⟨b, o, none⟩) (xs.length + 1) cap), (1, .int .i64 ((i : Nat) : Int)), (2, .slice (some ⟨vb, 0, none⟩) 1 1), (7, .int .i64 1), (8, .int .i64 ((xs.length : Nat) : Int))] (by kernel_rfl) ?_
      refine OI_end rfl ?_
      refine X_then ?_
      refine V_seq ?_
      refine V_seq ?_
      refine V_region ?_
      have hw24 : IntKind.i64.wrap (((i : Nat) : Int) + 1) = ((i + 1 : Nat) : Int) := (wrap64_id (by omega) (by omega)).trans (by omega)
      refine OI_static 5 [(0, .slice (some ⟨b, o, none⟩) (xs.length + 1) cap), (1, .int .i64 ((i : Nat) : Int)), (2, .slice (some ⟨vb, 0, none⟩) 1 1), (7, .int .i64 1), (8, .int .i64 ((xs.length : Nat) : Int)), (61, .slice (some ⟨vb, 0, none⟩) 1 1), (62, .slice (some ⟨b, o, none⟩) (xs.length + 1) cap), (65, .int .i64 (IntKind.i64.wrap (((i : Nat) : Int) + 1)))] (by kernel_rfl) ?_
      refine OI_eq [(0, .slice (some ⟨b, o, none⟩) (xs.length + 1) cap), (1, .int .i64 ((i : Nat) : Int)), (2, .slice (some ⟨vb, 0, none⟩) 1 1), (7, .int .i64 1), (8, .int .i64 ((xs.length : Nat) : Int)), (61, .slice (some ⟨vb, 0, none⟩) 1 1), (62, .slice (some ⟨b, o, none⟩) (xs.length + 1) cap), (65, .int .i64 ((i + 1 : Nat) : Int))] (by rw [hw24]) ?_
      refine OI_pure (some 66) ((Op.slice 64 (Operand.tmp 62) (some (Operand.tmp 65)) none none)) (by kernel_rfl) (pure_sliceFrom (E := 70) (sz := 3) (by_ := 24) (b := b) (o := o) (len := xs.length + 1) (cap := cap) (l := i + 1) (kd := .i64) (by kernel_rfl) (by kernel_rfl) (by kernel_rfl) (by omega) (by omega) (by omega)) ?_
      refine OI_value (d := some 67) (op := (Op.call { callee := (Callee.value (Operand.func 45)), args := #[(Operand.tmp 61), (Operand.tmp 66)], argTypes := #[64, 64] })) (v := .bool false) (by kernel_rfl) (overlaps_run (f := 45) (fn := Try.f45) (tS := 64) (tR := 4) (E := 70) (sz := 3) (by_ := 24) (vb := vb) (vo := 0) (b := b) (o := o + (i + 1) * 3) (la := 1) (ca := 1) (lb := xs.length + 1 - (i + 1)) (cb := cap - (i + 1)) rfl (by kernel_rfl) (by kernel_rfl) (by kernel_rfl) (by kernel_rfl) (by kernel_rfl) (by kernel_rfl) hne hv (At.blk h) (by intro hL; have := h.room; rw [hL] at this; simp at this; omega)) ?_
      refine OI_static 8 [(0, .slice (some ⟨b, o, none⟩) (xs.length + 1) cap), (1, .int .i64 ((i : Nat) : Int)), (2, .slice (some ⟨vb, 0, none⟩) 1 1), (7, .int .i64 1), (8, .int .i64 ((xs.length : Nat) : Int)), (68, .bool true)] (by kernel_rfl) ?_
      refine OI_end rfl ?_
      refine X_then ?_
      refine V_true rfl ?_
      refine V_seq ?_
      refine V_draws (acts [8]) (only b) [[0, 1, 2, 3, 4, 5, 6, 7, 8]] (by kernel_rfl) (by repeat first | exact sure_body (by rintro _ _ ⟨_, _, h, _⟩; exact ⟨_, h⟩) | refine sure_then ?_ | refine sure_block ?_ | refine sure_join ?_) (by kernel_rfl) ?_
      intro w26 hk25 he27 L hL28
      have hsz29 := Keep.size hk25
      replace hv := hv.keep hk25 (fun f => f)
      have hvblt := hv.lt
      replace h := h.keep hk25 (fun f => f)
      have hblt := h.blk.lt
      replace hK0 := Keep.tr hK0 (Keep.ofNone hk25); have hzhK0 := Keep.size hK0
      have qhv := hv
      have qh := h
      have K30 : Keep (only b) w26 w26 := Keep.refl _ _
      obtain rfl := List.mem_singleton.1 hL28
      have hw31 : IntKind.i64.wrap (((i : Nat) : Int) + 1) = ((i + 1 : Nat) : Int) := (wrap64_id (by omega) (by omega)).trans (by omega)
      refine GI_static [4, 5, 6, 7, 8] [(0, .slice (some ⟨b, o, none⟩) (xs.length + 1) cap), (1, .int .i64 ((i : Nat) : Int)), (2, .slice (some ⟨vb, 0, none⟩) 1 1), (69, .slice (some ⟨b, o, none⟩) (xs.length + 1) cap), (72, .int .i64 (IntKind.i64.wrap (((i : Nat) : Int) + 1)))] (by kernel_rfl) ?_
      refine GI_eq [(0, .slice (some ⟨b, o, none⟩) (xs.length + 1) cap), (1, .int .i64 ((i : Nat) : Int)), (2, .slice (some ⟨vb, 0, none⟩) 1 1), (69, .slice (some ⟨b, o, none⟩) (xs.length + 1) cap), (72, .int .i64 ((i + 1 : Nat) : Int))] (by rw [hw31]) ?_
      refine GI_pure (some 73) ((Op.slice 64 (Operand.tmp 69) (some (Operand.tmp 72)) none none)) (by kernel_rfl) (by kernel_rfl) (pure_sliceFrom (E := 70) (sz := 3) (by_ := 24) (b := b) (o := o) (len := xs.length + 1) (cap := cap) (l := i + 1) (kd := .i64) (by kernel_rfl) (by kernel_rfl) (by kernel_rfl) (by omega) (by omega) (by omega)) ?_
      refine GI_static [7, 8] [(0, .slice (some ⟨b, o, none⟩) (xs.length + 1) cap), (1, .int .i64 ((i : Nat) : Int)), (2, .slice (some ⟨vb, 0, none⟩) 1 1), (73, .slice (some ⟨b, o + (i + 1) * 3, none⟩) (xs.length + 1 - (i + 1)) (cap - (i + 1))), (74, .slice (some ⟨b, o, none⟩) (xs.length + 1) cap), (75, .int .i64 ((i : Nat) : Int))] (by kernel_rfl) ?_
      refine GI_pure (some 76) ((Op.slice 64 (Operand.tmp 74) (some (Operand.tmp 75)) none none)) (by kernel_rfl) (by kernel_rfl) (pure_sliceFrom (E := 70) (sz := 3) (by_ := 24) (b := b) (o := o) (len := xs.length + 1) (cap := cap) (l := i) (kd := .i64) (by kernel_rfl) (by kernel_rfl) (by kernel_rfl) (by omega) (by omega) (by omega)) ?_
      refine GI_final 8 (by kernel_rfl) (by kernel_rfl) ?_
      obtain ⟨g1, g2, g3⟩ := ins_cells (i := i) (c := Ci.cells x) h (by simp; omega) (by simp; omega) (Ci.len x)
      have hdc := h.dropcells (i := i)
      have hroom := h.room
      rw [List.length_map] at g1 g2 g3 hdc
      have hdl : ((L.drop (o + i * 3)).take ((xs.length + 1 - i) * 3)).take ((xs.length - i) * 3) = (L.drop (o + i * 3)).take ((xs.length - i) * 3) := by rw [List.take_take, Nat.min_eq_left (by omega)]
      refine OI_turn (some 77) ((Op.call { callee := (Callee.builtin Builtin.copy), args := #[(Operand.tmp 73), (Operand.tmp 76)], argTypes := #[64, 64] })) (by kernel_rfl) (Blk.lt (At.blk h)) (copy_run (t := 64) (E := 70) (at2 := 64) (sz := 3) (by_ := 24) (b := b) (o := o + (i + 1) * 3) (dl := xs.length + 1 - (i + 1)) (dc := cap - (i + 1)) (k := xs.length + 1 - i) (m := xs.length - i) (cells := (L.drop (o + i * 3)).take ((xs.length + 1 - i) * 3)) (x := (.tmp 73)) (y := (.tmp 76)) (by kernel_rfl) (by kernel_rfl) (At.blk h) (slr_blk (At.blk h) (by omega) (by omega)) (by omega) (by omega) (fun u hu => one_flatten (xs := xs.drop i) Ci.one u (by rw [List.map_drop, ← hdc, ← hdl]; exact hu))) ?_
      intro w32 hB hk33 hz34
      replace hB : Blk w32 b (over L (o + (i + 1) * 3) ((L.drop (o + i * 3)).take ((xs.length - i) * 3))) T := by rwa [hdl] at hB
      have hsz35 := Keep.size hk33
      replace hv := hv.keep hk33 (by show ¬ (_ = _); omega)
      have hvblt := hv.lt
      replace hK0 := Keep.fresh hK0 hk33 (by intro i hi hs; first | exact hs | exact Or.inl hs | exact Or.inr hs | (exfalso; have hs2 : i = b := hs; omega)); have hzhK0 := Keep.size hK0
      refine OI_end rfl ?_
      refine X_then ?_
      refine V_seq ?_
      refine V_region ?_
      refine OI_static 2 [(0, .slice (some ⟨b, o, none⟩) (xs.length + 1) cap), (2, .slice (some ⟨vb, 0, none⟩) 1 1), (78, .slice (some ⟨b, o, none⟩) (xs.length + 1) cap), (79, .int .i64 ((i : Nat) : Int))] (by kernel_rfl) ?_
      refine OI_pure (some 80) ((Op.slice 64 (Operand.tmp 78) (some (Operand.tmp 79)) none none)) (by kernel_rfl) (pure_sliceFrom (E := 70) (sz := 3) (by_ := 24) (b := b) (o := o) (len := xs.length + 1) (cap := cap) (l := i) (kd := .i64) (by kernel_rfl) (by kernel_rfl) (by kernel_rfl) (by omega) (by omega) (by omega)) ?_
      refine OI_static 4 [(0, .slice (some ⟨b, o, none⟩) (xs.length + 1) cap), (80, .slice (some ⟨b, o + i * 3, none⟩) (xs.length + 1 - i) (cap - i)), (81, .slice (some ⟨vb, 0, none⟩) 1 1)] (by kernel_rfl) ?_
      refine OI_turn (some 82) ((Op.call { callee := (Callee.builtin Builtin.copy), args := #[(Operand.tmp 80), (Operand.tmp 81)], argTypes := #[64, 64] })) (by kernel_rfl) (Blk.lt hB) (copy_run (t := 64) (E := 70) (at2 := 64) (sz := 3) (by_ := 24) (b := b) (o := o + i * 3) (dl := xs.length + 1 - i) (dc := cap - i) (k := 1) (m := 1) (cells := Ci.cells x) (x := (.tmp 80)) (y := (.tmp 81)) (by kernel_rfl) (by kernel_rfl) hB (slr_one hv (Ci.len _)) (by omega) (by omega) (fun u hu => Ci.one _ u (List.mem_of_mem_take hu))) ?_
      intro w36 hB hk37 hz38
      replace hB : Blk w36 b (over (over L (o + (i + 1) * 3) ((L.drop (o + i * 3)).take ((xs.length - i) * 3))) (o + i * 3) (Ci.cells x)) T := by rwa [show (Ci.cells x).take (1 * 3) = Ci.cells x from List.take_of_length_le (by rw [Ci.len]; omega)] at hB
      have hsz39 := Keep.size hk37
      replace hv := hv.keep hk37 (by show ¬ (_ = _); omega)
      have hvblt := hv.lt
      replace hK0 := Keep.fresh hK0 hk37 (by intro i hi hs; first | exact hs | exact Or.inl hs | exact Or.inr hs | (exfalso; have hs2 : i = b := hs; omega)); have hzhK0 := Keep.size hK0
      refine OI_end rfl ?_
      refine X_then ?_
      refine V_seq ?_
      refine V_region ?_
      refine OI_static 2 [(6, .slice (some ⟨b, o, none⟩) (xs.length + 1) cap)] (by kernel_rfl) ?_
      refine OI_end rfl ?_
      refine X_then ?_
      refine V_ret ?_
      refine X_ret_then ?_
      exact X_return _ rfl ⟨_, cap, rfl, ins_slt hB hi (by omega) (by rw [g3]; omega) (by rw [List.length_map]; exact g2) Ci.len, hK0, fun k hk => .inl (inA_some hk)⟩

theorem insert_spec (A : Option Addr) (cap vb i : Nat) (xs : List Ci) (x : Ci) (w : World) (hA : SlT w 3 Ci.cells A cap xs) (hv : Blk w vb (Ci.cells x) 70) (hne : ¬ inA A vb) (hi : i ≤ xs.length) (hn : xs.length ≤ 1000000) : Calls Try.prog 31 #[.slice A xs.length cap, .int .i64 (i : Int), .slice (some ⟨vb, 0, none⟩) 1 1] w fun e w' => ∃ A' cap', e = .returned (.slice A' (xs.length + 1) cap') ∧ SlT w' 3 Ci.cells A' cap' (xs.take i ++ x :: xs.drop i) ∧ Keep (inA A) w w' ∧ (∀ k, inA A' k → inA A k ∨ w.heap.size ≤ k) := by
  rcases hA with ⟨rfl, rfl, h0⟩ | ⟨b, o, L, T, rfl, h1, h2, h3, h4, h5⟩
  · obtain rfl : xs = [] := by simpa using h0
    obtain rfl : i = 0 := by simpa using hi
    exact (insert_nil vb x w hv).mono (by rintro e w' ⟨A', cap', rfl, h1, h2, h3⟩; exact ⟨A', cap', rfl, h1, h2.ofNone, fun k hk => .inr (h3 k hk)⟩)
  · exact (insert_at b o cap vb i L T xs x w ⟨h1, h2, h3, h4, h5⟩ hv (fun h => hne ⟨_, rfl, h⟩) hi hn).mono (by
      rintro e w' ⟨A', cap', rfl, h1, h2, h3⟩
      exact ⟨A', cap', rfl, h1, h2.mono (fun k _ hk => ⟨_, rfl, hk⟩), fun k hk => (h3 k hk).imp (fun h => ⟨_, rfl, h⟩) id⟩)

theorem delete_spec (b o cap i : Nat) (L : List Value) (T : TypeId) (xs : List Ci) (w : World) (h : At w b o L T 3 cap (xs.map Ci.cells)) (hi : i < xs.length) (hn : xs.length ≤ 1000000) : Calls Try.prog 36 #[.slice (some ⟨b, o, none⟩) xs.length cap, .int .i64 (i : Int), .int .i64 ((i + 1 : Nat) : Int)] w fun e w' => e = .returned (.slice (some ⟨b, o, none⟩) (xs.length - 1) cap) ∧ SlT w' 3 Ci.cells (some ⟨b, o, none⟩) cap (xs.take i ++ xs.drop (i + 1)) ∧ Keep (only b) w w' := by
  have hblt := h.blk.lt
  have hle : xs.length ≤ cap := by simpa using h.le
  have hK0 : Keep (only b) w w := Keep.refl _ _
  have hzhK0 := Keep.size hK0
  refine enterV Try.func36 rfl [.slice (some ⟨b, o, none⟩) xs.length cap, .int .i64 ((i : Nat) : Int), .int .i64 ((i + 1 : Nat) : Int)] 33 rfl rfl rfl ?_
  refine V_pick [(0, .slice (some ⟨b, o, none⟩) xs.length cap), (1, .int .i64 ((i : Nat) : Int)), (2, .int .i64 ((i + 1 : Nat) : Int))] rfl ?_
  refine V_seq ?_
  refine V_region ?_
  refine OI_static 1 [(0, .slice (some ⟨b, o, none⟩) xs.length cap), (1, .int .i64 ((i : Nat) : Int)), (2, .int .i64 ((i + 1 : Nat) : Int))] (by kernel_rfl) ?_
  refine OI_end rfl ?_
  refine X_then ?_
  refine V_seq ?_
  refine V_region ?_
  refine OI_static 5 [(0, .slice (some ⟨b, o, none⟩) xs.length cap), (1, .int .i64 ((i : Nat) : Int)), (2, .int .i64 ((i + 1 : Nat) : Int)), (8, .slice (some ⟨b, o, none⟩) xs.length cap), (9, .int .i64 ((i : Nat) : Int)), (10, .int .i64 ((i + 1 : Nat) : Int)), (12, .int .i64 ((xs.length : Nat) : Int))] (by kernel_rfl) ?_
  refine OI_pure (some 13) ((Op.slice 64 (Operand.tmp 8) (some (Operand.tmp 9)) (some (Operand.tmp 10)) (some (Operand.tmp 12)))) (by kernel_rfl) (pure_slice3 (E := 70) (sz := 3) (by_ := 24) (base := (some ⟨b, o, none⟩)) (len := xs.length) (cap := cap) (l := i) (h := i + 1) (m := xs.length) (k1 := .i64) (k2 := .i64) (k3 := .i64) (by kernel_rfl) (by kernel_rfl) (by kernel_rfl) (by kernel_rfl) (by kernel_rfl) (by omega) (by omega) (by omega)) ?_
  refine OI_pick [(0, .slice (some ⟨b, o, none⟩) xs.length cap), (1, .int .i64 ((i : Nat) : Int)), (2, .int .i64 ((i + 1 : Nat) : Int))] (by kernel_rfl) ?_
  refine OI_end rfl ?_
  refine X_then ?_
  refine V_seq ?_
  refine V_seq ?_
  refine V_region ?_
  refine OI_static 3 [(0, .slice (some ⟨b, o, none⟩) xs.length cap), (1, .int .i64 ((i : Nat) : Int)), (2, .int .i64 ((i + 1 : Nat) : Int)), (16, .bool (decide (((i : Nat) : Int) = ((i + 1 : Nat) : Int))))] (by kernel_rfl) ?_
  refine OI_end rfl ?_
  refine X_then ?_
  refine V_if (((i : Nat) : Int) = ((i + 1 : Nat) : Int)) (by kernel_rfl) (fun hc1 => ?_) (fun hc1 => ?_)
  · skip
    exact (by omega : False).elim
  · skip
    refine V_skip ?_
    refine X_then ?_
    refine V_seq ?_
    refine V_region ?_
    refine OI_static 3 [(0, .slice (some ⟨b, o, none⟩) xs.length cap), (1, .int .i64 ((i : Nat) : Int)), (2, .int .i64 ((i + 1 : Nat) : Int)), (7, .int .i64 ((xs.length : Nat) : Int))] (by kernel_rfl) ?_
    refine OI_end rfl ?_
    refine X_then ?_
    refine V_seq ?_
    refine V_draws (acts [6]) (only b) [[0, 1, 2, 3, 4, 5, 6, 7]] (by kernel_rfl) (by repeat first | exact sure_body (by rintro _ _ ⟨h, _⟩; exact ⟨_, h⟩) | refine sure_then ?_ | refine sure_block ?_ | refine sure_join ?_) (by kernel_rfl) ?_
    intro w3 hk2 he4 L hL5
    have hsz6 := Keep.size hk2
    replace h := h.keep hk2 (fun f => f)
    have hblt := h.blk.lt
    replace hK0 := Keep.tr hK0 (Keep.ofNone hk2); have hzhK0 := Keep.size hK0
    have qh := h
    have K7 : Keep (only b) w3 w3 := Keep.refl _ _
    obtain rfl := List.mem_singleton.1 hL5
    refine GI_static [2, 3, 4, 5, 6, 7] [(0, .slice (some ⟨b, o, none⟩) xs.length cap), (2, .int .i64 ((i + 1 : Nat) : Int)), (7, .int .i64 ((xs.length : Nat) : Int)), (20, .slice (some ⟨b, o, none⟩) xs.length cap), (21, .int .i64 ((i : Nat) : Int))] (by kernel_rfl) ?_
    refine GI_pure (some 22) ((Op.slice 64 (Operand.tmp 20) none (some (Operand.tmp 21)) none)) (by kernel_rfl) (by kernel_rfl) (pure_sliceTo (E := 70) (sz := 3) (by_ := 24) (base := (some ⟨b, o, none⟩)) (len := xs.length) (cap := cap) (h := i) (kd := .i64) (by kernel_rfl) (by kernel_rfl) (by kernel_rfl) (by omega)) ?_
    refine GI_static [5, 6, 7] [(7, .int .i64 ((xs.length : Nat) : Int)), (22, .slice (some ⟨b, o, none⟩) i cap), (23, .slice (some ⟨b, o, none⟩) xs.length cap), (24, .int .i64 ((i + 1 : Nat) : Int))] (by kernel_rfl) ?_
    obtain ⟨A8, hA8⟩ : ∃ A8 : Option Addr, A8 = (if cap = i + 1 then some ⟨b, o, none⟩ else (some ⟨b, o, none⟩ : Option Addr).map (·.add ((i + 1) * 3))) := ⟨_, rfl⟩
    refine GI_pure (some 25) ((Op.slice 64 (Operand.tmp 23) (some (Operand.tmp 24)) none none)) (by kernel_rfl) (by kernel_rfl) (PureOp.cast (v' := .slice A8 (xs.length - (i + 1)) (cap - (i + 1))) (pure_slice (E := 70) (sz := 3) (by_ := 24) (base := some ⟨b, o, none⟩) (len := xs.length) (cap := cap) (lo := some (.tmp 24)) (hi := none) (l := i + 1) (h := xs.length) (by kernel_rfl) (by kernel_rfl) ⟨.i64, by kernel_rfl⟩ rfl (by omega) (by omega)) (by rw [hA8])) ?_
    have h8 := At.fromT h (i := i + 1) (by omega)
    rw [← hA8] at h8
    obtain ⟨g0, g1, g2, g3⟩ := del_cells (i := i) (zs := [.int .i64 0, .int .i64 0, .int .i64 0]) h (by simp; omega) (by simp)
    have hroom := h.room
    refine GI_turn (some 26) ((Op.call { callee := (Callee.builtin Builtin.append), args := #[(Operand.tmp 22), (Operand.tmp 25)], argTypes := #[64, 64] })) (by kernel_rfl) (by kernel_rfl) K7 (fun hh => rfl) (Blk.lt (At.blk h)) (append_in_run (t := 64) (at2 := 64) (E := 70) (E2 := 70) (sz := 3) (by_ := 24) (m := i) (k := xs.length - (i + 1)) (b := b) (o := o) (cap := cap) (new := ((xs.map Ci.cells).drop (i + 1)).flatten) (x := (.tmp 22)) (y := (.tmp 25)) (xv := .slice A8 (xs.length - (i + 1)) (cap - (i + 1))) (by kernel_rfl) (by kernel_rfl) (by kernel_rfl) (by kernel_rfl) (At.blk h) h8 (by omega) (by omega) (by rw [← List.map_drop]; exact one_flatten Ci.one)) ?_
    intro w9 hB hk9 hz9 K9
    have hsz8 := Keep.size hk9
    replace hK0 := Keep.fresh hK0 hk9 (by intro i hi hs; first | exact hs | exact Or.inl hs | exact Or.inr hs | (exfalso; have hs2 : i = b := hs; omega)); have hzhK0 := Keep.size hK0
    refine GI_pick [(7, .int .i64 ((xs.length : Nat) : Int)), (26, .slice (some ⟨b, o, none⟩) (i + (xs.length - (i + 1))) cap)] (by kernel_rfl) ?_
    refine GI_eq [(7, .int .i64 ((xs.length : Nat) : Int)), (26, .slice (some ⟨b, o, none⟩) (xs.length - 1) cap)] (by rw [show i + (xs.length - (i + 1)) = xs.length - 1 by omega]) ?_
    refine GI_static [] [(0, .slice (some ⟨b, o, none⟩) (xs.length - 1) cap), (7, .int .i64 ((xs.length : Nat) : Int))] (by kernel_rfl) ?_
    refine GI_end ?_
    refine X_then ?_
    refine V_seq ?_
    refine V_region ?_
    refine OI_static 4 [(0, .slice (some ⟨b, o, none⟩) (xs.length - 1) cap), (27, .slice (some ⟨b, o, none⟩) (xs.length - 1) cap), (29, .int .i64 ((xs.length - 1 : Nat) : Int)), (30, .int .i64 ((xs.length : Nat) : Int))] (by kernel_rfl) ?_
    refine OI_pure (some 31) ((Op.slice 64 (Operand.tmp 27) (some (Operand.tmp 29)) (some (Operand.tmp 30)) none)) (by kernel_rfl) (pure_sliceMid (E := 70) (sz := 3) (by_ := 24) (b := b) (o := o) (len := xs.length - 1) (cap := cap) (l := xs.length - 1) (h := xs.length) (k1 := .i64) (k2 := .i64) (by kernel_rfl) (by kernel_rfl) (by kernel_rfl) (by kernel_rfl) (by omega) (by omega) (by omega)) ?_
    refine OI_pick [(0, .slice (some ⟨b, o, none⟩) (xs.length - 1) cap), (31, .slice (some ⟨b, o + (xs.length - 1) * 3, none⟩) (xs.length - (xs.length - 1)) (cap - (xs.length - 1)))] (by kernel_rfl) ?_
    refine OI_eq [(0, .slice (some ⟨b, o, none⟩) (xs.length - 1) cap), (31, .slice (some ⟨b, o + (xs.length - 1) * 3, none⟩) 1 (cap - (xs.length - 1)))] (by rw [show xs.length - (xs.length - 1) = 1 by omega]) ?_
    rw [List.length_map] at g2 g3
    refine OI_turn none ((Op.call { callee := (Callee.builtin Builtin.clear), args := #[(Operand.tmp 31)], argTypes := #[64] })) (by kernel_rfl) (Blk.lt hB) (clear_run (t := 64) (E := 70) (sz := 3) (by_ := 24) (zv := (.agg #[.int .i64 0, .int .i64 0, .int .i64 0])) (b := b) (o := o + (xs.length - 1) * 3) (k := 1) (cap := cap - (xs.length - 1)) (x := (.tmp 31)) (by kernel_rfl) (by kernel_rfl) (by kernel_rfl) (one_all (by kernel_rfl)) (by kernel_rfl) hB (by omega) (by rw [g1]; omega) ([.int .i64 0, .int .i64 0, .int .i64 0]) (by kernel_rfl)) ?_
    intro w10 hC hk10 hz10
    have hsz9 := Keep.size hk10
    replace hK0 := Keep.fresh hK0 hk10 (by intro i hi hs; first | exact hs | exact Or.inl hs | exact Or.inr hs | (exfalso; have hs2 : i = b := hs; omega)); have hzhK0 := Keep.size hK0
    refine OI_end rfl ?_
    refine X_then ?_
    refine V_seq ?_
    refine V_region ?_
    refine OI_static 2 [(6, .slice (some ⟨b, o, none⟩) (xs.length - 1) cap)] (by kernel_rfl) ?_
    refine OI_end rfl ?_
    refine X_then ?_
    refine V_ret ?_
    exact X_return _ rfl ⟨rfl, del_slt hC hi (by omega) (by rw [g3]; omega) (by rw [List.length_map]; exact g2) Ci.len, hK0⟩
end Go.Al
