/-
  Put together out of 14 texts: Walks of package agenda. Walks of package agenda: the agenda. Walks of the laws of the agenda. Walks of the laws of the agenda: what did not fit is done first. Arguments, read as data: what cells a value of a type without pointers fills; slices of such values; loads from memory that is only read. Walks of the laws of the agenda: what is due. Walks of the laws of the agenda: how many there may be. Ranges over functions: what an iterator does with its yield; a loop over one; a function that holds such a loop. Walks of package agenda: all tasks. Iterators with memory of their own: a loop's rounds leave alone what the iterator has laid for itself. Equality of structs of integers: of one with itself. Equality of structs and arrays of integers and bools, however nested: of one with itself. Walks of the laws of the agenda: two rows of tasks. Walks of the document's agenda: Cancel.
-/
import Derived.Test.YtbfecgncndaodaaAgendaPlaysB1
import Derived.WalkKit
import Derived.ProofKit
import Derived.OpenShut
import Derived.Deep.Slices
import Derived.RangeFuncNested
import Derived.Laws.StructEq
import Derived.ChangeKeysEq
namespace Go.Al
open Go Go.RowKit Go.Proofs
theorem cloneTk_nil (w : World) : Calls Try.prog 27 #[.slice none 0 0] w fun e w' => e = .returned (.slice none 0 0) ∧ w' = w := by
  refine enterV Try.func27 rfl [.slice none 0 0] 8 rfl rfl rfl ?_
  refine V_pick [(0, .slice none 0 0)] rfl ?_
  refine V_seq ?_
  refine V_region ?_
  refine OI_static 1 [(0, .slice none 0 0)] (by kernel_rfl) ?_
  refine OI_end rfl ?_
  refine X_then ?_
  refine V_seq ?_
  refine V_seq ?_
  refine V_region ?_
  refine OI_static 2 [(0, .slice none 0 0), (4, .bool true)] (by kernel_rfl) ?_
  refine OI_end rfl ?_
  refine X_then ?_
  refine V_true rfl ?_
  refine V_seq ?_
  refine V_region ?_
  refine OI_static 1 [(2, .slice none 0 0)] (by kernel_rfl) ?_
  refine OI_end rfl ?_
  refine X_then ?_
  refine V_ret ?_
  refine X_ret_then ?_
  exact X_return _ rfl ⟨rfl, rfl⟩

theorem cloneTk_at (b o cap : Nat) (L : List Value) (T : TypeId) (xs : List Tk) (w : World) (h : At w b o L T 36 cap (xs.map Tk.cells)) (hn : xs.length ≤ 1000000) : Calls Try.prog 27 #[.slice (some ⟨b, o, none⟩) xs.length cap] w fun e w' => ∃ A' cap', e = .returned (.slice A' xs.length cap') ∧ SlT w' 36 Tk.cells A' cap' xs ∧ Keep none_ w w' ∧ (∀ k, inA A' k → w.heap.size ≤ k) := by
  have hblt := h.blk.lt
  have hK0 : Keep none_ w w := Keep.refl _ _
  have hzhK0 := Keep.size hK0
  refine enterV Try.func27 rfl [.slice (some ⟨b, o, none⟩) xs.length cap] 8 rfl rfl rfl ?_
  refine V_pick [(0, .slice (some ⟨b, o, none⟩) xs.length cap)] rfl ?_
  refine V_seq ?_
  refine V_region ?_
  refine OI_static 1 [(0, .slice (some ⟨b, o, none⟩) xs.length cap)] (by kernel_rfl) ?_
  refine OI_end rfl ?_
  refine X_then ?_
  refine V_seq ?_
  refine V_seq ?_
  refine V_region ?_
  refine OI_static 2 [(0, .slice (some ⟨b, o, none⟩) xs.length cap), (4, .bool false)] (by kernel_rfl) ?_
  refine OI_end rfl ?_
  refine X_then ?_
  refine V_false rfl ?_
  refine V_skip ?_
  refine X_then ?_
  refine V_seq ?_
  refine V_region ?_
  refine OI_slit (E := 28) (zv := .agg #[.int .i64 0, .int .i64 0, .int .i64 0, .int .u8 0, .int .u8 0, .int .u8 0, .int .u8 0, .int .u8 0, .int .u8 0, .int .u8 0, .int .u8 0, .int .u8 0, .int .u8 0, .int .u8 0, .int .u8 0, .int .u8 0, .int .u8 0, .int .u8 0, .int .u8 0, .int .u8 0, .int .u8 0, .int .u8 0, .int .u8 0, .int .u8 0, .int .u8 0, .int .u8 0, .int .u8 0, .int .u8 0, .int .u8 0, .int .u8 0, .int .u8 0, .int .u8 0, .int .u8 0, .int .u8 0, .int .u8 0, .int .i64 0]) (sz := 36) (by_ := 64) 31 0 #[] [] [] (some 5) (by kernel_rfl) (by kernel_rfl) (by kernel_rfl) (by omega) rfl (by omega) (by intro v hv; cases hv) (by kernel_rfl) rfl ?_
  intro b1 w1 e1 hb1 k1 z1
  have hsz2 := Keep.size k1
  replace h := h.keep k1 (fun f => f)
  have hblt := h.blk.lt
  replace hK0 := Keep.tr hK0 (Keep.ofNone k1); have hzhK0 := Keep.size hK0
  have hb1lt := hb1.lt
  refine OI_static 2 [(5, .slice (some ⟨b1, 0, none⟩) 0 0), (6, .slice (some ⟨b, o, none⟩) xs.length cap)] (by kernel_rfl) ?_
  refine OI_append (t := 31) (at2 := 31) (E := 28) (E2 := 28) (sz := 36) (by_ := 64) (zv := .agg #[.int .i64 0, .int .i64 0, .int .i64 0, .int .u8 0, .int .u8 0, .int .u8 0, .int .u8 0, .int .u8 0, .int .u8 0, .int .u8 0, .int .u8 0, .int .u8 0, .int .u8 0, .int .u8 0, .int .u8 0, .int .u8 0, .int .u8 0, .int .u8 0, .int .u8 0, .int .u8 0, .int .u8 0, .int .u8 0, .int .u8 0, .int .u8 0, .int .u8 0, .int .u8 0, .int .u8 0, .int .u8 0, .int .u8 0, .int .u8 0, .int .u8 0, .int .u8 0, .int .u8 0, .int .u8 0, .int .u8 0, .int .i64 0]) (m := 0) (k := xs.length) (.tmp 5) (.tmp 6) (.slice (some ⟨b1, 0, none⟩) 0 0) (.slice (some ⟨b, o, none⟩) xs.length cap) (some 7) (by kernel_rfl) (by kernel_rfl) (by kernel_rfl) (by kernel_rfl) (by kernel_rfl) (by kernel_rfl) (by kernel_rfl) (SlT.slr (slt_blk (f := Tk.cells) (xs := []) hb1 Tk.len rfl)) (SlT.slr (At.slt h)) (one_flat Tk.one) (by omega) (by omega) (by omega) (by omega) ?_
  intro v w9 hap
  obtain ⟨A9, cap9, rfl, h9, hin⟩ := SlT.of (xs := xs) hap.holds (by omega) (by simp) (fun x _ => Tk.len x)
  have hk9 : Keep (only b1) w1 w9 := hap.keep
  have hown : ∀ k, inA A9 k → w.heap.size ≤ k := fun k hk => by rcases hap.own k (hin k hk) with h | h; (have h : k = b1 := h; omega); omega
  have hsz3 := Keep.size hk9
  replace h := h.keep hk9 (by show ¬ (_ = _); omega)
  have hblt := h.blk.lt
  replace hK0 := Keep.fresh hK0 hk9 (by intro i hi hs; first | exact hs | exact Or.inl hs | exact Or.inr hs | (exfalso; have hs2 : i = b1 := hs; omega)); have hzhK0 := Keep.size hK0
  refine OI_pick [(7, .slice A9 (0 + xs.length) cap9)] (by kernel_rfl) ?_
  refine OI_eq [(7, .slice A9 xs.length cap9)] (by rw [Nat.zero_add]) ?_
  refine OI_static 4 [(2, .slice A9 xs.length cap9)] (by kernel_rfl) ?_
  refine OI_end rfl ?_
  refine X_then ?_
  refine V_ret ?_
  exact X_return _ rfl ⟨A9, cap9, rfl, h9, hK0, hown⟩

theorem cloneTk_spec (A : Option Addr) (cap : Nat) (xs : List Tk) (w : World) (hA : SlT w 36 Tk.cells A cap xs) (hn : xs.length ≤ 1000000) : Calls Try.prog 27 #[.slice A xs.length cap] w fun e w' => ∃ A' cap', e = .returned (.slice A' xs.length cap') ∧ SlT w' 36 Tk.cells A' cap' xs ∧ Keep none_ w w' ∧ (∀ k, inA A' k → w.heap.size ≤ k) := by
  rcases Nat.eq_zero_or_pos xs.length with h0 | h0
  · obtain rfl := List.length_eq_zero_iff.1 h0
    rcases hA with ⟨rfl, rfl, _⟩ | ⟨b, o, L, T, rfl, h1, h2, h3, h4, h5⟩
    · exact (cloneTk_nil w).mono (by rintro e w' ⟨rfl, rfl⟩; exact ⟨none, 0, rfl, SlT.nil _ _ _, Keep.refl _ _, fun k hk => (inA_none hk).elim⟩)
    · exact cloneTk_at b o cap L T [] w ⟨h1, h2, h3, h4, h5⟩ hn
  · obtain ⟨b, o, L, T, rfl, h⟩ := hA.open_ h0
    exact cloneTk_at b o cap L T xs w h hn

theorem insertTk_nil (vb : Nat) (x : Tk) (w : World) (hv : Blk w vb (Tk.cells x) 28) : Calls Try.prog 26 #[.slice none 0 0, .int .i64 0, .slice (some ⟨vb, 0, none⟩) 1 1] w fun e w' => ∃ A' cap', e = .returned (.slice A' 1 cap') ∧ SlT w' 36 Tk.cells A' cap' [x] ∧ Keep none_ w w' ∧ (∀ k, inA A' k → w.heap.size ≤ k) := by
  have hvblt := hv.lt
  have hK0 : Keep none_ w w := Keep.refl _ _
  have hzhK0 := Keep.size hK0
  refine enterV Try.func26 rfl [.slice none 0 0, .int .i64 0, .slice (some ⟨vb, 0, none⟩) 1 1] 95 rfl rfl rfl ?_
  refine V_pick [(0, .slice none 0 0), (1, .int .i64 0), (2, .slice (some ⟨vb, 0, none⟩) 1 1)] rfl ?_
  refine V_seq ?_
  refine V_region ?_
  refine OI_static 1 [(0, .slice none 0 0), (1, .int .i64 0), (2, .slice (some ⟨vb, 0, none⟩) 1 1)] (by kernel_rfl) ?_
  refine OI_end rfl ?_
  refine X_then ?_
  refine V_seq ?_
  refine V_region ?_
  refine OI_static 2 [(0, .slice none 0 0), (1, .int .i64 0), (2, .slice (some ⟨vb, 0, none⟩) 1 1), (10, .slice none 0 0), (11, .int .i64 0)] (by kernel_rfl) ?_
  refine OI_pure (some 12) ((Op.slice 31 (Operand.tmp 10) (some (Operand.tmp 11)) none none)) (by kernel_rfl) (pure_slice (E := 28) (sz := 36) (by_ := 64) (base := none) (len := 0) (cap := 0) (lo := (some (.tmp 11))) (hi := none) (l := 0) (h := 0) (by kernel_rfl) (by kernel_rfl) ⟨.i64, by kernel_rfl⟩ rfl (by omega) (by omega)) ?_
  refine OI_pick [(0, .slice none 0 0), (1, .int .i64 0), (2, .slice (some ⟨vb, 0, none⟩) 1 1)] (by kernel_rfl) ?_
  refine OI_end rfl ?_
  refine X_then ?_
  refine V_seq ?_
  refine V_region ?_
  refine OI_static 3 [(0, .slice none 0 0), (1, .int .i64 0), (2, .slice (some ⟨vb, 0, none⟩) 1 1), (7, .int .i64 1)] (by kernel_rfl) ?_
  refine OI_end rfl ?_
  refine X_then ?_
  refine V_seq ?_
  refine V_seq ?_
  refine V_region ?_
  refine OI_static 2 [(0, .slice none 0 0), (1, .int .i64 0), (2, .slice (some ⟨vb, 0, none⟩) 1 1), (7, .int .i64 1), (16, .bool false)] (by kernel_rfl) ?_
  refine OI_end rfl ?_
  refine X_then ?_
  refine V_false rfl ?_
  refine V_skip ?_
  refine X_then ?_
  refine V_seq ?_
  refine V_region ?_
  refine OI_static 3 [(0, .slice none 0 0), (1, .int .i64 0), (2, .slice (some ⟨vb, 0, none⟩) 1 1), (7, .int .i64 1), (8, .int .i64 0)] (by kernel_rfl) ?_
  refine OI_end rfl ?_
  refine X_then ?_
  refine V_seq ?_
  refine V_seq ?_
  refine V_region ?_
  refine OI_static 3 [(0, .slice none 0 0), (1, .int .i64 0), (2, .slice (some ⟨vb, 0, none⟩) 1 1), (7, .int .i64 1), (8, .int .i64 0), (22, .bool true)] (by kernel_rfl) ?_
  refine OI_end rfl ?_
  refine X_then ?_
  refine V_true rfl ?_
  refine V_seq ?_
  refine V_region ?_
  refine OI_static 2 [(23, .slice none 0 0), (24, .slice (some ⟨vb, 0, none⟩) 1 1)] (by kernel_rfl) ?_
  refine OI_append (t := 31) (at2 := 31) (E := 28) (E2 := 28) (sz := 36) (by_ := 64) (zv := .agg #[.int .i64 0, .int .i64 0, .int .i64 0, .int .u8 0, .int .u8 0, .int .u8 0, .int .u8 0, .int .u8 0, .int .u8 0, .int .u8 0, .int .u8 0, .int .u8 0, .int .u8 0, .int .u8 0, .int .u8 0, .int .u8 0, .int .u8 0, .int .u8 0, .int .u8 0, .int .u8 0, .int .u8 0, .int .u8 0, .int .u8 0, .int .u8 0, .int .u8 0, .int .u8 0, .int .u8 0, .int .u8 0, .int .u8 0, .int .u8 0, .int .u8 0, .int .u8 0, .int .u8 0, .int .u8 0, .int .u8 0, .int .i64 0]) (m := 0) (k := 1) (.tmp 23) (.tmp 24) (.slice none 0 0) (.slice (some ⟨vb, 0, none⟩) 1 1) (some 25) (by kernel_rfl) (by kernel_rfl) (by kernel_rfl) (by kernel_rfl) (by kernel_rfl) (by kernel_rfl) (by kernel_rfl) (.inl ⟨rfl, rfl, rfl⟩) (slr_one hv (Tk.len _)) (Tk.one _) (by omega) (by omega) (by omega) (by omega) ?_
  intro v w9 hap
  obtain ⟨A9, cap9, rfl, h9, hin⟩ := SlT.of (xs := [x]) hap.holds rfl (by simp) (fun x _ => Tk.len x)
  have hk9 : Keep none_ w w9 := hap.keep
  have hown : ∀ k, inA A9 k → w.heap.size ≤ k := fun k hk => by rcases hap.own k (hin k hk) with h | h; exact h.elim; exact h
  have hsz1 := Keep.size hk9
  replace hv := hv.keep hk9 (fun f => f)
  have hvblt := hv.lt
  replace hK0 := Keep.tr hK0 (Keep.ofNone hk9); have hzhK0 := Keep.size hK0
  refine OI_pick [(25, .slice A9 (0 + 1) cap9)] (by kernel_rfl) ?_
  refine OI_eq [(25, .slice A9 1 cap9)] (by rw [Nat.zero_add]) ?_
  refine OI_static 4 [(6, .slice A9 1 cap9)] (by kernel_rfl) ?_
  refine OI_end rfl ?_
  refine X_then ?_
  refine V_ret ?_
  refine X_ret_then ?_
  exact X_return _ rfl ⟨A9, cap9, rfl, h9, hK0, hown⟩

theorem insertTk_at (b o cap vb i : Nat) (L : List Value) (T : TypeId) (xs : List Tk) (x : Tk) (w : World) (h : At w b o L T 36 cap (xs.map Tk.cells)) (hv : Blk w vb (Tk.cells x) 28) (hne : vb ≠ b) (hi : i ≤ xs.length) (hn : xs.length ≤ 1000000) : Calls Try.prog 26 #[.slice (some ⟨b, o, none⟩) xs.length cap, .int .i64 (i : Int), .slice (some ⟨vb, 0, none⟩) 1 1] w fun e w' => ∃ A' cap', e = .returned (.slice A' (xs.length + 1) cap') ∧ SlT w' 36 Tk.cells A' cap' (xs.take i ++ x :: xs.drop i) ∧ Keep (only b) w w' ∧ (∀ k, inA A' k → k = b ∨ w.heap.size ≤ k) := by
  have hblt := h.blk.lt
  have hvblt := hv.lt
  have hle : xs.length ≤ cap := by simpa using h.le
  have hK0 : Keep (only b) w w := Keep.refl _ _
  have hzhK0 := Keep.size hK0
  refine enterV Try.func26 rfl [.slice (some ⟨b, o, none⟩) xs.length cap, .int .i64 ((i : Nat) : Int), .slice (some ⟨vb, 0, none⟩) 1 1] 95 rfl rfl rfl ?_
  refine V_pick [(0, .slice (some ⟨b, o, none⟩) xs.length cap), (1, .int .i64 ((i : Nat) : Int)), (2, .slice (some ⟨vb, 0, none⟩) 1 1)] rfl ?_
  refine V_seq ?_
  refine V_region ?_
  refine OI_static 1 [(0, .slice (some ⟨b, o, none⟩) xs.length cap), (1, .int .i64 ((i : Nat) : Int)), (2, .slice (some ⟨vb, 0, none⟩) 1 1)] (by kernel_rfl) ?_
  refine OI_end rfl ?_
  refine X_then ?_
  refine V_seq ?_
  refine V_region ?_
  refine OI_static 2 [(0, .slice (some ⟨b, o, none⟩) xs.length cap), (1, .int .i64 ((i : Nat) : Int)), (2, .slice (some ⟨vb, 0, none⟩) 1 1), (10, .slice (some ⟨b, o, none⟩) xs.length cap), (11, .int .i64 ((i : Nat) : Int))] (by kernel_rfl) ?_
  refine OI_pure (some 12) ((Op.slice 31 (Operand.tmp 10) (some (Operand.tmp 11)) none none)) (by kernel_rfl) (pure_slice (E := 28) (sz := 36) (by_ := 64) (base := (some ⟨b, o, none⟩)) (len := xs.length) (cap := cap) (lo := (some (.tmp 11))) (hi := none) (l := i) (h := xs.length) (by kernel_rfl) (by kernel_rfl) ⟨.i64, by kernel_rfl⟩ rfl (by omega) (by omega)) ?_
  refine OI_pick [(0, .slice (some ⟨b, o, none⟩) xs.length cap), (1, .int .i64 ((i : Nat) : Int)), (2, .slice (some ⟨vb, 0, none⟩) 1 1)] (by kernel_rfl) ?_
  refine OI_end rfl ?_
  refine X_then ?_
  refine V_seq ?_
  refine V_region ?_
  refine OI_static 3 [(0, .slice (some ⟨b, o, none⟩) xs.length cap), (1, .int .i64 ((i : Nat) : Int)), (2, .slice (some ⟨vb, 0, none⟩) 1 1), (7, .int .i64 1)] (by kernel_rfl) ?_
  refine OI_end rfl ?_
  refine X_then ?_
  refine V_seq ?_
  refine V_seq ?_
  refine V_region ?_
  refine OI_static 2 [(0, .slice (some ⟨b, o, none⟩) xs.length cap), (1, .int .i64 ((i : Nat) : Int)), (2, .slice (some ⟨vb, 0, none⟩) 1 1), (7, .int .i64 1), (16, .bool false)] (by kernel_rfl) ?_
  refine OI_end rfl ?_
  refine X_then ?_
  refine V_false rfl ?_
  refine V_skip ?_
  refine X_then ?_
  refine V_seq ?_
  refine V_region ?_
  refine OI_static 3 [(0, .slice (some ⟨b, o, none⟩) xs.length cap), (1, .int .i64 ((i : Nat) : Int)), (2, .slice (some ⟨vb, 0, none⟩) 1 1), (7, .int .i64 1), (8, .int .i64 ((xs.length : Nat) : Int))] (by kernel_rfl) ?_
  refine OI_end rfl ?_
  refine X_then ?_
  refine V_seq ?_
  refine V_seq ?_
  refine V_region ?_
  refine OI_static 3 [(0, .slice (some ⟨b, o, none⟩) xs.length cap), (1, .int .i64 ((i : Nat) : Int)), (2, .slice (some ⟨vb, 0, none⟩) 1 1), (7, .int .i64 1), (8, .int .i64 ((xs.length : Nat) : Int)), (22, .bool (decide (((i : Nat) : Int) = ((xs.length : Nat) : Int))))] (by kernel_rfl) ?_
  refine OI_end rfl ?_
  refine X_then ?_
  refine V_if (((i : Nat) : Int) = ((xs.length : Nat) : Int)) (by kernel_rfl) (fun hc1 => ?_) (fun hc1 => ?_)
  · skip
    refine V_seq ?_
    refine V_region ?_
    refine OI_static 2 [(23, .slice (some ⟨b, o, none⟩) xs.length cap), (24, .slice (some ⟨vb, 0, none⟩) 1 1)] (by kernel_rfl) ?_
    obtain rfl : i = xs.length := by omega
    refine OI_append (t := 31) (at2 := 31) (E := 28) (E2 := 28) (sz := 36) (by_ := 64) (zv := .agg #[.int .i64 0, .int .i64 0, .int .i64 0, .int .u8 0, .int .u8 0, .int .u8 0, .int .u8 0, .int .u8 0, .int .u8 0, .int .u8 0, .int .u8 0, .int .u8 0, .int .u8 0, .int .u8 0, .int .u8 0, .int .u8 0, .int .u8 0, .int .u8 0, .int .u8 0, .int .u8 0, .int .u8 0, .int .u8 0, .int .u8 0, .int .u8 0, .int .u8 0, .int .u8 0, .int .u8 0, .int .u8 0, .int .u8 0, .int .u8 0, .int .u8 0, .int .u8 0, .int .u8 0, .int .u8 0, .int .u8 0, .int .i64 0]) (m := xs.length) (k := 1) (.tmp 23) (.tmp 24) (.slice (some ⟨b, o, none⟩) xs.length cap) (.slice (some ⟨vb, 0, none⟩) 1 1) (some 25) (by kernel_rfl) (by kernel_rfl) (by kernel_rfl) (by kernel_rfl) (by kernel_rfl) (by kernel_rfl) (by kernel_rfl) (SlT.slr (At.slt h)) (slr_one hv (Tk.len _)) (Tk.one _) (by omega) (by omega) (by omega) (by omega) ?_
    intro v w9 hap
    obtain ⟨A9, cap9, rfl, h9, hin⟩ := SlT.of (xs := xs.take xs.length ++ x :: xs.drop xs.length) hap.holds (by simp) (by simp) (fun x _ => Tk.len x)
    have hk9 : Keep (only b) w w9 := hap.keep
    have hown : ∀ k, inA A9 k → k = b ∨ w.heap.size ≤ k := fun k hk => hap.own k (hin k hk)
    have hsz2 := Keep.size hk9
    replace hv := hv.keep hk9 (by show ¬ (_ = _); omega)
    have hvblt := hv.lt
    replace hK0 := Keep.fresh hK0 hk9 (by intro i hi hs; first | exact hs | exact Or.inl hs | exact Or.inr hs | (exfalso; have hs2 : i = b := hs; omega)); have hzhK0 := Keep.size hK0
    refine OI_static 4 [(6, .slice A9 (xs.length + 1) cap9)] (by kernel_rfl) ?_
    refine OI_end rfl ?_
    refine X_then ?_
    refine V_ret ?_
    refine X_ret_then ?_
    exact X_return _ rfl ⟨A9, cap9, rfl, h9, hK0, hown⟩
  · skip
    refine V_skip ?_
    refine X_then ?_
    refine V_seq ?_
    refine V_seq ?_
    refine V_region ?_
    have hw3 : IntKind.i64.wrap (((xs.length : Nat) : Int) + 1) = ((xs.length + 1 : Nat) : Int) := (wrap64_id (by omega) (by omega)).trans (by omega)
    refine OI_static 3 [(0, .slice (some ⟨b, o, none⟩) xs.length cap), (1, .int .i64 ((i : Nat) : Int)), (2, .slice (some ⟨vb, 0, none⟩) 1 1), (7, .int .i64 1), (8, .int .i64 ((xs.length : Nat) : Int)), (28, .int .i64 (IntKind.i64.wrap (((xs.length : Nat) : Int) + 1)))] (by kernel_rfl) ?_
    refine OI_eq [(0, .slice (some ⟨b, o, none⟩) xs.length cap), (1, .int .i64 ((i : Nat) : Int)), (2, .slice (some ⟨vb, 0, none⟩) 1 1), (7, .int .i64 1), (8, .int .i64 ((xs.length : Nat) : Int)), (28, .int .i64 ((xs.length + 1 : Nat) : Int))] (by rw [hw3]) ?_
    refine OI_static 6 [(0, .slice (some ⟨b, o, none⟩) xs.length cap), (1, .int .i64 ((i : Nat) : Int)), (2, .slice (some ⟨vb, 0, none⟩) 1 1), (7, .int .i64 1), (8, .int .i64 ((xs.length : Nat) : Int)), (31, .bool (decide (((xs.length + 1 : Nat) : Int) > ((cap : Nat) : Int))))] (by kernel_rfl) ?_
    refine OI_end rfl ?_
    refine X_then ?_
    refine V_if (((xs.length + 1 : Nat) : Int) > ((cap : Nat) : Int)) (by kernel_rfl) (fun hc4 => ?_) (fun hc4 => ?_)
    · skip
      refine V_seq ?_
      refine V_region ?_
      refine OI_static 2 [(0, .slice (some ⟨b, o, none⟩) xs.length cap), (1, .int .i64 ((i : Nat) : Int)), (2, .slice (some ⟨vb, 0, none⟩) 1 1), (7, .int .i64 1), (8, .int .i64 ((xs.length : Nat) : Int)), (32, .slice (some ⟨b, o, none⟩) xs.length cap), (33, .int .i64 ((i : Nat) : Int))] (by kernel_rfl) ?_
      refine OI_pure (some 34) ((Op.slice 31 (Operand.tmp 32) none (some (Operand.tmp 33)) none)) (by kernel_rfl) (pure_sliceTo (E := 28) (sz := 36) (by_ := 64) (base := (some ⟨b, o, none⟩)) (len := xs.length) (cap := cap) (h := i) (kd := .i64) (by kernel_rfl) (by kernel_rfl) (by kernel_rfl) (by omega)) ?_
      have hw5 : IntKind.i64.wrap (((xs.length : Nat) : Int) + 1) = ((xs.length + 1 : Nat) : Int) := (wrap64_id (by omega) (by omega)).trans (by omega)
      refine OI_static 6 [(0, .slice (some ⟨b, o, none⟩) xs.length cap), (1, .int .i64 ((i : Nat) : Int)), (2, .slice (some ⟨vb, 0, none⟩) 1 1), (7, .int .i64 1), (34, .slice (some ⟨b, o, none⟩) i cap), (37, .int .i64 (IntKind.i64.wrap (((xs.length : Nat) : Int) + 1)))] (by kernel_rfl) ?_
      refine OI_eq [(0, .slice (some ⟨b, o, none⟩) xs.length cap), (1, .int .i64 ((i : Nat) : Int)), (2, .slice (some ⟨vb, 0, none⟩) 1 1), (7, .int .i64 1), (34, .slice (some ⟨b, o, none⟩) i cap), (37, .int .i64 ((xs.length + 1 : Nat) : Int))] (by rw [hw5]) ?_
      have hw6 : IntKind.i64.wrap (((xs.length + 1 : Nat) : Int) - ((i : Nat) : Int)) = ((xs.length + 1 - i : Nat) : Int) := (wrap64_id (by omega) (by omega)).trans (by omega)
      refine OI_static 8 [(0, .slice (some ⟨b, o, none⟩) xs.length cap), (1, .int .i64 ((i : Nat) : Int)), (2, .slice (some ⟨vb, 0, none⟩) 1 1), (7, .int .i64 1), (34, .slice (some ⟨b, o, none⟩) i cap), (39, .int .i64 (IntKind.i64.wrap (((xs.length + 1 : Nat) : Int) - ((i : Nat) : Int))))] (by kernel_rfl) ?_
      refine OI_eq [(0, .slice (some ⟨b, o, none⟩) xs.length cap), (1, .int .i64 ((i : Nat) : Int)), (2, .slice (some ⟨vb, 0, none⟩) 1 1), (7, .int .i64 1), (34, .slice (some ⟨b, o, none⟩) i cap), (39, .int .i64 ((xs.length + 1 - i : Nat) : Int))] (by rw [hw6]) ?_
      refine OI_appmake (t := 31) (E := 28) (at2 := 3) (sz := 36) (by_ := 64) (m := i) (k := xs.length + 1 - i) (N := xs.length + 1) (kd := .i64) (zv := .agg #[.int .i64 0, .int .i64 0, .int .i64 0, .int .u8 0, .int .u8 0, .int .u8 0, .int .u8 0, .int .u8 0, .int .u8 0, .int .u8 0, .int .u8 0, .int .u8 0, .int .u8 0, .int .u8 0, .int .u8 0, .int .u8 0, .int .u8 0, .int .u8 0, .int .u8 0, .int .u8 0, .int .u8 0, .int .u8 0, .int .u8 0, .int .u8 0, .int .u8 0, .int .u8 0, .int .u8 0, .int .u8 0, .int .u8 0, .int .u8 0, .int .u8 0, .int .u8 0, .int .u8 0, .int .u8 0, .int .u8 0, .int .i64 0]) (s := .slice (some ⟨b, o, none⟩) i cap) (base := some ⟨b, o, none⟩) (cap := cap) (.tmp 34) (.tmp 39) (some 40) (by kernel_rfl) (by kernel_rfl) (by kernel_rfl) (by kernel_rfl) (by kernel_rfl) (by kernel_rfl) rfl (At.prefT h hi) (by omega) (by omega) (by omega) (by omega) (by kernel_rfl) (by omega) ?_
      intro b9 nc zs w9 hb9 hnc hzs hB9 hk9 hz9
      have hsz7 := Keep.size hk9
      replace hv := hv.keep hk9 (fun f => f)
      have hvblt := hv.lt
      replace h := h.keep hk9 (fun f => f)
      have hblt := h.blk.lt
      replace hK0 := Keep.tr hK0 (Keep.ofNone hk9); have hzhK0 := Keep.size hK0
      have hb9lt := hB9.lt
      obtain ⟨g1, g2, g3, g4, g5⟩ := grow_cells (sz := 36) (n := xs.length) (i := i) (nc := nc) (c := Tk.cells x) (zs := zs) (es := xs.map Tk.cells) h.sizes (by simp) hi (by omega) (Tk.len x) hzs
      refine OI_static 10 [(0, .slice (some ⟨b, o, none⟩) xs.length cap), (1, .int .i64 ((i : Nat) : Int)), (2, .slice (some ⟨vb, 0, none⟩) 1 1), (7, .int .i64 1), (9, .slice (some ⟨b9, 0, none⟩) (xs.length + 1) nc)] (by kernel_rfl) ?_
      refine OI_end rfl ?_
      refine X_then ?_
      refine V_seq ?_
      refine V_region ?_
      refine OI_static 2 [(0, .slice (some ⟨b, o, none⟩) xs.length cap), (1, .int .i64 ((i : Nat) : Int)), (2, .slice (some ⟨vb, 0, none⟩) 1 1), (7, .int .i64 1), (9, .slice (some ⟨b9, 0, none⟩) (xs.length + 1) nc), (41, .slice (some ⟨b9, 0, none⟩) (xs.length + 1) nc), (42, .int .i64 ((i : Nat) : Int))] (by kernel_rfl) ?_
      refine OI_pure (some 43) ((Op.slice 31 (Operand.tmp 41) (some (Operand.tmp 42)) none none)) (by kernel_rfl) (pure_sliceFrom (E := 28) (sz := 36) (by_ := 64) (b := b9) (o := 0) (len := xs.length + 1) (cap := nc) (l := i) (kd := .i64) (by kernel_rfl) (by kernel_rfl) (by kernel_rfl) (by omega) (by omega) (by omega)) ?_
      refine OI_static 4 [(0, .slice (some ⟨b, o, none⟩) xs.length cap), (1, .int .i64 ((i : Nat) : Int)), (7, .int .i64 1), (9, .slice (some ⟨b9, 0, none⟩) (xs.length + 1) nc), (43, .slice (some ⟨b9, 0 + i * 36, none⟩) (xs.length + 1 - i) (nc - i)), (44, .slice (some ⟨vb, 0, none⟩) 1 1)] (by kernel_rfl) ?_
      refine OI_turn (some 45) ((Op.call { callee := (Callee.builtin Builtin.copy), args := #[(Operand.tmp 43), (Operand.tmp 44)], argTypes := #[31, 31] })) (by kernel_rfl) (Blk.lt hB9) (copy_run (t := 31) (E := 28) (at2 := 31) (sz := 36) (by_ := 64) (b := b9) (o := 0 + i * 36) (dl := xs.length + 1 - i) (dc := nc - i) (k := 1) (m := 1) (cells := Tk.cells x) (x := (.tmp 43)) (y := (.tmp 44)) (by kernel_rfl) (by kernel_rfl) hB9 (slr_one hv (Tk.len _)) (by omega) (by omega) (fun u hu => Tk.one _ u (List.mem_of_mem_take hu))) ?_
      intro w8 hB9 hk9 hz10
      replace hB9 : Blk w8 b9 (over (((xs.map Tk.cells).take i).flatten ++ zs) (i * 36) (Tk.cells x)) 28 := by rwa [show (Tk.cells x).take (1 * 36) = Tk.cells x from List.take_of_length_le (by rw [Tk.len]; omega), Nat.zero_add] at hB9
      have hsz11 := Keep.size hk9
      replace hv := hv.keep hk9 (by show ¬ (_ = _); omega)
      have hvblt := hv.lt
      replace h := h.keep hk9 (by show ¬ (_ = _); omega)
      have hblt := h.blk.lt
      replace hK0 := Keep.fresh hK0 hk9 (by intro i hi hs; first | exact hs | exact Or.inl hs | exact Or.inr hs | (exfalso; have hs2 : i = b9 := hs; omega)); have hzhK0 := Keep.size hK0
      refine OI_end rfl ?_
      refine X_then ?_
      refine V_seq ?_
      refine V_draws (acts [8]) (only b9) [[0, 1, 2, 3, 4, 5, 6, 7, 8]] (by kernel_rfl) (by repeat first | exact sure_body (by rintro _ _ ⟨_, _, h, _⟩; exact ⟨_, h⟩) | refine sure_then ?_ | refine sure_block ?_ | refine sure_join ?_) (by kernel_rfl) ?_
      intro w13 hk12 he14 L hL15
      have hsz16 := Keep.size hk12
      replace hv := hv.keep hk12 (fun f => f)
      have hvblt := hv.lt
      replace hB9 := hB9.keep hk12 (fun f => f)
      have hb9lt := hB9.lt
      replace h := h.keep hk12 (fun f => f)
      have hblt := h.blk.lt
      replace hK0 := Keep.tr hK0 (Keep.ofNone hk12); have hzhK0 := Keep.size hK0
      have qhv := hv
      have qhB9 := hB9
      have qh := h
      have K17 : Keep (only b9) w13 w13 := Keep.refl _ _
      obtain rfl := List.mem_singleton.1 hL15
      have hw18 : IntKind.i64.wrap (((i : Nat) : Int) + 1) = ((i + 1 : Nat) : Int) := (wrap64_id (by omega) (by omega)).trans (by omega)
      refine GI_static [4, 5, 6, 7, 8] [(0, .slice (some ⟨b, o, none⟩) xs.length cap), (1, .int .i64 ((i : Nat) : Int)), (9, .slice (some ⟨b9, 0, none⟩) (xs.length + 1) nc), (46, .slice (some ⟨b9, 0, none⟩) (xs.length + 1) nc), (49, .int .i64 (IntKind.i64.wrap (((i : Nat) : Int) + 1)))] (by kernel_rfl) ?_
      refine GI_eq [(0, .slice (some ⟨b, o, none⟩) xs.length cap), (1, .int .i64 ((i : Nat) : Int)), (9, .slice (some ⟨b9, 0, none⟩) (xs.length + 1) nc), (46, .slice (some ⟨b9, 0, none⟩) (xs.length + 1) nc), (49, .int .i64 ((i + 1 : Nat) : Int))] (by rw [hw18]) ?_
      refine GI_pure (some 50) ((Op.slice 31 (Operand.tmp 46) (some (Operand.tmp 49)) none none)) (by kernel_rfl) (by kernel_rfl) (pure_sliceFrom (E := 28) (sz := 36) (by_ := 64) (b := b9) (o := 0) (len := xs.length + 1) (cap := nc) (l := i + 1) (kd := .i64) (by kernel_rfl) (by kernel_rfl) (by kernel_rfl) (by omega) (by omega) (by omega)) ?_
      refine GI_static [7, 8] [(9, .slice (some ⟨b9, 0, none⟩) (xs.length + 1) nc), (50, .slice (some ⟨b9, 0 + (i + 1) * 36, none⟩) (xs.length + 1 - (i + 1)) (nc - (i + 1))), (51, .slice (some ⟨b, o, none⟩) xs.length cap), (52, .int .i64 ((i : Nat) : Int))] (by kernel_rfl) ?_
      refine GI_pure (some 53) ((Op.slice 31 (Operand.tmp 51) (some (Operand.tmp 52)) none none)) (by kernel_rfl) (by kernel_rfl) (pure_sliceFrom (E := 28) (sz := 36) (by_ := 64) (b := b) (o := o) (len := xs.length) (cap := cap) (l := i) (kd := .i64) (by kernel_rfl) (by kernel_rfl) (by kernel_rfl) (by omega) (by omega) (by omega)) ?_
      refine GI_final 8 (by kernel_rfl) (by kernel_rfl) ?_
      refine OI_turn (some 54) ((Op.call { callee := (Callee.builtin Builtin.copy), args := #[(Operand.tmp 50), (Operand.tmp 53)], argTypes := #[31, 31] })) (by kernel_rfl) (Blk.lt hB9) (copy_run (t := 31) (E := 28) (at2 := 31) (sz := 36) (by_ := 64) (b := b9) (o := 0 + (i + 1) * 36) (dl := xs.length + 1 - (i + 1)) (dc := nc - (i + 1)) (k := xs.length - i) (m := xs.length - i) (cells := ((xs.map Tk.cells).drop i).flatten) (x := (.tmp 50)) (y := (.tmp 53)) (by kernel_rfl) (by kernel_rfl) hB9 (At.suffT h hi) (by omega) (by omega) (fun u hu => one_flatten Tk.one u (by rw [List.map_drop]; exact List.mem_of_mem_take hu))) ?_
      intro w19 hB9 hk20 hz21
      replace hB9 : Blk w19 b9 (over (over (((xs.map Tk.cells).take i).flatten ++ zs) (i * 36) (Tk.cells x)) ((i + 1) * 36) ((xs.map Tk.cells).drop i).flatten) 28 := by rwa [show ((xs.map Tk.cells).drop i).flatten.take ((xs.length - i) * 36) = ((xs.map Tk.cells).drop i).flatten from List.take_of_length_le (by omega), Nat.zero_add] at hB9
      have hsz22 := Keep.size hk20
      replace hv := hv.keep hk20 (by show ¬ (_ = _); omega)
      have hvblt := hv.lt
      replace h := h.keep hk20 (by show ¬ (_ = _); omega)
      have hblt := h.blk.lt
      replace hK0 := Keep.fresh hK0 hk20 (by intro i hi hs; first | exact hs | exact Or.inl hs | exact Or.inr hs | (exfalso; have hs2 : i = b9 := hs; omega)); have hzhK0 := Keep.size hK0
      refine OI_end rfl ?_
      refine X_then ?_
      refine V_seq ?_
      refine V_region ?_
      refine OI_static 2 [(6, .slice (some ⟨b9, 0, none⟩) (xs.length + 1) nc)] (by kernel_rfl) ?_
      refine OI_end rfl ?_
      refine X_then ?_
      refine V_ret ?_
      refine X_ret_then ?_
      exact X_return _ rfl ⟨_, nc, rfl, ins_slt hB9 hi (by omega) (by rw [g3, g4]; omega) (by rw [List.length_map]; exact g2) Tk.len, hK0, fun k hk => .inr (by rw [inA_some hk]; omega)⟩
    · skip
      refine V_skip ?_
      refine X_then ?_
      refine V_seq ?_
      refine V_region ?_
      have hw23 : IntKind.i64.wrap (((xs.length : Nat) : Int) + 1) = ((xs.length + 1 : Nat) : Int) := (wrap64_id (by omega) (by omega)).trans (by omega)
      refine OI_static 4 [(1, .int .i64 ((i : Nat) : Int)), (2, .slice (some ⟨vb, 0, none⟩) 1 1), (7, .int .i64 1), (8, .int .i64 ((xs.length : Nat) : Int)), (56, .slice (some ⟨b, o, none⟩) xs.length cap), (59, .int .i64 (IntKind.i64.wrap (((xs.length : Nat) : Int) + 1)))] (by kernel_rfl) ?_
      refine OI_eq [(1, .int .i64 ((i : Nat) : Int)), (2, .slice (some ⟨vb, 0, none⟩) 1 1), (7, .int .i64 1), (8, .int .i64 ((xs.length : Nat) : Int)), (56, .slice (some ⟨b, o, none⟩) xs.length cap), (59, .int .i64 ((xs.length + 1 : Nat) : Int))] (by rw [hw23]) ?_
      refine OI_pure (some 60) ((Op.slice 31 (Operand.tmp 56) none (some (Operand.tmp 59)) none)) (by kernel_rfl) (pure_sliceTo (E := 28) (sz := 36) (by_ := 64) (base := (some ⟨b, o, none⟩)) (len := xs.length) (cap := cap) (h := xs.length + 1) (kd := .i64) (by kernel_rfl) (by kernel_rfl) (by kernel_rfl) (by omega)) ?_
      refine OI_static 6 [(0, .slice (some ⟨b, o, none⟩) (xs.length + 1) cap), (1, .int .i64 ((i : Nat) : Int)), (2, .slice (some ⟨vb, 0, none⟩) 1 1), (7, .int .i64 1), (8, .int .i64 ((xs.length : Nat) : Int))] (by kernel_rfl) ?_
      refine OI_end rfl ?_
      refine X_then ?_
      refine V_seq ?_
      refine V_seq ?_
      refine V_region ?_
      have hw24 : IntKind.i64.wrap (((i : Nat) : Int) + 1) = ((i + 1 : Nat) : Int) := (wrap64_id (by omega) (by omega)).trans (by omega)
      refine OI_static 5 [(0, .slice (some ⟨b, o, none⟩) (xs.length + 1) cap), (1, .int .i64 ((i : Nat) : Int)), (2, .slice (some ⟨vb, 0, none⟩) 1 1), (7, .int .i64 1), (8, .int .i64 ((xs.length : Nat) : Int)), (61, .slice (some ⟨vb, 0, none⟩) 1 1), (62, .slice (some ⟨b, o, none⟩) (xs.length + 1) cap), (65, .int .i64 (IntKind.i64.wrap (((i : Nat) : Int) + 1)))] (by kernel_rfl) ?_
      refine OI_eq [(0, .slice (some ⟨b, o, none⟩) (xs.length + 1) cap), (1, .int .i64 ((i : Nat) : Int)), (2, .slice (some ⟨vb, 0, none⟩) 1 1), (7, .int .i64 1), (8, .int .i64 ((xs.length : Nat) : Int)), (61, .slice (some ⟨vb, 0, none⟩) 1 1), (62, .slice (some ⟨b, o, none⟩) (xs.length + 1) cap), (65, .int .i64 ((i + 1 : Nat) : Int))] (by rw [hw24]) ?_
      refine OI_pure (some 66) ((Op.slice 31 (Operand.tmp 62) (some (Operand.tmp 65)) none none)) (by kernel_rfl) (pure_sliceFrom (E := 28) (sz := 36) (by_ := 64) (b := b) (o := o) (len := xs.length + 1) (cap := cap) (l := i + 1) (kd := .i64) (by kernel_rfl) (by kernel_rfl) (by kernel_rfl) (by omega) (by omega) (by omega)) ?_
      refine OI_value (d := some 67) (op := (Op.call { callee := (Callee.value (Operand.func 35)), args := #[(Operand.tmp 61), (Operand.tmp 66)], argTypes := #[31, 31] })) (v := .bool false) (by kernel_rfl) (overlaps_run (f := 35) (fn := Try.f35) (tS := 31) (tR := 4) (E := 28) (sz := 36) (by_ := 64) (vb := vb) (vo := 0) (b := b) (o := o + (i + 1) * 36) (la := 1) (ca := 1) (lb := xs.length + 1 - (i + 1)) (cb := cap - (i + 1)) rfl (by kernel_rfl) (by kernel_rfl) (by kernel_rfl) (by kernel_rfl) (by kernel_rfl) (by kernel_rfl) hne hv (At.blk h) (by intro hL; have := h.room; rw [hL] at this; simp at this; omega)) ?_
      refine OI_static 8 [(0, .slice (some ⟨b, o, none⟩) (xs.length + 1) cap), (1, .int .i64 ((i : Nat) : Int)), (2, .slice (some ⟨vb, 0, none⟩) 1 1), (7, .int .i64 1), (8, .int .i64 ((xs.length : Nat) : Int)), (68, .bool true)] (by kernel_rfl) ?_
      refine OI_end rfl ?_
      refine X_then ?_
      refine V_true rfl ?_
      refine V_seq ?_
      refine V_draws (acts [8]) (only b) [[0, 1, 2, 3, 4, 5, 6, 7, 8]] (by kernel_rfl) (by repeat first | exact sure_body (by rintro _ _ ⟨_, _, h, _⟩; exact ⟨_, h⟩) | refine sure_then ?_ | refine sure_block ?_ | refine sure_join ?_) (by kernel_rfl) ?_
      intro w26 hk25 he27 L hL28
      have hsz29 := Keep.size hk25
      replace hv := hv.keep hk25 (fun f => f)
      have hvblt := hv.lt
      replace h := h.keep hk25 (fun f => f)
      have hblt := h.blk.lt
      replace hK0 := Keep.tr hK0 (Keep.ofNone hk25); have hzhK0 := Keep.size hK0
      have qhv := hv
      have qh := h
      have K30 : Keep (only b) w26 w26 := Keep.refl _ _
      obtain rfl := List.mem_singleton.1 hL28
      have hw31 : IntKind.i64.wrap (((i : Nat) : Int) + 1) = ((i + 1 : Nat) : Int) := (wrap64_id (by omega) (by omega)).trans (by omega)
      refine GI_static [4, 5, 6, 7, 8] [(0, .slice (some ⟨b, o, none⟩) (xs.length + 1) cap), (1, .int .i64 ((i : Nat) : Int)), (2, .slice (some ⟨vb, 0, none⟩) 1 1), (69, .slice (some ⟨b, o, none⟩) (xs.length + 1) cap), (72, .int .i64 (IntKind.i64.wrap (((i : Nat) : Int) + 1)))] (by kernel_rfl) ?_
      refine GI_eq [(0, .slice (some ⟨b, o, none⟩) (xs.length + 1) cap), (1, .int .i64 ((i : Nat) : Int)), (2, .slice (some ⟨vb, 0, none⟩) 1 1), (69, .slice (some ⟨b, o, none⟩) (xs.length + 1) cap), (72, .int .i64 ((i + 1 : Nat) : Int))] (by rw [hw31]) ?_
      refine GI_pure (some 73) ((Op.slice 31 (Operand.tmp 69) (some (Operand.tmp 72)) none none)) (by kernel_rfl) (by kernel_rfl) (pure_sliceFrom (E := 28) (sz := 36) (by_ := 64) (b := b) (o := o) (len := xs.length + 1) (cap := cap) (l := i + 1) (kd := .i64) (by kernel_rfl) (by kernel_rfl) (by kernel_rfl) (by omega) (by omega) (by omega)) ?_
      refine GI_static [7, 8] [(0, .slice (some ⟨b, o, none⟩) (xs.length + 1) cap), (1, .int .i64 ((i : Nat) : Int)), (2, .slice (some ⟨vb, 0, none⟩) 1 1), (73, .slice (some ⟨b, o + (i + 1) * 36, none⟩) (xs.length + 1 - (i + 1)) (cap - (i + 1))), (74, .slice (some ⟨b, o, none⟩) (xs.length + 1) cap), (75, .int .i64 ((i : Nat) : Int))] (by kernel_rfl) ?_
      refine GI_pure (some 76) ((Op.slice 31 (Operand.tmp 74) (some (Operand.tmp 75)) none none)) (by kernel_rfl) (by kernel_rfl) (pure_sliceFrom (E := 28) (sz := 36) (by_ := 64) (b := b) (o := o) (len := xs.length + 1) (cap := cap) (l := i) (kd := .i64) (by kernel_rfl) (by kernel_rfl) (by kernel_rfl) (by omega) (by omega) (by omega)) ?_
      refine GI_final 8 (by kernel_rfl) (by kernel_rfl) ?_
      obtain ⟨g1, g2, g3⟩ := ins_cells (i := i) (c := Tk.cells x) h (by simp; omega) (by simp; omega) (Tk.len x)
      have hdc := h.dropcells (i := i)
      have hroom := h.room
      rw [List.length_map] at g1 g2 g3 hdc
      have hdl : ((L.drop (o + i * 36)).take ((xs.length + 1 - i) * 36)).take ((xs.length - i) * 36) = (L.drop (o + i * 36)).take ((xs.length - i) * 36) := by rw [List.take_take, Nat.min_eq_left (by omega)]
      refine OI_turn (some 77) ((Op.call { callee := (Callee.builtin Builtin.copy), args := #[(Operand.tmp 73), (Operand.tmp 76)], argTypes := #[31, 31] })) (by kernel_rfl) (Blk.lt (At.blk h)) (copy_run (t := 31) (E := 28) (at2 := 31) (sz := 36) (by_ := 64) (b := b) (o := o + (i + 1) * 36) (dl := xs.length + 1 - (i + 1)) (dc := cap - (i + 1)) (k := xs.length + 1 - i) (m := xs.length - i) (cells := (L.drop (o + i * 36)).take ((xs.length + 1 - i) * 36)) (x := (.tmp 73)) (y := (.tmp 76)) (by kernel_rfl) (by kernel_rfl) (At.blk h) (slr_blk (At.blk h) (by omega) (by omega)) (by omega) (by omega) (fun u hu => one_flatten (xs := xs.drop i) Tk.one u (by rw [List.map_drop, ← hdc, ← hdl]; exact hu))) ?_
      intro w32 hB hk33 hz34
      replace hB : Blk w32 b (over L (o + (i + 1) * 36) ((L.drop (o + i * 36)).take ((xs.length - i) * 36))) T := by rwa [hdl] at hB
      have hsz35 := Keep.size hk33
      replace hv := hv.keep hk33 (by show ¬ (_ = _); omega)
      have hvblt := hv.lt
      replace hK0 := Keep.fresh hK0 hk33 (by intro i hi hs; first | exact hs | exact Or.inl hs | exact Or.inr hs | (exfalso; have hs2 : i = b := hs; omega)); have hzhK0 := Keep.size hK0
      refine OI_end rfl ?_
      refine X_then ?_
      refine V_seq ?_
      refine V_region ?_
      refine OI_static 2 [(0, .slice (some ⟨b, o, none⟩) (xs.length + 1) cap), (2, .slice (some ⟨vb, 0, none⟩) 1 1), (78, .slice (some ⟨b, o, none⟩) (xs.length + 1) cap), (79, .int .i64 ((i : Nat) : Int))] (by kernel_rfl) ?_
      refine OI_pure (some 80) ((Op.slice 31 (Operand.tmp 78) (some (Operand.tmp 79)) none none)) (by kernel_rfl) (pure_sliceFrom (E := 28) (sz := 36) (by_ := 64) (b := b) (o := o) (len := xs.length + 1) (cap := cap) (l := i) (kd := .i64) (by kernel_rfl) (by kernel_rfl) (by kernel_rfl) (by omega) (by omega) (by omega)) ?_
      refine OI_static 4 [(0, .slice (some ⟨b, o, none⟩) (xs.length + 1) cap), (80, .slice (some ⟨b, o + i * 36, none⟩) (xs.length + 1 - i) (cap - i)), (81, .slice (some ⟨vb, 0, none⟩) 1 1)] (by kernel_rfl) ?_
      refine OI_turn (some 82) ((Op.call { callee := (Callee.builtin Builtin.copy), args := #[(Operand.tmp 80), (Operand.tmp 81)], argTypes := #[31, 31] })) (by kernel_rfl) (Blk.lt hB) (copy_run (t := 31) (E := 28) (at2 := 31) (sz := 36) (by_ := 64) (b := b) (o := o + i * 36) (dl := xs.length + 1 - i) (dc := cap - i) (k := 1) (m := 1) (cells := Tk.cells x) (x := (.tmp 80)) (y := (.tmp 81)) (by kernel_rfl) (by kernel_rfl) hB (slr_one hv (Tk.len _)) (by omega) (by omega) (fun u hu => Tk.one _ u (List.mem_of_mem_take hu))) ?_
      intro w36 hB hk37 hz38
      replace hB : Blk w36 b (over (over L (o + (i + 1) * 36) ((L.drop (o + i * 36)).take ((xs.length - i) * 36))) (o + i * 36) (Tk.cells x)) T := by rwa [show (Tk.cells x).take (1 * 36) = Tk.cells x from List.take_of_length_le (by rw [Tk.len]; omega)] at hB
      have hsz39 := Keep.size hk37
      replace hv := hv.keep hk37 (by show ¬ (_ = _); omega)
      have hvblt := hv.lt
      replace hK0 := Keep.fresh hK0 hk37 (by intro i hi hs; first | exact hs | exact Or.inl hs | exact Or.inr hs | (exfalso; have hs2 : i = b := hs; omega)); have hzhK0 := Keep.size hK0
      refine OI_end rfl ?_
      refine X_then ?_
      refine V_seq ?_
      refine V_region ?_
      refine OI_static 2 [(6, .slice (some ⟨b, o, none⟩) (xs.length + 1) cap)] (by kernel_rfl) ?_
      refine OI_end rfl ?_
      refine X_then ?_
      refine V_ret ?_
      refine X_ret_then ?_
      exact X_return _ rfl ⟨_, cap, rfl, ins_slt hB hi (by omega) (by rw [g3]; omega) (by rw [List.length_map]; exact g2) Tk.len, hK0, fun k hk => .inl (inA_some hk)⟩

theorem insertTk_spec (A : Option Addr) (cap vb i : Nat) (xs : List Tk) (x : Tk) (w : World) (hA : SlT w 36 Tk.cells A cap xs) (hv : Blk w vb (Tk.cells x) 28) (hne : ¬ inA A vb) (hi : i ≤ xs.length) (hn : xs.length ≤ 1000000) : Calls Try.prog 26 #[.slice A xs.length cap, .int .i64 (i : Int), .slice (some ⟨vb, 0, none⟩) 1 1] w fun e w' => ∃ A' cap', e = .returned (.slice A' (xs.length + 1) cap') ∧ SlT w' 36 Tk.cells A' cap' (xs.take i ++ x :: xs.drop i) ∧ Keep (inA A) w w' ∧ (∀ k, inA A' k → inA A k ∨ w.heap.size ≤ k) := by
  rcases hA with ⟨rfl, rfl, h0⟩ | ⟨b, o, L, T, rfl, h1, h2, h3, h4, h5⟩
  · obtain rfl : xs = [] := by simpa using h0
    obtain rfl : i = 0 := by simpa using hi
    exact (insertTk_nil vb x w hv).mono (by rintro e w' ⟨A', cap', rfl, h1, h2, h3⟩; exact ⟨A', cap', rfl, h1, h2.ofNone, fun k hk => .inr (h3 k hk)⟩)
  · exact (insertTk_at b o cap vb i L T xs x w ⟨h1, h2, h3, h4, h5⟩ hv (fun h => hne ⟨_, rfl, h⟩) hi hn).mono (by
      rintro e w' ⟨A', cap', rfl, h1, h2, h3⟩
      exact ⟨A', cap', rfl, h1, h2.mono (fun k _ hk => ⟨_, rfl, hk⟩), fun k hk => (h3 k hk).imp (fun h => ⟨_, rfl, h⟩) id⟩)

theorem deleteTk_spec (b o cap i : Nat) (L : List Value) (T : TypeId) (xs : List Tk) (w : World) (h : At w b o L T 36 cap (xs.map Tk.cells)) (hi : i < xs.length) (hn : xs.length ≤ 1000000) : Calls Try.prog 28 #[.slice (some ⟨b, o, none⟩) xs.length cap, .int .i64 (i : Int), .int .i64 ((i + 1 : Nat) : Int)] w fun e w' => e = .returned (.slice (some ⟨b, o, none⟩) (xs.length - 1) cap) ∧ SlT w' 36 Tk.cells (some ⟨b, o, none⟩) cap (xs.take i ++ xs.drop (i + 1)) ∧ Keep (only b) w w' := by
  have hblt := h.blk.lt
  have hle : xs.length ≤ cap := by simpa using h.le
  have hK0 : Keep (only b) w w := Keep.refl _ _
  have hzhK0 := Keep.size hK0
  refine enterV Try.func28 rfl [.slice (some ⟨b, o, none⟩) xs.length cap, .int .i64 ((i : Nat) : Int), .int .i64 ((i + 1 : Nat) : Int)] 33 rfl rfl rfl ?_
  refine V_pick [(0, .slice (some ⟨b, o, none⟩) xs.length cap), (1, .int .i64 ((i : Nat) : Int)), (2, .int .i64 ((i + 1 : Nat) : Int))] rfl ?_
  refine V_seq ?_
  refine V_region ?_
  refine OI_static 1 [(0, .slice (some ⟨b, o, none⟩) xs.length cap), (1, .int .i64 ((i : Nat) : Int)), (2, .int .i64 ((i + 1 : Nat) : Int))] (by kernel_rfl) ?_
  refine OI_end rfl ?_
  refine X_then ?_
  refine V_seq ?_
  refine V_region ?_
  refine OI_static 5 [(0, .slice (some ⟨b, o, none⟩) xs.length cap), (1, .int .i64 ((i : Nat) : Int)), (2, .int .i64 ((i + 1 : Nat) : Int)), (8, .slice (some ⟨b, o, none⟩) xs.length cap), (9, .int .i64 ((i : Nat) : Int)), (10, .int .i64 ((i + 1 : Nat) : Int)), (12, .int .i64 ((xs.length : Nat) : Int))] (by kernel_rfl) ?_
  refine OI_pure (some 13) ((Op.slice 31 (Operand.tmp 8) (some (Operand.tmp 9)) (some (Operand.tmp 10)) (some (Operand.tmp 12)))) (by kernel_rfl) (pure_slice3 (E := 28) (sz := 36) (by_ := 64) (base := (some ⟨b, o, none⟩)) (len := xs.length) (cap := cap) (l := i) (h := i + 1) (m := xs.length) (k1 := .i64) (k2 := .i64) (k3 := .i64) (by kernel_rfl) (by kernel_rfl) (by kernel_rfl) (by kernel_rfl) (by kernel_rfl) (by omega) (by omega) (by omega)) ?_
  refine OI_pick [(0, .slice (some ⟨b, o, none⟩) xs.length cap), (1, .int .i64 ((i : Nat) : Int)), (2, .int .i64 ((i + 1 : Nat) : Int))] (by kernel_rfl) ?_
  refine OI_end rfl ?_
  refine X_then ?_
  refine V_seq ?_
  refine V_seq ?_
  refine V_region ?_
  refine OI_static 3 [(0, .slice (some ⟨b, o, none⟩) xs.length cap), (1, .int .i64 ((i : Nat) : Int)), (2, .int .i64 ((i + 1 : Nat) : Int)), (16, .bool (decide (((i : Nat) : Int) = ((i + 1 : Nat) : Int))))] (by kernel_rfl) ?_
  refine OI_end rfl ?_
  refine X_then ?_
  refine V_if (((i : Nat) : Int) = ((i + 1 : Nat) : Int)) (by kernel_rfl) (fun hc1 => ?_) (fun hc1 => ?_)
  · skip
    exact (by omega : False).elim
  · skip
    refine V_skip ?_
    refine X_then ?_
    refine V_seq ?_
    refine V_region ?_
    refine OI_static 3 [(0, .slice (some ⟨b, o, none⟩) xs.length cap), (1, .int .i64 ((i : Nat) : Int)), (2, .int .i64 ((i + 1 : Nat) : Int)), (7, .int .i64 ((xs.length : Nat) : Int))] (by kernel_rfl) ?_
    refine OI_end rfl ?_
    refine X_then ?_
    refine V_seq ?_
    refine V_draws (acts [6]) (only b) [[0, 1, 2, 3, 4, 5, 6, 7]] (by kernel_rfl) (by repeat first | exact sure_body (by rintro _ _ ⟨h, _⟩; exact ⟨_, h⟩) | refine sure_then ?_ | refine sure_block ?_ | refine sure_join ?_) (by kernel_rfl) ?_
    intro w3 hk2 he4 L hL5
    have hsz6 := Keep.size hk2
    replace h := h.keep hk2 (fun f => f)
    have hblt := h.blk.lt
    replace hK0 := Keep.tr hK0 (Keep.ofNone hk2); have hzhK0 := Keep.size hK0
    have qh := h
    have K7 : Keep (only b) w3 w3 := Keep.refl _ _
    obtain rfl := List.mem_singleton.1 hL5
    refine GI_static [2, 3, 4, 5, 6, 7] [(0, .slice (some ⟨b, o, none⟩) xs.length cap), (2, .int .i64 ((i + 1 : Nat) : Int)), (7, .int .i64 ((xs.length : Nat) : Int)), (20, .slice (some ⟨b, o, none⟩) xs.length cap), (21, .int .i64 ((i : Nat) : Int))] (by kernel_rfl) ?_
    refine GI_pure (some 22) ((Op.slice 31 (Operand.tmp 20) none (some (Operand.tmp 21)) none)) (by kernel_rfl) (by kernel_rfl) (pure_sliceTo (E := 28) (sz := 36) (by_ := 64) (base := (some ⟨b, o, none⟩)) (len := xs.length) (cap := cap) (h := i) (kd := .i64) (by kernel_rfl) (by kernel_rfl) (by kernel_rfl) (by omega)) ?_
    refine GI_static [5, 6, 7] [(7, .int .i64 ((xs.length : Nat) : Int)), (22, .slice (some ⟨b, o, none⟩) i cap), (23, .slice (some ⟨b, o, none⟩) xs.length cap), (24, .int .i64 ((i + 1 : Nat) : Int))] (by kernel_rfl) ?_
    obtain ⟨A8, hA8⟩ : ∃ A8 : Option Addr, A8 = (if cap = i + 1 then some ⟨b, o, none⟩ else (some ⟨b, o, none⟩ : Option Addr).map (·.add ((i + 1) * 36))) := ⟨_, rfl⟩
    refine GI_pure (some 25) ((Op.slice 31 (Operand.tmp 23) (some (Operand.tmp 24)) none none)) (by kernel_rfl) (by kernel_rfl) (PureOp.cast (v' := .slice A8 (xs.length - (i + 1)) (cap - (i + 1))) (pure_slice (E := 28) (sz := 36) (by_ := 64) (base := some ⟨b, o, none⟩) (len := xs.length) (cap := cap) (lo := some (.tmp 24)) (hi := none) (l := i + 1) (h := xs.length) (by kernel_rfl) (by kernel_rfl) ⟨.i64, by kernel_rfl⟩ rfl (by omega) (by omega)) (by rw [hA8])) ?_
    have h8 := At.fromT h (i := i + 1) (by omega)
    rw [← hA8] at h8
    obtain ⟨g0, g1, g2, g3⟩ := del_cells (i := i) (zs := [.int .i64 0, .int .i64 0, .int .i64 0, .int .u8 0, .int .u8 0, .int .u8 0, .int .u8 0, .int .u8 0, .int .u8 0, .int .u8 0, .int .u8 0, .int .u8 0, .int .u8 0, .int .u8 0, .int .u8 0, .int .u8 0, .int .u8 0, .int .u8 0, .int .u8 0, .int .u8 0, .int .u8 0, .int .u8 0, .int .u8 0, .int .u8 0, .int .u8 0, .int .u8 0, .int .u8 0, .int .u8 0, .int .u8 0, .int .u8 0, .int .u8 0, .int .u8 0, .int .u8 0, .int .u8 0, .int .u8 0, .int .i64 0]) h (by simp; omega) (by simp)
    have hroom := h.room
    refine GI_turn (some 26) ((Op.call { callee := (Callee.builtin Builtin.append), args := #[(Operand.tmp 22), (Operand.tmp 25)], argTypes := #[31, 31] })) (by kernel_rfl) (by kernel_rfl) K7 (fun hh => rfl) (Blk.lt (At.blk h)) (append_in_run (t := 31) (at2 := 31) (E := 28) (E2 := 28) (sz := 36) (by_ := 64) (m := i) (k := xs.length - (i + 1)) (b := b) (o := o) (cap := cap) (new := ((xs.map Tk.cells).drop (i + 1)).flatten) (x := (.tmp 22)) (y := (.tmp 25)) (xv := .slice A8 (xs.length - (i + 1)) (cap - (i + 1))) (by kernel_rfl) (by kernel_rfl) (by kernel_rfl) (by kernel_rfl) (At.blk h) h8 (by omega) (by omega) (by rw [← List.map_drop]; exact one_flatten Tk.one)) ?_
    intro w9 hB hk9 hz9 K9
    have hsz8 := Keep.size hk9
    replace hK0 := Keep.fresh hK0 hk9 (by intro i hi hs; first | exact hs | exact Or.inl hs | exact Or.inr hs | (exfalso; have hs2 : i = b := hs; omega)); have hzhK0 := Keep.size hK0
    refine GI_pick [(7, .int .i64 ((xs.length : Nat) : Int)), (26, .slice (some ⟨b, o, none⟩) (i + (xs.length - (i + 1))) cap)] (by kernel_rfl) ?_
    refine GI_eq [(7, .int .i64 ((xs.length : Nat) : Int)), (26, .slice (some ⟨b, o, none⟩) (xs.length - 1) cap)] (by rw [show i + (xs.length - (i + 1)) = xs.length - 1 by omega]) ?_
    refine GI_static [] [(0, .slice (some ⟨b, o, none⟩) (xs.length - 1) cap), (7, .int .i64 ((xs.length : Nat) : Int))] (by kernel_rfl) ?_
    refine GI_end ?_
    refine X_then ?_
    refine V_seq ?_
    refine V_region ?_
    refine OI_static 4 [(0, .slice (some ⟨b, o, none⟩) (xs.length - 1) cap), (27, .slice (some ⟨b, o, none⟩) (xs.length - 1) cap), (29, .int .i64 ((xs.length - 1 : Nat) : Int)), (30, .int .i64 ((xs.length : Nat) : Int))] (by kernel_rfl) ?_
    refine OI_pure (some 31) ((Op.slice 31 (Operand.tmp 27) (some (Operand.tmp 29)) (some (Operand.tmp 30)) none)) (by kernel_rfl) (pure_sliceMid (E := 28) (sz := 36) (by_ := 64) (b := b) (o := o) (len := xs.length - 1) (cap := cap) (l := xs.length - 1) (h := xs.length) (k1 := .i64) (k2 := .i64) (by kernel_rfl) (by kernel_rfl) (by kernel_rfl) (by kernel_rfl) (by omega) (by omega) (by omega)) ?_
    refine OI_pick [(0, .slice (some ⟨b, o, none⟩) (xs.length - 1) cap), (31, .slice (some ⟨b, o + (xs.length - 1) * 36, none⟩) (xs.length - (xs.length - 1)) (cap - (xs.length - 1)))] (by kernel_rfl) ?_
    refine OI_eq [(0, .slice (some ⟨b, o, none⟩) (xs.length - 1) cap), (31, .slice (some ⟨b, o + (xs.length - 1) * 36, none⟩) 1 (cap - (xs.length - 1)))] (by rw [show xs.length - (xs.length - 1) = 1 by omega]) ?_
    rw [List.length_map] at g2 g3
    refine OI_turn none ((Op.call { callee := (Callee.builtin Builtin.clear), args := #[(Operand.tmp 31)], argTypes := #[31] })) (by kernel_rfl) (Blk.lt hB) (clear_run (t := 31) (E := 28) (sz := 36) (by_ := 64) (zv := (.agg #[.int .i64 0, .int .i64 0, .int .i64 0, .int .u8 0, .int .u8 0, .int .u8 0, .int .u8 0, .int .u8 0, .int .u8 0, .int .u8 0, .int .u8 0, .int .u8 0, .int .u8 0, .int .u8 0, .int .u8 0, .int .u8 0, .int .u8 0, .int .u8 0, .int .u8 0, .int .u8 0, .int .u8 0, .int .u8 0, .int .u8 0, .int .u8 0, .int .u8 0, .int .u8 0, .int .u8 0, .int .u8 0, .int .u8 0, .int .u8 0, .int .u8 0, .int .u8 0, .int .u8 0, .int .u8 0, .int .u8 0, .int .i64 0])) (b := b) (o := o + (xs.length - 1) * 36) (k := 1) (cap := cap - (xs.length - 1)) (x := (.tmp 31)) (by kernel_rfl) (by kernel_rfl) (by kernel_rfl) (one_all (by kernel_rfl)) (by kernel_rfl) hB (by omega) (by rw [g1]; omega) ([.int .i64 0, .int .i64 0, .int .i64 0, .int .u8 0, .int .u8 0, .int .u8 0, .int .u8 0, .int .u8 0, .int .u8 0, .int .u8 0, .int .u8 0, .int .u8 0, .int .u8 0, .int .u8 0, .int .u8 0, .int .u8 0, .int .u8 0, .int .u8 0, .int .u8 0, .int .u8 0, .int .u8 0, .int .u8 0, .int .u8 0, .int .u8 0, .int .u8 0, .int .u8 0, .int .u8 0, .int .u8 0, .int .u8 0, .int .u8 0, .int .u8 0, .int .u8 0, .int .u8 0, .int .u8 0, .int .u8 0, .int .i64 0]) (by kernel_rfl)) ?_
    intro w10 hC hk10 hz10
    have hsz9 := Keep.size hk10
    replace hK0 := Keep.fresh hK0 hk10 (by intro i hi hs; first | exact hs | exact Or.inl hs | exact Or.inr hs | (exfalso; have hs2 : i = b := hs; omega)); have hzhK0 := Keep.size hK0
    refine OI_end rfl ?_
    refine X_then ?_
    refine V_seq ?_
    refine V_region ?_
    refine OI_static 2 [(6, .slice (some ⟨b, o, none⟩) (xs.length - 1) cap)] (by kernel_rfl) ?_
    refine OI_end rfl ?_
    refine X_then ?_
    refine V_ret ?_
    exact X_return _ rfl ⟨rfl, del_slt hC hi (by omega) (by rw [g3]; omega) (by rw [List.length_map]; exact g2) Tk.len, hK0⟩
end Go.Al


namespace Go.Al
open Go Go.RowKit Go.Proofs
/-! ### The agenda -/
def ltT (a b : Tk) : Prop := a.at_ < b.at_ ∨ (a.at_ = b.at_ ∧ (a.pr < b.pr ∨ (a.pr = b.pr ∧ a.name < b.name)))
instance (a b : Tk) : Decidable (ltT a b) := by unfold ltT; infer_instance
theorem ordI_neg (a b : Tk) : ordI a b < 0 ↔ ltT a b := by
  unfold ordI ltT
  simp only [orI, cmpI]
  rcases Int.lt_trichotomy a.at_ b.at_ with h1 | h1 | h1 <;> rcases Int.lt_trichotomy a.pr b.pr with h2 | h2 | h2 <;> rcases Int.lt_trichotomy a.name b.name with h3 | h3 | h3 <;>
    simp_all <;> (repeat' split) <;> omega
theorem ltT_trans {a b c : Tk} (h : ltT a b) (k : ltT b c) : ltT a c := by unfold ltT at *; omega
theorem ltT_total {a b : Tk} (h : ¬ ltT a b) (hn : a.name ≠ b.name) : ltT b a := by unfold ltT at *; omega
def Srt (ts : List Tk) : Prop := ts.Pairwise ltT
/-- Where a task goes. -/
def ins (t : Tk) : List Tk → List Tk
  | [] => [t]
  | x :: l => if ltT x t then x :: ins t l else t :: x :: l
def putR (t : Tk) (ts : List Tk) : Int × List Tk :=
  if t.name < 0 ∨ t.at_ < 0 ∨ t.pr < 0 then (1, ts) else if ts.any (named t.name) then (5, ts) else if 12 ≤ ts.length then (3, ts) else (0, ins t ts)
/-- The agenda at g holds the tasks ts, in order; its array lies in a block of D. -/
def Ag (D : Nat → Prop) (w : World) (g : Nat) (ts : List Tk) : Prop := Srt ts ∧ ts.length ≤ 12 ∧ ∃ A cap, AgAt w g A cap ts ∧ ∀ k, inA A k → D k
theorem Ag.keep0 {D : Nat → Prop} {w w' : World} {g : Nat} {ts : List Tk} (h : Ag D w g ts) (k : Keep none_ w w') : Ag D w' g ts := by
  obtain ⟨h0, h1, A, cap, h2, h3⟩ := h
  exact ⟨h0, h1, A, cap, h2.keep0 k, h3⟩
theorem Ag.keep {D S : Nat → Prop} {w w' : World} {g : Nat} {ts : List Tk} (h : Ag D w g ts) (k : Keep S w w') (hg : ¬ S g) (hD : ∀ k, D k → ¬ S k) : Ag D w' g ts := by
  obtain ⟨h0, h1, A, cap, h2, h3⟩ := h
  exact ⟨h0, h1, A, cap, ⟨h2.blk.keep k hg, h2.sl.keep k (fun k hk => hD k (h3 k hk)), h2.off⟩, h3⟩
theorem Ag.mono {D D' : Nat → Prop} {w : World} {g : Nat} {ts : List Tk} (h : Ag D w g ts) (hD : ∀ k, D k → D' k) : Ag D' w g ts := by
  obtain ⟨h0, h1, A, cap, h2, h3⟩ := h
  exact ⟨h0, h1, A, cap, h2, fun k hk => hD k (h3 k hk)⟩
theorem Ag.fresh {D : Nat → Prop} {w w' : World} {g : Nat} {ts : List Tk} (h : Ag D w g ts) (k : Keep none_ w w') (b : Nat) (hb : w.heap.size ≤ b) : Ag (fun k => D k ∧ k ≠ b) w' g ts := by
  obtain ⟨h0, h1, A, cap, h2, h3⟩ := h
  exact ⟨h0, h1, A, cap, h2.keep0 k, fun q hq => ⟨h3 q hq, by have := SlT.lt h2.sl q hq; omega⟩⟩
theorem Ag.lt {D : Nat → Prop} {w : World} {g : Nat} {ts : List Tk} (h : Ag D w g ts) : g < w.heap.size := by
  obtain ⟨h0, h1, A, cap, h2, h3⟩ := h
  exact h2.blk.lt
theorem ins_at : ∀ (ts : List Tk) (t : Tk) (i : Nat), i ≤ ts.length → (∀ (j : Nat) y, j < i → ts[j]? = some y → ltT y t) → (∀ (j : Nat) y, i ≤ j → ts[j]? = some y → ¬ ltT y t) → ts.take i ++ t :: ts.drop i = ins t ts
  | [], t, i, hi, _, _ => by simp [ins]
  | x :: l, t, 0, _, _, h2 => by simp [ins, h2 0 x (Nat.le_refl _) rfl]
  | x :: l, t, i + 1, hi, h1, h2 => by
    simp only [ins, h1 0 x (Nat.succ_pos _) rfl, if_true, List.take_succ_cons, List.drop_succ_cons, List.cons_append]
    rw [ins_at l t i (by simpa using hi) (fun j y hj hy => h1 (j + 1) y (by omega) (by simpa using hy)) (fun j y hj hy => h2 (j + 1) y (by omega) (by simpa using hy))]
theorem ins_mem {t x : Tk} : ∀ {ts : List Tk}, x ∈ ins t ts ↔ x = t ∨ x ∈ ts
  | [] => by simp [ins]
  | y :: l => by
    simp only [ins]
    split
    · simp only [List.mem_cons, ins_mem]; exact ⟨by rintro (h | h | h) <;> simp [h], by rintro (h | h | h) <;> simp [h]⟩
    · simp
theorem ins_len (t : Tk) : ∀ ts : List Tk, (ins t ts).length = ts.length + 1
  | [] => rfl
  | y :: l => by simp only [ins]; split <;> simp [ins_len t l]
theorem ins_srt {t : Tk} : ∀ {ts : List Tk}, Srt ts → (∀ x ∈ ts, x.name ≠ t.name) → Srt (ins t ts)
  | [], _, _ => by simp [ins, Srt]
  | y :: l, h, hn => by
    have h := List.pairwise_cons.1 h
    simp only [ins]
    split
    · rename_i hy
      refine List.pairwise_cons.2 ⟨fun x hx => ?_, ins_srt h.2 (fun x hx => hn x (List.mem_cons_of_mem _ hx))⟩
      rcases ins_mem.1 hx with rfl | hx
      · exact hy
      · exact h.1 x hx
    · rename_i hy
      have hty := ltT_total hy (hn y (List.mem_cons_self ..))
      refine List.pairwise_cons.2 ⟨fun x hx => ?_, List.pairwise_cons.2 h⟩
      rcases List.mem_cons.1 hx with rfl | hx
      · exact hty
      · exact ltT_trans hty (h.1 x hx)
theorem idxFrom_nonneg {α : Type} (p : α → Bool) : ∀ (ts : List α) (i : Nat), (0 ≤ idxFrom p ts i) ↔ ts.any p = true
  | [], i => by simp [idxFrom]
  | x :: l, i => by
    simp only [idxFrom, List.any_cons, Bool.or_eq_true]
    split
    · rename_i h; simp [h]
    · rename_i h; rw [idxFrom_nonneg p l (i + 1)]; simp [h]
theorem Srt.mono {ts : List Tk} (h : Srt ts) (t : Tk) (i j : Nat) (x y : Tk) (hij : i ≤ j) (hx : ts[i]? = some x) (hy : ts[j]? = some y) (hlt : ordI y t < 0) : ordI x t < 0 := by
  rw [ordI_neg] at *
  rcases Nat.lt_or_eq_of_le hij with hij | rfl
  · obtain ⟨h1, rfl⟩ := List.getElem?_eq_some_iff.1 hx
    obtain ⟨h2, rfl⟩ := List.getElem?_eq_some_iff.1 hy
    exact ltT_trans (List.pairwise_iff_getElem.1 h i j h1 h2 hij) hlt
  · rw [hx] at hy; cases hy; exact hlt

theorem new_spec (D : Nat → Prop) (w : World) : Calls Try.prog 11 #[] w fun e w' => ∃ g, e = .returned (.pointer (some ⟨g, 0, none⟩)) ∧ Ag D w' g [] ∧ Keep none_ w w' ∧ w.heap.size ≤ g := by
  have hK0 : Keep none_ w w := Keep.refl _ _
  have hzhK0 := Keep.size hK0
  refine enterV Try.func11 rfl [] 3 rfl rfl rfl ?_
  refine V_pick [] rfl ?_
  refine V_seq ?_
  refine V_region ?_
  refine OI_static 1 [] (by kernel_rfl) ?_
  refine OI_end rfl ?_
  refine X_then ?_
  refine V_seq ?_
  refine V_region ?_
  refine OI_static 1 [(1, .agg #[.slice none 0 0])] (by kernel_rfl) ?_
  refine OI_box 57 (.tmp 1) (.agg #[.slice none 0 0]) [.slice none 0 0] (some 2) (by kernel_rfl) (by kernel_rfl) (by kernel_rfl) ?_
  intro b1 w1 e1 hb1 k1 z1
  have hsz2 := Keep.size k1
  replace hK0 := Keep.tr hK0 (Keep.ofNone k1); have hzhK0 := Keep.size hK0
  have hb1lt := hb1.lt
  refine OI_static 3 [(0, .pointer (some ⟨b1, 0, none⟩))] (by kernel_rfl) ?_
  refine OI_end rfl ?_
  refine X_then ?_
  refine V_ret ?_
  exact X_return _ rfl ⟨_, rfl, ⟨List.Pairwise.nil, by simp, none, 0, ⟨hb1, SlT.nil _ _ _, fun h => inA_none h⟩, fun k hk => (inA_none hk).elim⟩, hK0, by omega⟩

theorem len_spec (D : Nat → Prop) (g : Nat) (ts : List Tk) (w : World) (h : Ag D w g ts) : Calls Try.prog 14 #[.pointer (some ⟨g, 0, none⟩)] w fun e w' => e = .returned (.int .i64 (ts.length : Int)) ∧ w' = w := by
  obtain ⟨_, _, A, cap, h, _⟩ := h
  have hg := h.blk
  have hA := h.sl
  have hglt := hg.lt
  refine enterV Try.func14 rfl [.pointer (some ⟨g, 0, none⟩)] 10 rfl rfl rfl ?_
  refine V_pick [(0, .pointer (some ⟨g, 0, none⟩))] rfl ?_
  refine V_seq ?_
  refine V_region ?_
  refine OI_static 1 [(0, .pointer (some ⟨g, 0, none⟩))] (by kernel_rfl) ?_
  refine OI_end rfl ?_
  refine X_then ?_
  refine V_seq ?_
  refine V_seq ?_
  refine V_region ?_
  refine OI_static 2 [(0, .pointer (some ⟨g, 0, none⟩)), (4, .bool false)] (by kernel_rfl) ?_
  refine OI_end rfl ?_
  refine X_then ?_
  refine V_false rfl ?_
  refine V_skip ?_
  refine X_then ?_
  refine V_seq ?_
  refine V_region ?_
  refine OI_static 3 [(7, .pointer (some ⟨g, 0, none⟩))] (by kernel_rfl) ?_
  refine OI_cell 31 (.tmp 7) 0 (.slice A ts.length cap) (some 8) (by kernel_rfl) (by kernel_rfl) hg (m := 1) (by kernel_rfl) rfl ?_
  refine OI_static 6 [(2, .int .i64 ((ts.length : Nat) : Int))] (by kernel_rfl) ?_
  refine OI_end rfl ?_
  refine X_then ?_
  refine V_ret ?_
  exact X_return _ rfl ⟨rfl, rfl⟩

theorem put_spec (D : Nat → Prop) (g : Nat) (ts : List Tk) (t : Tk) (w : World) (h : Ag D w g ts) (hD : ∀ k, w.heap.size ≤ k → D k) : Calls Try.prog 12 #[.pointer (some ⟨g, 0, none⟩), .agg t.cells.toArray] w fun e w' => e = .returned (.int .i64 (putR t ts).1) ∧ Ag D w' g (putR t ts).2 ∧ Keep (only g) w w' := by
  obtain ⟨hs, hlen, A, cap, h, hDA⟩ := h
  have hgA := h.off
  have hg := h.blk
  have hA := h.sl
  have hglt := hg.lt
  have hltA := SlT.lt hA
  have hK0 : Keep (only g) w w := Keep.refl _ _
  have hzhK0 := Keep.size hK0
  refine enterV Try.func12 rfl [.pointer (some ⟨g, 0, none⟩), .agg (Tk.cells t).toArray] 59 rfl rfl rfl ?_
  refine V_pick [(0, .pointer (some ⟨g, 0, none⟩)), (1, .agg (Tk.cells t).toArray)] rfl ?_
  refine V_seq ?_
  refine V_region ?_
  refine OI_box 28 (.tmp 1) (.agg (Tk.cells t).toArray) (Tk.cells t) (some 3) (by kernel_rfl) (by kernel_rfl) rfl ?_
  intro b1 w1 e1 hb1 k1 z1
  have hsz2 := Keep.size k1
  replace hg := hg.keep k1 (fun f => f)
  have hglt := hg.lt
  replace hA := SlT.keep0 hA k1
  replace hK0 := Keep.tr hK0 (Keep.ofNone k1); have hzhK0 := Keep.size hK0
  have hb1lt := hb1.lt
  refine OI_static 2 [(0, .pointer (some ⟨g, 0, none⟩)), (3, .pointer (some ⟨b1, 0, none⟩))] (by kernel_rfl) ?_
  refine OI_end rfl ?_
  refine X_then ?_
  refine V_seq ?_
  refine V_block ?_
  refine V_seq ?_
  refine V_region ?_
  refine OI_static 4 [(0, .pointer (some ⟨g, 0, none⟩)), (3, .pointer (some ⟨b1, 0, none⟩)), (10, .bool false), (11, .pointer (some ⟨b1, 0, none⟩))] (by kernel_rfl) ?_
  refine OI_cell 3 (.tmp 11) 0 (.int .i64 t.name) (some 12) (by kernel_rfl) (by kernel_rfl) hb1 (m := 1) (by kernel_rfl) rfl ?_
  refine OI_static 8 [(0, .pointer (some ⟨g, 0, none⟩)), (3, .pointer (some ⟨b1, 0, none⟩)), (15, .bool (decide (t.name < 0)))] (by kernel_rfl) ?_
  by_cases hg3 : t.name < 0
  · skip
    refine OI_eq [(0, .pointer (some ⟨g, 0, none⟩)), (3, .pointer (some ⟨b1, 0, none⟩)), (15, .bool true)] (by first | simp [hg3] | rfl) ?_
    refine OI_static 18 [(0, .pointer (some ⟨g, 0, none⟩)), (3, .pointer (some ⟨b1, 0, none⟩)), (7, .bool true)] (by kernel_rfl) ?_
    refine OI_end rfl ?_
    refine X_then ?_
    refine V_true rfl ?_
    refine V_seq ?_
    refine V_region ?_
    refine OI_static 1 [(4, .int .i64 1)] (by kernel_rfl) ?_
    refine OI_end rfl ?_
    refine X_then ?_
    refine V_ret ?_
    refine X_ret_block ?_
    refine X_ret_then ?_
    have hp : putR t ts = (1, ts) := if_pos (by omega)
    rw [hp]
    exact X_return _ rfl ⟨rfl, ⟨hs, hlen, A, cap, ⟨hg, hA, hgA⟩, hDA⟩, hK0⟩
  · skip
    refine OI_eq [(0, .pointer (some ⟨g, 0, none⟩)), (3, .pointer (some ⟨b1, 0, none⟩)), (15, .bool false)] (by first | simp [hg3] | rfl) ?_
    refine OI_static 9 [(0, .pointer (some ⟨g, 0, none⟩)), (3, .pointer (some ⟨b1, 0, none⟩)), (15, .bool false), (16, .pointer (some ⟨b1, 1, none⟩))] (by kernel_rfl) ?_
    refine OI_cell 3 (.tmp 16) 1 (.int .i64 t.at_) (some 17) (by kernel_rfl) (by kernel_rfl) hb1 (m := 1) (by kernel_rfl) rfl ?_
    refine OI_static 13 [(0, .pointer (some ⟨g, 0, none⟩)), (3, .pointer (some ⟨b1, 0, none⟩)), (20, .bool (decide (t.at_ < 0)))] (by kernel_rfl) ?_
    by_cases hg4 : t.at_ < 0
    · skip
      refine OI_eq [(0, .pointer (some ⟨g, 0, none⟩)), (3, .pointer (some ⟨b1, 0, none⟩)), (20, .bool true)] (by first | simp [hg4] | rfl) ?_
      refine OI_static 18 [(0, .pointer (some ⟨g, 0, none⟩)), (3, .pointer (some ⟨b1, 0, none⟩)), (7, .bool true)] (by kernel_rfl) ?_
      refine OI_end rfl ?_
      refine X_then ?_
      refine V_true rfl ?_
      refine V_seq ?_
      refine V_region ?_
      refine OI_static 1 [(4, .int .i64 1)] (by kernel_rfl) ?_
      refine OI_end rfl ?_
      refine X_then ?_
      refine V_ret ?_
      refine X_ret_block ?_
      refine X_ret_then ?_
      have hp : putR t ts = (1, ts) := if_pos (by omega)
      rw [hp]
      exact X_return _ rfl ⟨rfl, ⟨hs, hlen, A, cap, ⟨hg, hA, hgA⟩, hDA⟩, hK0⟩
    · skip
      refine OI_eq [(0, .pointer (some ⟨g, 0, none⟩)), (3, .pointer (some ⟨b1, 0, none⟩)), (20, .bool false)] (by first | simp [hg4] | rfl) ?_
      refine OI_static 14 [(0, .pointer (some ⟨g, 0, none⟩)), (3, .pointer (some ⟨b1, 0, none⟩)), (20, .bool false), (21, .pointer (some ⟨b1, 2, none⟩))] (by kernel_rfl) ?_
      refine OI_cell 3 (.tmp 21) 2 (.int .i64 t.pr) (some 22) (by kernel_rfl) (by kernel_rfl) hb1 (m := 1) (by kernel_rfl) rfl ?_
      refine OI_static 18 [(0, .pointer (some ⟨g, 0, none⟩)), (3, .pointer (some ⟨b1, 0, none⟩)), (7, .bool (decide (t.pr < 0)))] (by kernel_rfl) ?_
      refine OI_end rfl ?_
      refine X_then ?_
      refine V_if (t.pr < 0) (by kernel_rfl) (fun hc5 => ?_) (fun hc5 => ?_)
      · skip
        refine V_seq ?_
        refine V_region ?_
        refine OI_static 1 [(4, .int .i64 1)] (by kernel_rfl) ?_
        refine OI_end rfl ?_
        refine X_then ?_
        refine V_ret ?_
        refine X_ret_block ?_
        refine X_ret_then ?_
        have hp : putR t ts = (1, ts) := if_pos (by omega)
        rw [hp]
        exact X_return _ rfl ⟨rfl, ⟨hs, hlen, A, cap, ⟨hg, hA, hgA⟩, hDA⟩, hK0⟩
      · skip
        refine V_seq ?_
        refine V_region ?_
        refine OI_static 2 [(0, .pointer (some ⟨g, 0, none⟩)), (3, .pointer (some ⟨b1, 0, none⟩)), (26, .pointer (some ⟨g, 0, none⟩)), (27, .pointer (some ⟨b1, 0, none⟩))] (by kernel_rfl) ?_
        refine OI_cell 3 (.tmp 27) 0 (.int .i64 t.name) (some 28) (by kernel_rfl) (by kernel_rfl) hb1 (m := 1) (by kernel_rfl) rfl ?_
        refine OI_call { callee := (Callee.value (Operand.func 23)), args := #[(Operand.tmp 26), (Operand.tmp 28)], argTypes := #[23, 3] } 23 #[.pointer (some ⟨g, 0, none⟩), .int .i64 t.name] (some 29) (by kernel_rfl) (by kernel_rfl) (by kernel_rfl) (place_spec g cap A ts t.name _ ⟨hg, hA, hgA⟩ (by omega)) ?_
        rintro _ w6 ⟨rfl, hk7⟩
        refine ⟨_, rfl, ?_⟩
        have hsz8 := Keep.size hk7
        replace hg := hg.keep hk7 (fun f => f)
        have hglt := hg.lt
        replace hb1 := hb1.keep hk7 (fun f => f)
        have hb1lt := hb1.lt
        replace hA := SlT.keep0 hA hk7
        replace hK0 := Keep.tr hK0 (Keep.ofNone hk7); have hzhK0 := Keep.size hK0
        refine OI_static 6 [(0, .pointer (some ⟨g, 0, none⟩)), (3, .pointer (some ⟨b1, 0, none⟩)), (25, .bool (decide (idxFrom (named t.name) ts 0 ≥ 0)))] (by kernel_rfl) ?_
        refine OI_end rfl ?_
        refine X_then ?_
        refine V_if (idxFrom (named t.name) ts 0 ≥ 0) (by kernel_rfl) (fun hc9 => ?_) (fun hc9 => ?_)
        · skip
          refine V_seq ?_
          refine V_region ?_
          refine OI_static 1 [(4, .int .i64 5)] (by kernel_rfl) ?_
          refine OI_end rfl ?_
          refine X_then ?_
          refine V_ret ?_
          refine X_ret_block ?_
          refine X_ret_then ?_
          have hp0 : ¬ (t.name < 0 ∨ t.at_ < 0 ∨ t.pr < 0) := by omega
          have hp : putR t ts = (5, ts) := by unfold putR; rw [if_neg hp0, if_pos ((idxFrom_nonneg _ _ _).1 hc9)]
          rw [hp]
          exact X_return _ rfl ⟨rfl, ⟨hs, hlen, A, cap, ⟨hg, hA, hgA⟩, hDA⟩, hK0⟩
        · skip
          refine V_seq ?_
          refine V_region ?_
          refine OI_static 3 [(0, .pointer (some ⟨g, 0, none⟩)), (3, .pointer (some ⟨b1, 0, none⟩)), (34, .pointer (some ⟨g, 0, none⟩))] (by kernel_rfl) ?_
          refine OI_cell 31 (.tmp 34) 0 (.slice A ts.length cap) (some 35) (by kernel_rfl) (by kernel_rfl) hg (m := 1) (by kernel_rfl) rfl ?_
          refine OI_static 7 [(0, .pointer (some ⟨g, 0, none⟩)), (3, .pointer (some ⟨b1, 0, none⟩)), (31, .bool (decide (((ts.length : Nat) : Int) ≥ 12)))] (by kernel_rfl) ?_
          refine OI_end rfl ?_
          refine X_then ?_
          refine V_if (((ts.length : Nat) : Int) ≥ 12) (by kernel_rfl) (fun hc10 => ?_) (fun hc10 => ?_)
          · skip
            refine V_seq ?_
            refine V_region ?_
            refine OI_static 1 [(4, .int .i64 3)] (by kernel_rfl) ?_
            refine OI_end rfl ?_
            refine X_then ?_
            refine V_ret ?_
            refine X_ret_block ?_
            refine X_ret_then ?_
            have hp0 : ¬ (t.name < 0 ∨ t.at_ < 0 ∨ t.pr < 0) := by omega
            have hany : ¬ ts.any (named t.name) = true := fun h => hc9 ((idxFrom_nonneg _ _ 0).2 h)
            have hp : putR t ts = (3, ts) := by unfold putR; rw [if_neg hp0, if_neg hany, if_pos (by omega)]
            rw [hp]
            exact X_return _ rfl ⟨rfl, ⟨hs, hlen, A, cap, ⟨hg, hA, hgA⟩, hDA⟩, hK0⟩
          · skip
            refine V_skip ?_
            refine X_block ?_
            refine X_then ?_
            refine V_seq ?_
            refine V_draws (acts [5]) none_ [[0, 1, 2, 3, 4, 5, 6, 7, 8, 9, 10]] (by kernel_rfl) (by repeat first | exact sure_body (by rintro _ _ ⟨h, _⟩; exact ⟨_, h⟩) | refine sure_then ?_ | refine sure_block ?_ | refine sure_join ?_) (by kernel_rfl) ?_
            intro w12 hk11 he13 L hL14
            have hsz15 := Keep.size hk11
            replace hg := hg.keep hk11 (fun f => f)
            have hglt := hg.lt
            replace hb1 := hb1.keep hk11 (fun f => f)
            have hb1lt := hb1.lt
            replace hA := SlT.keep0 hA hk11
            replace hK0 := Keep.tr hK0 (Keep.ofNone hk11); have hzhK0 := Keep.size hK0
            have qhg := hg
            have qhb1 := hb1
            have K16 : Keep none_ w12 w12 := Keep.refl _ _
            obtain rfl := List.mem_singleton.1 hL14
            refine GI_static [3, 4, 5, 6, 7, 8, 9, 10] [(0, .pointer (some ⟨g, 0, none⟩)), (3, .pointer (some ⟨b1, 0, none⟩)), (41, .pointer (some ⟨g, 0, none⟩))] (by kernel_rfl) ?_
            refine GI_cell 31 (.tmp 41) 0 (.slice A ts.length cap) (some 42) (by kernel_rfl) (by kernel_rfl) (by kernel_rfl) qhg (fun f => f) (m := 1) (by kernel_rfl) rfl ?_
            refine GI_agg 28 (.tmp 3) 0 (Tk.cells t) (some 43) (by kernel_rfl) (by kernel_rfl) (by kernel_rfl) qhb1 (fun f => f) (m := 36) (by kernel_rfl) (take_all (Tk.len _)) (Tk.len _) ?_
            refine GI_call0 { callee := (Callee.value (Operand.func 24)), args := #[(Operand.tmp 42), (Operand.tmp 43), (Operand.func 25)], argTypes := #[31, 28, 61] } 24 #[.slice A ts.length cap, .agg (Tk.cells t).toArray, .func (.func 25) #[] #[]] (some 44) (by kernel_rfl) (by kernel_rfl) (by kernel_rfl) (by kernel_rfl) (by kernel_rfl) (bsearch_spec A cap ts t _ hA (by omega) (Srt.mono hs t)) ?_
            rintro _ w17 ⟨i, bb, rfl, hk18, hi, hbef, haft⟩
            refine ⟨_, rfl, ?_⟩
            have hsz19 := Keep.size hk18
            replace hg := hg.keep hk18 (fun f => f)
            have hglt := hg.lt
            replace hb1 := hb1.keep hk18 (fun f => f)
            have hb1lt := hb1.lt
            replace hA := SlT.keep0 hA hk18
            replace hK0 := Keep.tr hK0 (Keep.ofNone hk18); have hzhK0 := Keep.size hK0
            refine GI_static [] [(0, .pointer (some ⟨g, 0, none⟩)), (3, .pointer (some ⟨b1, 0, none⟩)), (5, .int .i64 ((i : Nat) : Int))] (by kernel_rfl) ?_
            refine GI_end ?_
            refine X_then ?_
            refine V_seq ?_
            refine V_draws (acts [4, 5, 8, 9, 12]) (only g) [[1, 2, 3, 4, 5, 7, 8, 6, 9, 0, 10, 11, 12], [1, 2, 3, 4, 7, 8, 5, 6, 9, 0, 10, 11, 12], [7, 8, 1, 2, 3, 4, 5, 6, 9, 0, 10, 11, 12]] (by kernel_rfl) (by repeat first | exact sure_body (by rintro _ _ ⟨h, _⟩; exact ⟨_, h⟩) | refine sure_then ?_ | refine sure_block ?_ | refine sure_join ?_) (by kernel_rfl) ?_
            intro w21 hk20 he22 L hL23
            have hsz24 := Keep.size hk20
            replace hg := hg.keep hk20 (fun f => f)
            have hglt := hg.lt
            replace hb1 := hb1.keep hk20 (fun f => f)
            have hb1lt := hb1.lt
            replace hA := SlT.keep0 hA hk20
            replace hK0 := Keep.tr hK0 (Keep.ofNone hk20); have hzhK0 := Keep.size hK0
            have qhg := hg
            have qhb1 := hb1
            have K25 : Keep (only g) w21 w21 := Keep.refl _ _
            simp only [List.mem_cons, List.not_mem_nil, or_false] at hL23
            rcases hL23 with rfl | rfl | rfl
            · skip
              refine GI_static [4, 5, 7, 8, 6, 9, 0, 10, 11, 12] [(0, .pointer (some ⟨g, 0, none⟩)), (3, .pointer (some ⟨b1, 0, none⟩)), (5, .int .i64 ((i : Nat) : Int)), (50, .pointer (some ⟨g, 0, none⟩))] (by kernel_rfl) ?_
              refine GI_cellA 31 (.tmp 50) 0 (.slice A ts.length cap) (some 51) (by kernel_rfl) (by kernel_rfl) K25 (by kernel_rfl) hg (m := 1) (by kernel_rfl) rfl ?_
              refine GI_call { callee := (Callee.value (Operand.func 27)), args := #[(Operand.tmp 51)], argTypes := #[31] } 27 #[.slice A ts.length cap] (some 52) (by kernel_rfl) (by kernel_rfl) (by kernel_rfl) (by kernel_rfl) (cloneTk_spec A cap ts _ hA (by omega)) ?_
              rintro _ w26 ⟨A9, cap9, rfl, h9, hk27, hown9⟩
              have K28 := K25.tr (Keep.ofNone hk27)
              refine ⟨_, rfl, K28, ?_⟩
              have hzK28 := Keep.size K28
              have hsz29 := Keep.size hk27
              replace hg := hg.keep hk27 (fun f => f)
              have hglt := hg.lt
              replace hb1 := hb1.keep hk27 (fun f => f)
              have hb1lt := hb1.lt
              replace hA := SlT.keep0 hA hk27
              replace hK0 := Keep.tr hK0 (Keep.ofNone hk27); have hzhK0 := Keep.size hK0
              have hlt9 := SlT.lt h9
              refine GI_agg 28 (.tmp 3) 0 (Tk.cells t) (some 54) (by kernel_rfl) (by kernel_rfl) (by kernel_rfl) qhb1 (by show ¬ (_ = _); omega) (m := 36) (by kernel_rfl) (take_all (Tk.len _)) (Tk.len _) ?_
              refine GI_slit (E := 28) (zv := .agg #[.int .i64 0, .int .i64 0, .int .i64 0, .int .u8 0, .int .u8 0, .int .u8 0, .int .u8 0, .int .u8 0, .int .u8 0, .int .u8 0, .int .u8 0, .int .u8 0, .int .u8 0, .int .u8 0, .int .u8 0, .int .u8 0, .int .u8 0, .int .u8 0, .int .u8 0, .int .u8 0, .int .u8 0, .int .u8 0, .int .u8 0, .int .u8 0, .int .u8 0, .int .u8 0, .int .u8 0, .int .u8 0, .int .u8 0, .int .u8 0, .int .u8 0, .int .u8 0, .int .u8 0, .int .u8 0, .int .u8 0, .int .i64 0]) (sz := 36) (by_ := 64) 31 1 #[(0, (Operand.tmp 54))] [.agg (Tk.cells t).toArray] (Tk.cells t) (some 55) (by kernel_rfl) (by kernel_rfl) K28 (by kernel_rfl) (by kernel_rfl) (by omega) rfl (by omega) (by intro v hv; obtain rfl := List.mem_singleton.1 hv; show (Tk.cells t).toArray.size = 36; simp [Tk.len]) (by kernel_rfl) (by show (Tk.cells t).toArray.toList ++ [] = _; simp) ?_
              intro b30 w30 e30 hb30 k30 z30 K31
              have hsz32 := Keep.size k30
              replace hg := hg.keep k30 (fun f => f)
              have hglt := hg.lt
              replace hb1 := hb1.keep k30 (fun f => f)
              have hb1lt := hb1.lt
              replace hA := SlT.keep0 hA k30
              replace h9 := SlT.keep0 h9 k30
              replace hK0 := Keep.tr hK0 (Keep.ofNone k30); have hzhK0 := Keep.size hK0
              have hb30lt := hb30.lt
              refine GI_static [9, 0, 10, 11, 12] [(0, .pointer (some ⟨g, 0, none⟩)), (52, .slice A9 ts.length cap9), (53, .int .i64 ((i : Nat) : Int)), (55, .slice (some ⟨b30, 0, none⟩) 1 1)] (by kernel_rfl) ?_
              have hne9 : ¬ inA A9 b30 := fun hs => by have h1 := hlt9 _ hs; have h2 := hown9 _ hs; omega
              refine GI_call0 { callee := (Callee.value (Operand.func 26)), args := #[(Operand.tmp 52), (Operand.tmp 53), (Operand.tmp 55)], argTypes := #[31, 3, 31] } 26 #[.slice A9 ts.length cap9, .int .i64 ((i : Nat) : Int), .slice (some ⟨b30, 0, none⟩) 1 1] (some 56) (by kernel_rfl) (by kernel_rfl) (by kernel_rfl) (by kernel_rfl) (by kernel_rfl) (insertTk_spec A9 cap9 b30 i ts t _ h9 hb30 hne9 hi (by omega)) ?_
              rintro _ w33 ⟨A10, cap10, rfl, h10, hk34, hown10⟩
              refine ⟨_, rfl, ?_⟩
              have hsz35 := Keep.size hk34
              replace hg := hg.keep hk34 (fun hs => by have h1 := hlt9 _ hs; have h2 := hown9 _ hs; omega)
              have hglt := hg.lt
              replace hb1 := hb1.keep hk34 (fun hs => by have h1 := hlt9 _ hs; have h2 := hown9 _ hs; omega)
              have hb1lt := hb1.lt
              replace hb30 := hb30.keep hk34 (fun hs => by have h1 := hlt9 _ hs; have h2 := hown9 _ hs; omega)
              have hb30lt := hb30.lt
              replace hA := SlT.keep hA hk34 (fun k hk hs => by have h1 := hltA _ hk; have h2 := hown9 _ hs; omega)
              replace hK0 := Keep.fresh hK0 hk34 (by intro i hi hs; exfalso; have h2 := hown9 i hs; omega); have hzhK0 := Keep.size hK0
              have hgA10 : ¬ inA A10 g := fun hs => by rcases hown10 _ hs with h | h; (have h2 := hown9 _ h; omega); omega
              refine GI_static [12] [(56, .slice A10 (ts.length + 1) cap10), (58, .pointer (some ⟨g, 0, none⟩))] (by kernel_rfl) ?_
              refine GI_final 12 (by kernel_rfl) (by kernel_rfl) ?_
              refine OI_set (m := 1) (kd := false) 31 (.tmp 58) (.tmp 56) 0 (.slice A10 (ts.length + 1) cap10) [.slice A10 (ts.length + 1) cap10] none (by kernel_rfl) (by kernel_rfl) (by kernel_rfl) hg (by kernel_rfl) (by kernel_rfl) (by kernel_rfl) (Nat.le_of_ble_eq_true (by kernel_rfl)) (by simp [Value.oneCell']) ?_
              intro w36 hg_39 hk37 hz38
              replace hg_39 : Blk w36 g [.slice A10 (ts.length + 1) cap10] 57 := hg_39
              have hsz40 := Keep.size hk37
              replace hb1 := hb1.keep hk37 (by show ¬ (_ = _); omega)
              have hb1lt := hb1.lt
              replace hb30 := hb30.keep hk37 (by show ¬ (_ = _); omega)
              have hb30lt := hb30.lt
              replace hA := SlT.keep hA hk37 (fun k hk hs => by have hs : k = g := hs; subst hs; exact hgA hk)
              replace h10 := SlT.keep h10 hk37 (fun k hk hs => by have hs : k = g := hs; subst hs; exact hgA10 hk)
              replace hK0 := Keep.fresh hK0 hk37 (by intro i hi hs; first | exact hs | exact Or.inl hs | exact Or.inr hs | (exfalso; have hs2 : i = g := hs; omega)); have hzhK0 := Keep.size hK0
              refine OI_end rfl ?_
              refine X_then ?_
              refine V_seq ?_
              refine V_region ?_
              refine OI_static 1 [(4, .int .i64 0)] (by kernel_rfl) ?_
              refine OI_end rfl ?_
              refine X_then ?_
              refine V_ret ?_
              have hp0 : ¬ (t.name < 0 ∨ t.at_ < 0 ∨ t.pr < 0) := by omega
              have hany : ¬ ts.any (named t.name) = true := fun h => hc9 ((idxFrom_nonneg _ _ 0).2 h)
              have hp : putR t ts = (0, ins t ts) := by unfold putR; rw [if_neg hp0, if_neg hany, if_neg (by omega)]
              have hins : ts.take i ++ t :: ts.drop i = ins t ts := ins_at ts t i hi (fun j y hj hy => (ordI_neg _ _).1 (hbef j y hj hy)) (fun j y hj hy h => haft j y hj hy ((ordI_neg _ _).2 h))
              rw [hins] at h10
              have hnn : ∀ x ∈ ts, x.name ≠ t.name := fun x hx hh => hany (List.any_eq_true.2 ⟨x, hx, by simp [named, hh]⟩)
              rw [hp]
              exact X_return _ rfl ⟨rfl, ⟨ins_srt hs hnn, by rw [ins_len]; omega, A10, cap10, ⟨by rw [ins_len]; exact hg_39, h10, hgA10⟩, fun k hk => hD k (by rcases hown10 _ hk with h | h; (have h2 := hown9 _ h; omega); omega)⟩, hK0⟩
            · skip
              refine GI_static [4, 7, 8, 5, 6, 9, 0, 10, 11, 12] [(0, .pointer (some ⟨g, 0, none⟩)), (3, .pointer (some ⟨b1, 0, none⟩)), (5, .int .i64 ((i : Nat) : Int)), (50, .pointer (some ⟨g, 0, none⟩))] (by kernel_rfl) ?_
              refine GI_cellA 31 (.tmp 50) 0 (.slice A ts.length cap) (some 51) (by kernel_rfl) (by kernel_rfl) K25 (by kernel_rfl) hg (m := 1) (by kernel_rfl) rfl ?_
              refine GI_agg 28 (.tmp 3) 0 (Tk.cells t) (some 54) (by kernel_rfl) (by kernel_rfl) (by kernel_rfl) qhb1 (by show ¬ (_ = _); omega) (m := 36) (by kernel_rfl) (take_all (Tk.len _)) (Tk.len _) ?_
              refine GI_slit (E := 28) (zv := .agg #[.int .i64 0, .int .i64 0, .int .i64 0, .int .u8 0, .int .u8 0, .int .u8 0, .int .u8 0, .int .u8 0, .int .u8 0, .int .u8 0, .int .u8 0, .int .u8 0, .int .u8 0, .int .u8 0, .int .u8 0, .int .u8 0, .int .u8 0, .int .u8 0, .int .u8 0, .int .u8 0, .int .u8 0, .int .u8 0, .int .u8 0, .int .u8 0, .int .u8 0, .int .u8 0, .int .u8 0, .int .u8 0, .int .u8 0, .int .u8 0, .int .u8 0, .int .u8 0, .int .u8 0, .int .u8 0, .int .u8 0, .int .i64 0]) (sz := 36) (by_ := 64) 31 1 #[(0, (Operand.tmp 54))] [.agg (Tk.cells t).toArray] (Tk.cells t) (some 55) (by kernel_rfl) (by kernel_rfl) K25 (by kernel_rfl) (by kernel_rfl) (by omega) rfl (by omega) (by intro v hv; obtain rfl := List.mem_singleton.1 hv; show (Tk.cells t).toArray.size = 36; simp [Tk.len]) (by kernel_rfl) (by show (Tk.cells t).toArray.toList ++ [] = _; simp) ?_
              intro b41 w41 e41 hb41 k41 z41 K42
              have hsz43 := Keep.size k41
              replace hg := hg.keep k41 (fun f => f)
              have hglt := hg.lt
              replace hb1 := hb1.keep k41 (fun f => f)
              have hb1lt := hb1.lt
              replace hA := SlT.keep0 hA k41
              replace hK0 := Keep.tr hK0 (Keep.ofNone k41); have hzhK0 := Keep.size hK0
              have hb41lt := hb41.lt
              refine GI_call { callee := (Callee.value (Operand.func 27)), args := #[(Operand.tmp 51)], argTypes := #[31] } 27 #[.slice A ts.length cap] (some 52) (by kernel_rfl) (by kernel_rfl) (by kernel_rfl) (by kernel_rfl) (cloneTk_spec A cap ts _ hA (by omega)) ?_
              rintro _ w44 ⟨A9, cap9, rfl, h9, hk45, hown9⟩
              have K46 := K42.tr (Keep.ofNone hk45)
              refine ⟨_, rfl, K46, ?_⟩
              have hzK46 := Keep.size K46
              have hsz47 := Keep.size hk45
              replace hg := hg.keep hk45 (fun f => f)
              have hglt := hg.lt
              replace hb1 := hb1.keep hk45 (fun f => f)
              have hb1lt := hb1.lt
              replace hb41 := hb41.keep hk45 (fun f => f)
              have hb41lt := hb41.lt
              replace hA := SlT.keep0 hA hk45
              replace hK0 := Keep.tr hK0 (Keep.ofNone hk45); have hzhK0 := Keep.size hK0
              have hlt9 := SlT.lt h9
              refine GI_static [9, 0, 10, 11, 12] [(0, .pointer (some ⟨g, 0, none⟩)), (52, .slice A9 ts.length cap9), (53, .int .i64 ((i : Nat) : Int)), (55, .slice (some ⟨b41, 0, none⟩) 1 1)] (by kernel_rfl) ?_
              have hne9 : ¬ inA A9 b41 := fun hs => by have h1 := hlt9 _ hs; have h2 := hown9 _ hs; omega
              refine GI_call0 { callee := (Callee.value (Operand.func 26)), args := #[(Operand.tmp 52), (Operand.tmp 53), (Operand.tmp 55)], argTypes := #[31, 3, 31] } 26 #[.slice A9 ts.length cap9, .int .i64 ((i : Nat) : Int), .slice (some ⟨b41, 0, none⟩) 1 1] (some 56) (by kernel_rfl) (by kernel_rfl) (by kernel_rfl) (by kernel_rfl) (by kernel_rfl) (insertTk_spec A9 cap9 b41 i ts t _ h9 hb41 hne9 hi (by omega)) ?_
              rintro _ w48 ⟨A10, cap10, rfl, h10, hk49, hown10⟩
              refine ⟨_, rfl, ?_⟩
              have hsz50 := Keep.size hk49
              replace hg := hg.keep hk49 (fun hs => by have h1 := hlt9 _ hs; have h2 := hown9 _ hs; omega)
              have hglt := hg.lt
              replace hb1 := hb1.keep hk49 (fun hs => by have h1 := hlt9 _ hs; have h2 := hown9 _ hs; omega)
              have hb1lt := hb1.lt
              replace hb41 := hb41.keep hk49 (fun hs => by have h1 := hlt9 _ hs; have h2 := hown9 _ hs; omega)
              have hb41lt := hb41.lt
              replace hA := SlT.keep hA hk49 (fun k hk hs => by have h1 := hltA _ hk; have h2 := hown9 _ hs; omega)
              replace hK0 := Keep.fresh hK0 hk49 (by intro i hi hs; exfalso; have h2 := hown9 i hs; omega); have hzhK0 := Keep.size hK0
              have hgA10 : ¬ inA A10 g := fun hs => by rcases hown10 _ hs with h | h; (have h2 := hown9 _ h; omega); omega
              refine GI_static [12] [(56, .slice A10 (ts.length + 1) cap10), (58, .pointer (some ⟨g, 0, none⟩))] (by kernel_rfl) ?_
              refine GI_final 12 (by kernel_rfl) (by kernel_rfl) ?_
              refine OI_set (m := 1) (kd := false) 31 (.tmp 58) (.tmp 56) 0 (.slice A10 (ts.length + 1) cap10) [.slice A10 (ts.length + 1) cap10] none (by kernel_rfl) (by kernel_rfl) (by kernel_rfl) hg (by kernel_rfl) (by kernel_rfl) (by kernel_rfl) (Nat.le_of_ble_eq_true (by kernel_rfl)) (by simp [Value.oneCell']) ?_
              intro w51 hg_54 hk52 hz53
              replace hg_54 : Blk w51 g [.slice A10 (ts.length + 1) cap10] 57 := hg_54
              have hsz55 := Keep.size hk52
              replace hb1 := hb1.keep hk52 (by show ¬ (_ = _); omega)
              have hb1lt := hb1.lt
              replace hb41 := hb41.keep hk52 (by show ¬ (_ = _); omega)
              have hb41lt := hb41.lt
              replace hA := SlT.keep hA hk52 (fun k hk hs => by have hs : k = g := hs; subst hs; exact hgA hk)
              replace h10 := SlT.keep h10 hk52 (fun k hk hs => by have hs : k = g := hs; subst hs; exact hgA10 hk)
              replace hK0 := Keep.fresh hK0 hk52 (by intro i hi hs; first | exact hs | exact Or.inl hs | exact Or.inr hs | (exfalso; have hs2 : i = g := hs; omega)); have hzhK0 := Keep.size hK0
              refine OI_end rfl ?_
              refine X_then ?_
              refine V_seq ?_
              refine V_region ?_
              refine OI_static 1 [(4, .int .i64 0)] (by kernel_rfl) ?_
              refine OI_end rfl ?_
              refine X_then ?_
              refine V_ret ?_
              have hp0 : ¬ (t.name < 0 ∨ t.at_ < 0 ∨ t.pr < 0) := by omega
              have hany : ¬ ts.any (named t.name) = true := fun h => hc9 ((idxFrom_nonneg _ _ 0).2 h)
              have hp : putR t ts = (0, ins t ts) := by unfold putR; rw [if_neg hp0, if_neg hany, if_neg (by omega)]
              have hins : ts.take i ++ t :: ts.drop i = ins t ts := ins_at ts t i hi (fun j y hj hy => (ordI_neg _ _).1 (hbef j y hj hy)) (fun j y hj hy h => haft j y hj hy ((ordI_neg _ _).2 h))
              rw [hins] at h10
              have hnn : ∀ x ∈ ts, x.name ≠ t.name := fun x hx hh => hany (List.any_eq_true.2 ⟨x, hx, by simp [named, hh]⟩)
              rw [hp]
              exact X_return _ rfl ⟨rfl, ⟨ins_srt hs hnn, by rw [ins_len]; omega, A10, cap10, ⟨by rw [ins_len]; exact hg_54, h10, hgA10⟩, fun k hk => hD k (by rcases hown10 _ hk with h | h; (have h2 := hown9 _ h; omega); omega)⟩, hK0⟩
            · skip
              refine GI_agg 28 (.tmp 3) 0 (Tk.cells t) (some 54) (by kernel_rfl) (by kernel_rfl) (by kernel_rfl) qhb1 (by show ¬ (_ = _); omega) (m := 36) (by kernel_rfl) (take_all (Tk.len _)) (Tk.len _) ?_
              refine GI_slit (E := 28) (zv := .agg #[.int .i64 0, .int .i64 0, .int .i64 0, .int .u8 0, .int .u8 0, .int .u8 0, .int .u8 0, .int .u8 0, .int .u8 0, .int .u8 0, .int .u8 0, .int .u8 0, .int .u8 0, .int .u8 0, .int .u8 0, .int .u8 0, .int .u8 0, .int .u8 0, .int .u8 0, .int .u8 0, .int .u8 0, .int .u8 0, .int .u8 0, .int .u8 0, .int .u8 0, .int .u8 0, .int .u8 0, .int .u8 0, .int .u8 0, .int .u8 0, .int .u8 0, .int .u8 0, .int .u8 0, .int .u8 0, .int .u8 0, .int .i64 0]) (sz := 36) (by_ := 64) 31 1 #[(0, (Operand.tmp 54))] [.agg (Tk.cells t).toArray] (Tk.cells t) (some 55) (by kernel_rfl) (by kernel_rfl) K25 (by kernel_rfl) (by kernel_rfl) (by omega) rfl (by omega) (by intro v hv; obtain rfl := List.mem_singleton.1 hv; show (Tk.cells t).toArray.size = 36; simp [Tk.len]) (by kernel_rfl) (by show (Tk.cells t).toArray.toList ++ [] = _; simp) ?_
              intro b56 w56 e56 hb56 k56 z56 K57
              have hsz58 := Keep.size k56
              replace hg := hg.keep k56 (fun f => f)
              have hglt := hg.lt
              replace hb1 := hb1.keep k56 (fun f => f)
              have hb1lt := hb1.lt
              replace hA := SlT.keep0 hA k56
              replace hK0 := Keep.tr hK0 (Keep.ofNone k56); have hzhK0 := Keep.size hK0
              have hb56lt := hb56.lt
              refine GI_static [4, 5, 6, 9, 0, 10, 11, 12] [(0, .pointer (some ⟨g, 0, none⟩)), (5, .int .i64 ((i : Nat) : Int)), (50, .pointer (some ⟨g, 0, none⟩)), (55, .slice (some ⟨b56, 0, none⟩) 1 1)] (by kernel_rfl) ?_
              refine GI_cellA 31 (.tmp 50) 0 (.slice A ts.length cap) (some 51) (by kernel_rfl) (by kernel_rfl) K57 (by kernel_rfl) hg (m := 1) (by kernel_rfl) rfl ?_
              refine GI_call { callee := (Callee.value (Operand.func 27)), args := #[(Operand.tmp 51)], argTypes := #[31] } 27 #[.slice A ts.length cap] (some 52) (by kernel_rfl) (by kernel_rfl) (by kernel_rfl) (by kernel_rfl) (cloneTk_spec A cap ts _ hA (by omega)) ?_
              rintro _ w59 ⟨A9, cap9, rfl, h9, hk60, hown9⟩
              have K61 := K57.tr (Keep.ofNone hk60)
              refine ⟨_, rfl, K61, ?_⟩
              have hzK61 := Keep.size K61
              have hsz62 := Keep.size hk60
              replace hg := hg.keep hk60 (fun f => f)
              have hglt := hg.lt
              replace hb1 := hb1.keep hk60 (fun f => f)
              have hb1lt := hb1.lt
              replace hb56 := hb56.keep hk60 (fun f => f)
              have hb56lt := hb56.lt
              replace hA := SlT.keep0 hA hk60
              replace hK0 := Keep.tr hK0 (Keep.ofNone hk60); have hzhK0 := Keep.size hK0
              have hlt9 := SlT.lt h9
              refine GI_static [9, 0, 10, 11, 12] [(0, .pointer (some ⟨g, 0, none⟩)), (52, .slice A9 ts.length cap9), (53, .int .i64 ((i : Nat) : Int)), (55, .slice (some ⟨b56, 0, none⟩) 1 1)] (by kernel_rfl) ?_
              have hne9 : ¬ inA A9 b56 := fun hs => by have h1 := hlt9 _ hs; have h2 := hown9 _ hs; omega
              refine GI_call0 { callee := (Callee.value (Operand.func 26)), args := #[(Operand.tmp 52), (Operand.tmp 53), (Operand.tmp 55)], argTypes := #[31, 3, 31] } 26 #[.slice A9 ts.length cap9, .int .i64 ((i : Nat) : Int), .slice (some ⟨b56, 0, none⟩) 1 1] (some 56) (by kernel_rfl) (by kernel_rfl) (by kernel_rfl) (by kernel_rfl) (by kernel_rfl) (insertTk_spec A9 cap9 b56 i ts t _ h9 hb56 hne9 hi (by omega)) ?_
              rintro _ w63 ⟨A10, cap10, rfl, h10, hk64, hown10⟩
              refine ⟨_, rfl, ?_⟩
              have hsz65 := Keep.size hk64
              replace hg := hg.keep hk64 (fun hs => by have h1 := hlt9 _ hs; have h2 := hown9 _ hs; omega)
              have hglt := hg.lt
              replace hb1 := hb1.keep hk64 (fun hs => by have h1 := hlt9 _ hs; have h2 := hown9 _ hs; omega)
              have hb1lt := hb1.lt
              replace hb56 := hb56.keep hk64 (fun hs => by have h1 := hlt9 _ hs; have h2 := hown9 _ hs; omega)
              have hb56lt := hb56.lt
              replace hA := SlT.keep hA hk64 (fun k hk hs => by have h1 := hltA _ hk; have h2 := hown9 _ hs; omega)
              replace hK0 := Keep.fresh hK0 hk64 (by intro i hi hs; exfalso; have h2 := hown9 i hs; omega); have hzhK0 := Keep.size hK0
              have hgA10 : ¬ inA A10 g := fun hs => by rcases hown10 _ hs with h | h; (have h2 := hown9 _ h; omega); omega
              refine GI_static [12] [(56, .slice A10 (ts.length + 1) cap10), (58, .pointer (some ⟨g, 0, none⟩))] (by kernel_rfl) ?_
              refine GI_final 12 (by kernel_rfl) (by kernel_rfl) ?_
              refine OI_set (m := 1) (kd := false) 31 (.tmp 58) (.tmp 56) 0 (.slice A10 (ts.length + 1) cap10) [.slice A10 (ts.length + 1) cap10] none (by kernel_rfl) (by kernel_rfl) (by kernel_rfl) hg (by kernel_rfl) (by kernel_rfl) (by kernel_rfl) (Nat.le_of_ble_eq_true (by kernel_rfl)) (by simp [Value.oneCell']) ?_
              intro w66 hg_69 hk67 hz68
              replace hg_69 : Blk w66 g [.slice A10 (ts.length + 1) cap10] 57 := hg_69
              have hsz70 := Keep.size hk67
              replace hb1 := hb1.keep hk67 (by show ¬ (_ = _); omega)
              have hb1lt := hb1.lt
              replace hb56 := hb56.keep hk67 (by show ¬ (_ = _); omega)
              have hb56lt := hb56.lt
              replace hA := SlT.keep hA hk67 (fun k hk hs => by have hs : k = g := hs; subst hs; exact hgA hk)
              replace h10 := SlT.keep h10 hk67 (fun k hk hs => by have hs : k = g := hs; subst hs; exact hgA10 hk)
              replace hK0 := Keep.fresh hK0 hk67 (by intro i hi hs; first | exact hs | exact Or.inl hs | exact Or.inr hs | (exfalso; have hs2 : i = g := hs; omega)); have hzhK0 := Keep.size hK0
              refine OI_end rfl ?_
              refine X_then ?_
              refine V_seq ?_
              refine V_region ?_
              refine OI_static 1 [(4, .int .i64 0)] (by kernel_rfl) ?_
              refine OI_end rfl ?_
              refine X_then ?_
              refine V_ret ?_
              have hp0 : ¬ (t.name < 0 ∨ t.at_ < 0 ∨ t.pr < 0) := by omega
              have hany : ¬ ts.any (named t.name) = true := fun h => hc9 ((idxFrom_nonneg _ _ 0).2 h)
              have hp : putR t ts = (0, ins t ts) := by unfold putR; rw [if_neg hp0, if_neg hany, if_neg (by omega)]
              have hins : ts.take i ++ t :: ts.drop i = ins t ts := ins_at ts t i hi (fun j y hj hy => (ordI_neg _ _).1 (hbef j y hj hy)) (fun j y hj hy h => haft j y hj hy ((ordI_neg _ _).2 h))
              rw [hins] at h10
              have hnn : ∀ x ∈ ts, x.name ≠ t.name := fun x hx hh => hany (List.any_eq_true.2 ⟨x, hx, by simp [named, hh]⟩)
              rw [hp]
              exact X_return _ rfl ⟨rfl, ⟨ins_srt hs hnn, by rw [ins_len]; omega, A10, cap10, ⟨by rw [ins_len]; exact hg_69, h10, hgA10⟩, fun k hk => hD k (by rcases hown10 _ hk with h | h; (have h2 := hown9 _ h; omega); omega)⟩, hK0⟩

/-- How many tasks are taken. -/
def dueN (now most : Int) : List Tk → Nat
  | [] => 0
  | t :: l => if 0 < most ∧ t.at_ ≤ now then dueN now (most - 1) l + 1 else 0
theorem dueN_at {now : Int} : ∀ (ts : List Tk) (most : Int) (n : Nat), n ≤ ts.length → (n = 0 ∨ (n : Int) ≤ most) → (∀ (j : Nat) y, j < n → ts[j]? = some y → y.at_ ≤ now) → (n = ts.length ∨ most ≤ n ∨ ∃ y, ts[n]? = some y ∧ now < y.at_) → n = dueN now most ts
  | [], most, n, h1, _, _, _ => by simp at h1; simp [dueN, h1]
  | t :: l, most, 0, h1, h2, h3, h4 => by
    simp only [dueN]
    rw [if_neg]
    rintro ⟨h5, h6⟩
    rcases h4 with h | h | ⟨y, hy, hlt⟩
    · simp at h
    · omega
    · simp at hy; subst hy; omega
  | t :: l, most, n + 1, h1, h2, h3, h4 => by
    simp only [dueN]
    rw [if_pos ⟨by omega, h3 0 t (by omega) rfl⟩]
    rw [← dueN_at l (most - 1) n (by simpa using h1) (by omega) (fun j y hj hy => h3 (j + 1) y (by omega) (by simpa using hy)) (by
      rcases h4 with h | h | ⟨y, hy, hlt⟩
      · left; simpa using h
      · right; left; omega
      · right; right; exact ⟨y, by simpa using hy, hlt⟩)]
theorem Srt.drop {ts : List Tk} (h : Srt ts) (n : Nat) : Srt (ts.drop n) := List.Pairwise.sublist (List.drop_sublist n ts) h

theorem due_spec (D : Nat → Prop) (g : Nat) (ts : List Tk) (now most : Int) (w : World) (h : Ag D w g ts) : Calls Try.prog 13 #[.pointer (some ⟨g, 0, none⟩), .int .i64 now, .int .i64 most] w fun e w' => ∃ A' cap', e = .returned (.slice A' (ts.take (dueN now most ts)).length cap') ∧ SlT w' 36 Tk.cells A' cap' (ts.take (dueN now most ts)) ∧ Ag D w' g (ts.drop (dueN now most ts)) ∧ Keep (only g) w w' ∧ (∀ k, inA A' k → w.heap.size ≤ k) := by
  obtain ⟨hs, hlen, A, cap, h, hDA⟩ := h
  have hgA := h.off
  have hg := h.blk
  have hA := h.sl
  have hglt := hg.lt
  have hK0 : Keep (only g) w w := Keep.refl _ _
  have hzhK0 := Keep.size hK0
  refine enterV Try.func13 rfl [.pointer (some ⟨g, 0, none⟩), .int .i64 now, .int .i64 most] 54 rfl rfl rfl ?_
  refine V_pick [(0, .pointer (some ⟨g, 0, none⟩)), (1, .int .i64 now), (2, .int .i64 most)] rfl ?_
  refine V_seq ?_
  refine V_region ?_
  refine OI_static 1 [(0, .pointer (some ⟨g, 0, none⟩)), (1, .int .i64 now), (2, .int .i64 most)] (by kernel_rfl) ?_
  refine OI_end rfl ?_
  refine X_then ?_
  refine V_seq ?_
  refine V_seq ?_
  refine V_region ?_
  refine OI_static 2 [(0, .pointer (some ⟨g, 0, none⟩)), (1, .int .i64 now), (2, .int .i64 most), (10, .bool false)] (by kernel_rfl) ?_
  refine OI_end rfl ?_
  refine X_then ?_
  refine V_false rfl ?_
  refine V_skip ?_
  refine X_then ?_
  refine V_seq ?_
  refine V_region ?_
  refine OI_static 1 [(0, .pointer (some ⟨g, 0, none⟩)), (1, .int .i64 now), (2, .int .i64 most), (7, .int .i64 0)] (by kernel_rfl) ?_
  refine OI_end rfl ?_
  refine X_then ?_
  refine V_seq ?_
  refine V_blockJ (fun wI e => ∃ n : Nat, (n ≤ ts.length) ∧ (n = 0 ∨ (n : Int) ≤ most) ∧ (∀ (j : Nat) y, j < n → ts[j]? = some y → y.at_ ≤ now) ∧ (n = ts.length ∨ most ≤ n ∨ ∃ y, ts[n]? = some y ∧ now < y.at_) ∧ w = wI ∧ e = [(0, .pointer (some ⟨g, 0, none⟩)), (7, .int .i64 ((n : Nat) : Int))]) ?_ ?_
  · skip
    refine V_pick [(0, .pointer (some ⟨g, 0, none⟩)), (1, .int .i64 now), (2, .int .i64 most), (7, .int .i64 0)] rfl ?_
    refine V_loop (fun k wI e => ∃ n : Nat, (k + n = ts.length) ∧ (n = 0 ∨ (n : Int) ≤ most) ∧ (∀ (j : Nat) y, j < n → ts[j]? = some y → y.at_ ≤ now) ∧ w = wI ∧ e = [(0, .pointer (some ⟨g, 0, none⟩)), (1, .int .i64 now), (2, .int .i64 most), (7, .int .i64 ((n : Nat) : Int))]) ts.length ⟨0, rfl, .inl rfl, fun j y hj => absurd hj (Nat.not_lt_zero _), rfl, rfl⟩ ?_
    rintro k2 _ _ ⟨n, hkn, hmost, hbef, rfl, rfl⟩
    refine V_seq ?_
    refine V_seq ?_
    refine V_region ?_
    refine OI_static 4 [(0, .pointer (some ⟨g, 0, none⟩)), (1, .int .i64 now), (2, .int .i64 most), (7, .int .i64 ((n : Nat) : Int)), (11, .int .i64 ((n : Nat) : Int)), (14, .pointer (some ⟨g, 0, none⟩))] (by kernel_rfl) ?_
    refine OI_cell 31 (.tmp 14) 0 (.slice A ts.length cap) (some 15) (by kernel_rfl) (by kernel_rfl) hg (m := 1) (by kernel_rfl) rfl ?_
    refine OI_static 8 [(0, .pointer (some ⟨g, 0, none⟩)), (1, .int .i64 now), (2, .int .i64 most), (7, .int .i64 ((n : Nat) : Int)), (18, .bool (decide (((n : Nat) : Int) < ((ts.length : Nat) : Int))))] (by kernel_rfl) ?_
    by_cases hg3 : ((n : Nat) : Int) < ((ts.length : Nat) : Int)
    · skip
      refine OI_eq [(0, .pointer (some ⟨g, 0, none⟩)), (1, .int .i64 now), (2, .int .i64 most), (7, .int .i64 ((n : Nat) : Int)), (18, .bool true)] (by first | simp [hg3] | rfl) ?_
      refine OI_static 13 [(0, .pointer (some ⟨g, 0, none⟩)), (1, .int .i64 now), (2, .int .i64 most), (7, .int .i64 ((n : Nat) : Int)), (19, .int .i64 ((n : Nat) : Int)), (20, .int .i64 most), (21, .bool (decide (((n : Nat) : Int) < most))), (23, .bool (decide (((n : Nat) : Int) < most)))] (by kernel_rfl) ?_
      by_cases hg4 : ((n : Nat) : Int) < most
      · skip
        refine OI_eq [(0, .pointer (some ⟨g, 0, none⟩)), (1, .int .i64 now), (2, .int .i64 most), (7, .int .i64 ((n : Nat) : Int)), (19, .int .i64 ((n : Nat) : Int)), (20, .int .i64 most), (21, .bool (decide (((n : Nat) : Int) < most))), (23, .bool true)] (by first | simp [hg4] | rfl) ?_
        refine OI_static 16 [(0, .pointer (some ⟨g, 0, none⟩)), (1, .int .i64 now), (2, .int .i64 most), (7, .int .i64 ((n : Nat) : Int)), (19, .int .i64 ((n : Nat) : Int)), (20, .int .i64 most), (21, .bool (decide (((n : Nat) : Int) < most))), (23, .bool true), (24, .pointer (some ⟨g, 0, none⟩)), (25, .pointer (some ⟨g, 0, none⟩)), (26, .pointer (some ⟨g, 0, none⟩))] (by kernel_rfl) ?_
        refine OI_cell 31 (.tmp 26) 0 (.slice A ts.length cap) (some 27) (by kernel_rfl) (by kernel_rfl) hg (m := 1) (by kernel_rfl) rfl ?_
        refine OI_static 18 [(0, .pointer (some ⟨g, 0, none⟩)), (1, .int .i64 now), (2, .int .i64 most), (7, .int .i64 ((n : Nat) : Int)), (19, .int .i64 ((n : Nat) : Int)), (20, .int .i64 most), (21, .bool (decide (((n : Nat) : Int) < most))), (23, .bool true), (24, .pointer (some ⟨g, 0, none⟩)), (25, .pointer (some ⟨g, 0, none⟩)), (26, .pointer (some ⟨g, 0, none⟩)), (27, .slice A ts.length cap), (28, .int .i64 ((n : Nat) : Int))] (by kernel_rfl) ?_
        obtain ⟨b5, o5, L5, T5, rfl, hat5⟩ := SlT.open_ hA (by first | omega | (simp only [List.length_map]; omega) | (simp; done) | (simp; omega))
        have hb5lt := hat5.blk.lt
        refine OI_pure (some 29) (.indexAddr 31 (.tmp 27) (.tmp 28)) (by kernel_rfl) (pure_idxN (b := b5) (o := o5) (len := ts.length) (cap := cap) (kd := .i64) (j := n) (E := 28) (sz := 36) (by_ := 64) (by kernel_rfl) (by kernel_rfl) (by kernel_rfl) (by omega)) ?_
        refine OI_static 20 [(0, .pointer (some ⟨g, 0, none⟩)), (1, .int .i64 now), (2, .int .i64 most), (7, .int .i64 ((n : Nat) : Int)), (19, .int .i64 ((n : Nat) : Int)), (20, .int .i64 most), (21, .bool (decide (((n : Nat) : Int) < most))), (23, .bool true), (24, .pointer (some ⟨g, 0, none⟩)), (25, .pointer (some ⟨g, 0, none⟩)), (26, .pointer (some ⟨g, 0, none⟩)), (27, .slice (some ⟨b5, o5, none⟩) ts.length cap), (28, .int .i64 ((n : Nat) : Int)), (29, .pointer (some ⟨b5, o5 + n * 36, none⟩)), (30, .pointer (some ⟨b5, o5 + n * 36 + 1, none⟩))] (by kernel_rfl) ?_
        obtain ⟨x6, hx7⟩ : ∃ x, ts[n]? = some x := ⟨_, List.getElem?_eq_getElem (by first | omega | (simp only [List.length_map]; omega))⟩
        refine OI_cell 3 (.tmp 30) (o5 + n * 36 + 1) (.int .i64 x6.at_) (some 31) (by kernel_rfl) (by kernel_rfl) hat5.blk (m := 1) (by kernel_rfl) (At.cell hat5 (es_at hx7) rfl) ?_
        refine OI_static 24 [(0, .pointer (some ⟨g, 0, none⟩)), (1, .int .i64 now), (2, .int .i64 most), (7, .int .i64 ((n : Nat) : Int)), (19, .int .i64 ((n : Nat) : Int)), (20, .int .i64 most), (21, .bool (decide (((n : Nat) : Int) < most))), (24, .pointer (some ⟨g, 0, none⟩)), (25, .pointer (some ⟨g, 0, none⟩)), (26, .pointer (some ⟨g, 0, none⟩)), (27, .slice (some ⟨b5, o5, none⟩) ts.length cap), (28, .int .i64 ((n : Nat) : Int)), (29, .pointer (some ⟨b5, o5 + n * 36, none⟩)), (30, .pointer (some ⟨b5, o5 + n * 36 + 1, none⟩)), (31, .int .i64 x6.at_), (32, .int .i64 now), (33, .bool (decide (x6.at_ ≤ now))), (34, .bool (decide (x6.at_ ≤ now)))] (by kernel_rfl) ?_
        refine OI_end rfl ?_
        refine X_then ?_
        refine V_if (x6.at_ ≤ now) (by kernel_rfl) (fun hc8 => ?_) (fun hc8 => ?_)
        · skip
          refine V_skip ?_
          refine X_then ?_
          refine V_block ?_
          refine V_region ?_
          have hw9 : IntKind.i64.wrap (((n : Nat) : Int) + 1) = ((n + 1 : Nat) : Int) := (wrap64_id (by omega) (by omega)).trans (by omega)
          refine OI_static 2 [(0, .pointer (some ⟨g, 0, none⟩)), (1, .int .i64 now), (2, .int .i64 most), (19, .int .i64 ((n : Nat) : Int)), (20, .int .i64 most), (21, .bool (decide (((n : Nat) : Int) < most))), (24, .pointer (some ⟨g, 0, none⟩)), (25, .pointer (some ⟨g, 0, none⟩)), (26, .pointer (some ⟨g, 0, none⟩)), (27, .slice (some ⟨b5, o5, none⟩) ts.length cap), (28, .int .i64 ((n : Nat) : Int)), (29, .pointer (some ⟨b5, o5 + n * 36, none⟩)), (30, .pointer (some ⟨b5, o5 + n * 36 + 1, none⟩)), (31, .int .i64 x6.at_), (32, .int .i64 now), (33, .bool (decide (x6.at_ ≤ now))), (36, .int .i64 (IntKind.i64.wrap (((n : Nat) : Int) + 1)))] (by kernel_rfl) ?_
          refine OI_eq [(0, .pointer (some ⟨g, 0, none⟩)), (1, .int .i64 now), (2, .int .i64 most), (19, .int .i64 ((n : Nat) : Int)), (20, .int .i64 most), (21, .bool (decide (((n : Nat) : Int) < most))), (24, .pointer (some ⟨g, 0, none⟩)), (25, .pointer (some ⟨g, 0, none⟩)), (26, .pointer (some ⟨g, 0, none⟩)), (27, .slice (some ⟨b5, o5, none⟩) ts.length cap), (28, .int .i64 ((n : Nat) : Int)), (29, .pointer (some ⟨b5, o5 + n * 36, none⟩)), (30, .pointer (some ⟨b5, o5 + n * 36 + 1, none⟩)), (31, .int .i64 x6.at_), (32, .int .i64 now), (33, .bool (decide (x6.at_ ≤ now))), (36, .int .i64 ((n + 1 : Nat) : Int))] (by rw [hw9]) ?_
          refine OI_static 3 [(0, .pointer (some ⟨g, 0, none⟩)), (1, .int .i64 now), (2, .int .i64 most), (7, .int .i64 ((n + 1 : Nat) : Int)), (19, .int .i64 ((n : Nat) : Int)), (20, .int .i64 most), (21, .bool (decide (((n : Nat) : Int) < most))), (24, .pointer (some ⟨g, 0, none⟩)), (25, .pointer (some ⟨g, 0, none⟩)), (26, .pointer (some ⟨g, 0, none⟩)), (27, .slice (some ⟨b5, o5, none⟩) ts.length cap), (28, .int .i64 ((n : Nat) : Int)), (29, .pointer (some ⟨b5, o5 + n * 36, none⟩)), (30, .pointer (some ⟨b5, o5 + n * 36 + 1, none⟩)), (31, .int .i64 x6.at_), (32, .int .i64 now), (33, .bool (decide (x6.at_ ≤ now)))] (by kernel_rfl) ?_
          refine OI_end rfl ?_
          refine X_block ?_
          exact V_again (k2 - 1) (by omega) [(0, .pointer (some ⟨g, 0, none⟩)), (1, .int .i64 now), (2, .int .i64 most), (7, .int .i64 ((n + 1 : Nat) : Int))] rfl ⟨n + 1, by omega, .inr (by omega), fun j y hj hy => by rcases Nat.lt_or_ge j n with h | h; exact hbef j y h hy; (obtain rfl : j = n := by omega); rw [hx7] at hy; cases hy; assumption, rfl, rfl⟩
        · skip
          refine V_exit ?_
          refine X_exit_then ?_
          refine X_exit_then ?_
          refine X_exit_here ?_
          exact X_join [(0, .pointer (some ⟨g, 0, none⟩)), (7, .int .i64 ((n : Nat) : Int))] rfl ⟨n, by omega, hmost, hbef, .inr (.inr ⟨_, hx7, by omega⟩), rfl, rfl⟩
      · skip
        refine OI_eq [(0, .pointer (some ⟨g, 0, none⟩)), (1, .int .i64 now), (2, .int .i64 most), (7, .int .i64 ((n : Nat) : Int)), (19, .int .i64 ((n : Nat) : Int)), (20, .int .i64 most), (21, .bool (decide (((n : Nat) : Int) < most))), (23, .bool false)] (by first | simp [hg4] | rfl) ?_
        refine OI_static 24 [(0, .pointer (some ⟨g, 0, none⟩)), (1, .int .i64 now), (2, .int .i64 most), (7, .int .i64 ((n : Nat) : Int)), (19, .int .i64 ((n : Nat) : Int)), (20, .int .i64 most), (21, .bool (decide (((n : Nat) : Int) < most))), (24, undef), (25, undef), (26, undef), (27, undef), (28, undef), (29, undef), (30, undef), (31, undef), (32, undef), (33, undef), (34, .bool false)] (by kernel_rfl) ?_
        refine OI_end rfl ?_
        refine X_then ?_
        refine V_false rfl ?_
        refine V_exit ?_
        refine X_exit_then ?_
        refine X_exit_then ?_
        refine X_exit_here ?_
        exact X_join [(0, .pointer (some ⟨g, 0, none⟩)), (7, .int .i64 ((n : Nat) : Int))] rfl ⟨n, by omega, hmost, hbef, .inr (.inl (by omega)), rfl, rfl⟩
    · skip
      refine OI_eq [(0, .pointer (some ⟨g, 0, none⟩)), (1, .int .i64 now), (2, .int .i64 most), (7, .int .i64 ((n : Nat) : Int)), (18, .bool false)] (by first | simp [hg3] | rfl) ?_
      refine OI_static 24 [(0, .pointer (some ⟨g, 0, none⟩)), (1, .int .i64 now), (2, .int .i64 most), (7, .int .i64 ((n : Nat) : Int)), (19, undef), (20, undef), (21, undef), (24, undef), (25, undef), (26, undef), (27, undef), (28, undef), (29, undef), (30, undef), (31, undef), (32, undef), (33, undef), (34, .bool false)] (by kernel_rfl) ?_
      refine OI_end rfl ?_
      refine X_then ?_
      refine V_false rfl ?_
      refine V_exit ?_
      refine X_exit_then ?_
      refine X_exit_then ?_
      refine X_exit_here ?_
      exact X_join [(0, .pointer (some ⟨g, 0, none⟩)), (7, .int .i64 ((n : Nat) : Int))] rfl ⟨n, by omega, hmost, hbef, .inl (by omega), rfl, rfl⟩
  · skip
    rintro _ _ ⟨n, hn, hmost, hbef, hend, rfl, rfl⟩
    have hcl := SlT.cap_le hA
    refine X_then ?_
    refine V_seq ?_
    refine V_region ?_
    refine OI_static 3 [(0, .pointer (some ⟨g, 0, none⟩)), (7, .int .i64 ((n : Nat) : Int)), (39, .pointer (some ⟨g, 0, none⟩))] (by kernel_rfl) ?_
    refine OI_cell 31 (.tmp 39) 0 (.slice A ts.length cap) (some 40) (by kernel_rfl) (by kernel_rfl) hg (m := 1) (by kernel_rfl) rfl ?_
    refine OI_static 5 [(0, .pointer (some ⟨g, 0, none⟩)), (7, .int .i64 ((n : Nat) : Int)), (40, .slice A ts.length cap), (41, .int .i64 ((n : Nat) : Int))] (by kernel_rfl) ?_
    refine OI_pure (some 42) ((Op.slice 31 (Operand.tmp 40) none (some (Operand.tmp 41)) none)) (by kernel_rfl) (pure_sliceTo (E := 28) (sz := 36) (by_ := 64) (base := A) (len := ts.length) (cap := cap) (h := n) (kd := .i64) (by kernel_rfl) (by kernel_rfl) (by kernel_rfl) (by omega)) ?_
    refine OI_pick [(0, .pointer (some ⟨g, 0, none⟩)), (7, .int .i64 ((n : Nat) : Int)), (42, .slice A n cap)] (by kernel_rfl) ?_
    refine OI_eq [(0, .pointer (some ⟨g, 0, none⟩)), (7, .int .i64 ((n : Nat) : Int)), (42, .slice A ((ts.take n).length) cap)] (by rw [List.length_take, Nat.min_eq_left hn]) ?_
    refine OI_call { callee := (Callee.value (Operand.func 27)), args := #[(Operand.tmp 42)], argTypes := #[31] } 27 #[.slice A ((ts.take n).length) cap] (some 43) (by kernel_rfl) (by kernel_rfl) (by kernel_rfl) (cloneTk_spec A cap (ts.take n) _ (SlT.to hA hn) (by rw [List.length_take]; omega)) ?_
    rintro _ w12 ⟨A9, cap9, rfl, h9, hk13, hown9⟩
    refine ⟨_, rfl, ?_⟩
    have hsz14 := Keep.size hk13
    replace hg := hg.keep hk13 (fun f => f)
    have hglt := hg.lt
    replace hA := SlT.keep0 hA hk13
    replace hK0 := Keep.tr hK0 (Keep.ofNone hk13); have hzhK0 := Keep.size hK0
    refine OI_static 8 [(0, .pointer (some ⟨g, 0, none⟩)), (7, .int .i64 ((n : Nat) : Int)), (8, .slice A9 ((ts.take n).length) cap9)] (by kernel_rfl) ?_
    refine OI_end rfl ?_
    refine X_then ?_
    refine V_seq ?_
    refine V_region ?_
    refine OI_static 4 [(7, .int .i64 ((n : Nat) : Int)), (8, .slice A9 ((ts.take n).length) cap9), (44, .pointer (some ⟨g, 0, none⟩)), (47, .pointer (some ⟨g, 0, none⟩))] (by kernel_rfl) ?_
    refine OI_cell 31 (.tmp 47) 0 (.slice A ts.length cap) (some 48) (by kernel_rfl) (by kernel_rfl) hg (m := 1) (by kernel_rfl) rfl ?_
    refine OI_static 6 [(8, .slice A9 ((ts.take n).length) cap9), (44, .pointer (some ⟨g, 0, none⟩)), (48, .slice A ts.length cap), (49, .int .i64 ((n : Nat) : Int))] (by kernel_rfl) ?_
    refine OI_pure (some 50) ((Op.slice 31 (Operand.tmp 48) (some (Operand.tmp 49)) none none)) (by kernel_rfl) (pure_sliceSuf (E := 28) (sz := 36) (by_ := 64) (A := A) (len := ts.length) (cap := cap) (l := n) (kd := .i64) (by kernel_rfl) (by kernel_rfl) (by kernel_rfl) (by omega) (by omega)) ?_
    refine OI_static 9 [(8, .slice A9 ((ts.take n).length) cap9), (50, .slice (sufA A cap n 36) (ts.length - n) (cap - n)), (52, .pointer (some ⟨g, 0, none⟩))] (by kernel_rfl) ?_
    refine OI_set (m := 1) (kd := false) 31 (.tmp 52) (.tmp 50) 0 (.slice (sufA A cap n 36) (ts.length - n) (cap - n)) [.slice (sufA A cap n 36) (ts.length - n) (cap - n)] none (by kernel_rfl) (by kernel_rfl) (by kernel_rfl) hg (by kernel_rfl) (by kernel_rfl) (by kernel_rfl) (Nat.le_of_ble_eq_true (by kernel_rfl)) (by simp [Value.oneCell']) ?_
    intro w15 hg_18 hk16 hz17
    replace hg_18 : Blk w15 g [.slice (sufA A cap n 36) (ts.length - n) (cap - n)] 57 := hg_18
    have hsz19 := Keep.size hk16
    replace hA := SlT.keep hA hk16 (fun k hk hs => by have hs : k = g := hs; subst hs; exact hgA hk)
    replace h9 := SlT.keep h9 hk16 (fun k hk hs => by have hs : k = g := hs; have h2 := hown9 _ hk; omega)
    replace hK0 := Keep.fresh hK0 hk16 (by intro i hi hs; first | exact hs | exact Or.inl hs | exact Or.inr hs | (exfalso; have hs2 : i = g := hs; omega)); have hzhK0 := Keep.size hK0
    refine OI_end rfl ?_
    refine X_then ?_
    refine V_seq ?_
    refine V_region ?_
    refine OI_static 2 [(6, .slice A9 ((ts.take n).length) cap9)] (by kernel_rfl) ?_
    refine OI_end rfl ?_
    refine X_then ?_
    refine V_ret ?_
    have he := dueN_at ts most n hn hmost hbef hend
    rw [← he]
    exact X_return _ rfl ⟨A9, cap9, rfl, h9, ⟨hs.drop n, by rw [List.length_drop]; omega, _, _, ⟨by rw [List.length_drop]; exact hg_18, SlT.from_ hA hn, fun h => hgA (inA_suf h)⟩, fun k hk => hDA k (inA_suf hk)⟩, hK0, hown9⟩

def del (nm : Int) : List Tk → List Tk
  | [] => []
  | x :: l => if named nm x then l else x :: del nm l
theorem idx_at (nm : Int) : ∀ (ts : List Tk) (k : Nat), (idxFrom (named nm) ts k = -1 ∧ ts.any (named nm) = false ∧ del nm ts = ts) ∨ ∃ i : Nat, idxFrom (named nm) ts k = ((k + i : Nat) : Int) ∧ i < ts.length ∧ ts.any (named nm) = true ∧ ts.take i ++ ts.drop (i + 1) = del nm ts
  | [], k => .inl ⟨rfl, rfl, rfl⟩
  | x :: l, k => by
    by_cases h : named nm x = true
    · right; exact ⟨0, by simp [idxFrom, h], by simp, by simp [h], by simp [del, h]⟩
    · rcases idx_at nm l (k + 1) with ⟨h1, h2, h3⟩ | ⟨i, h1, h2, h3, h4⟩
      · left; exact ⟨by simp [idxFrom, h, h1], by simp [h, h2], by simp [del, h, h3]⟩
      · right; exact ⟨i + 1, by simp only [idxFrom, h, h1, Bool.false_eq_true, if_false]; congr 1; omega, by simp; omega, by simp [h3], by simp [del, h, h4]⟩
theorem Srt.del {ts : List Tk} (h : Srt ts) (nm : Int) : Srt (del nm ts) := by
  rcases idx_at nm ts 0 with ⟨_, _, h3⟩ | ⟨i, _, _, _, h4⟩
  · rw [h3]; exact h
  · rw [← h4]
    refine List.Pairwise.sublist ?_ h
    conv => rhs; rw [← List.take_append_drop i ts]
    exact List.Sublist.append (List.Sublist.refl _) (List.drop_sublist_drop_left ts (Nat.le_succ i))

theorem cancel_spec (D : Nat → Prop) (g : Nat) (ts : List Tk) (nm : Int) (w : World) (h : Ag D w g ts) (hD : ∀ k, w.heap.size ≤ k → D k) : Calls Try.prog 18 #[.pointer (some ⟨g, 0, none⟩), .int .i64 nm] w fun e w' => e = .returned (.bool (ts.any (named nm))) ∧ Ag D w' g (del nm ts) ∧ Keep (only g) w w' := by
  obtain ⟨hs, hlen, A, cap, h, hDA⟩ := h
  have hgA := h.off
  have hg := h.blk
  have hA := h.sl
  have hglt := hg.lt
  have hltA := SlT.lt hA
  have hK0 : Keep (only g) w w := Keep.refl _ _
  have hzhK0 := Keep.size hK0
  refine enterV Try.func18 rfl [.pointer (some ⟨g, 0, none⟩), .int .i64 nm] 25 rfl rfl rfl ?_
  refine V_pick [(0, .pointer (some ⟨g, 0, none⟩)), (1, .int .i64 nm)] rfl ?_
  refine V_seq ?_
  refine V_region ?_
  refine OI_static 1 [(0, .pointer (some ⟨g, 0, none⟩)), (1, .int .i64 nm)] (by kernel_rfl) ?_
  refine OI_end rfl ?_
  refine X_then ?_
  refine V_seq ?_
  refine V_seq ?_
  refine V_region ?_
  refine OI_static 2 [(0, .pointer (some ⟨g, 0, none⟩)), (1, .int .i64 nm), (7, .bool false)] (by kernel_rfl) ?_
  refine OI_end rfl ?_
  refine X_then ?_
  refine V_false rfl ?_
  refine V_skip ?_
  refine X_then ?_
  refine V_seq ?_
  refine V_region ?_
  refine OI_static 2 [(0, .pointer (some ⟨g, 0, none⟩)), (8, .pointer (some ⟨g, 0, none⟩)), (9, .int .i64 nm)] (by kernel_rfl) ?_
  refine OI_call { callee := (Callee.value (Operand.func 23)), args := #[(Operand.tmp 8), (Operand.tmp 9)], argTypes := #[23, 3] } 23 #[.pointer (some ⟨g, 0, none⟩), .int .i64 nm] (some 10) (by kernel_rfl) (by kernel_rfl) (by kernel_rfl) (place_spec g cap A ts nm _ ⟨hg, hA, hgA⟩ (by omega)) ?_
  rintro _ w1 ⟨rfl, hk2⟩
  refine ⟨_, rfl, ?_⟩
  have hsz3 := Keep.size hk2
  replace hg := hg.keep hk2 (fun f => f)
  have hglt := hg.lt
  replace hA := SlT.keep0 hA hk2
  replace hK0 := Keep.tr hK0 (Keep.ofNone hk2); have hzhK0 := Keep.size hK0
  refine OI_static 4 [(0, .pointer (some ⟨g, 0, none⟩)), (5, .int .i64 (idxFrom (named nm) ts 0))] (by kernel_rfl) ?_
  refine OI_end rfl ?_
  refine X_then ?_
  refine V_seq ?_
  refine V_seq ?_
  refine V_region ?_
  refine OI_static 2 [(0, .pointer (some ⟨g, 0, none⟩)), (5, .int .i64 (idxFrom (named nm) ts 0)), (12, .bool (decide (idxFrom (named nm) ts 0 < 0)))] (by kernel_rfl) ?_
  refine OI_end rfl ?_
  refine X_then ?_
  refine V_if (idxFrom (named nm) ts 0 < 0) (by kernel_rfl) (fun hc4 => ?_) (fun hc4 => ?_)
  · skip
    rcases idx_at nm ts 0 with ⟨_, hany, hdel⟩ | ⟨i, hidx, _⟩
    rotate_left
    · exact (by rw [hidx] at hc4; omega : False).elim
    refine V_seq ?_
    refine V_region ?_
    refine OI_static 1 [(4, .bool false)] (by kernel_rfl) ?_
    refine OI_end rfl ?_
    refine X_then ?_
    refine V_ret ?_
    refine X_ret_then ?_
    rw [hany, hdel]
    exact X_return _ rfl ⟨rfl, ⟨hs, hlen, A, cap, ⟨hg, hA, hgA⟩, hDA⟩, hK0⟩
  · skip
    rcases idx_at nm ts 0 with ⟨hidx, _⟩ | ⟨i, hidx, hi, hany, hdel⟩
    · exact (by rw [hidx] at hc4; omega : False).elim
    rw [Nat.zero_add] at hidx
    refine V_eq [(0, .pointer (some ⟨g, 0, none⟩)), (5, .int .i64 ((i : Nat) : Int)), (12, .bool (decide (idxFrom (named nm) ts 0 < 0)))] (by rw [hidx]) ?_
    refine V_skip ?_
    refine X_then ?_
    refine V_seq ?_
    refine V_region ?_
    refine OI_static 4 [(5, .int .i64 ((i : Nat) : Int)), (13, .pointer (some ⟨g, 0, none⟩)), (16, .pointer (some ⟨g, 0, none⟩))] (by kernel_rfl) ?_
    refine OI_cell 31 (.tmp 16) 0 (.slice A ts.length cap) (some 17) (by kernel_rfl) (by kernel_rfl) hg (m := 1) (by kernel_rfl) rfl ?_
    refine OI_call { callee := (Callee.value (Operand.func 27)), args := #[(Operand.tmp 17)], argTypes := #[31] } 27 #[.slice A ts.length cap] (some 18) (by kernel_rfl) (by kernel_rfl) (by kernel_rfl) (cloneTk_spec A cap ts _ hA (by omega)) ?_
    rintro _ w5 ⟨A9, cap9, rfl, h9, hk6, hown9⟩
    refine ⟨_, rfl, ?_⟩
    have hsz7 := Keep.size hk6
    replace hg := hg.keep hk6 (fun f => f)
    have hglt := hg.lt
    replace hA := SlT.keep0 hA hk6
    replace hK0 := Keep.tr hK0 (Keep.ofNone hk6); have hzhK0 := Keep.size hK0
    have hw8 : IntKind.i64.wrap (((i : Nat) : Int) + 1) = ((i + 1 : Nat) : Int) := (wrap64_id (by omega) (by omega)).trans (by omega)
    refine OI_static 9 [(13, .pointer (some ⟨g, 0, none⟩)), (18, .slice A9 ts.length cap9), (19, .int .i64 ((i : Nat) : Int)), (21, .int .i64 (IntKind.i64.wrap (((i : Nat) : Int) + 1)))] (by kernel_rfl) ?_
    refine OI_eq [(13, .pointer (some ⟨g, 0, none⟩)), (18, .slice A9 ts.length cap9), (19, .int .i64 ((i : Nat) : Int)), (21, .int .i64 ((i + 1 : Nat) : Int))] (by rw [hw8]) ?_
    obtain ⟨b11, o11, L11, T11, rfl, hat11⟩ := SlT.open_ h9 (by first | omega | (simp only [List.length_map]; omega) | (simp; done) | (simp; omega))
    have hb11lt := hat11.blk.lt
    have hbge := hown9 b11 ⟨_, rfl, rfl⟩
    refine OI_call { callee := (Callee.value (Operand.func 28)), args := #[(Operand.tmp 18), (Operand.tmp 19), (Operand.tmp 21)], argTypes := #[31, 3, 3] } 28 #[.slice (some ⟨b11, o11, none⟩) ts.length cap9, .int .i64 ((i : Nat) : Int), .int .i64 ((i + 1 : Nat) : Int)] (some 22) (by kernel_rfl) (by kernel_rfl) (by kernel_rfl) (deleteTk_spec b11 o11 cap9 i _ _ ts _ hat11 hi (by omega)) ?_
    rintro _ w9 ⟨rfl, h12, hk10⟩
    refine ⟨_, rfl, ?_⟩
    have hsz12 := Keep.size hk10
    replace hg := hg.keep hk10 (by show ¬ (_ = _); omega)
    have hglt := hg.lt
    replace hA := SlT.keep hA hk10 (fun k hk hs => by have hs : k = b11 := hs; have h2 := hltA _ hk; omega)
    replace hK0 := Keep.fresh hK0 hk10 (by intro i hi hs; first | exact hs | exact Or.inl hs | exact Or.inr hs | (exfalso; have hs2 : i = b11 := hs; omega)); have hzhK0 := Keep.size hK0
    refine OI_static 12 [(22, .slice (some ⟨b11, o11, none⟩) (ts.length - 1) cap9), (24, .pointer (some ⟨g, 0, none⟩))] (by kernel_rfl) ?_
    refine OI_set (m := 1) (kd := false) 31 (.tmp 24) (.tmp 22) 0 (.slice (some ⟨b11, o11, none⟩) (ts.length - 1) cap9) [.slice (some ⟨b11, o11, none⟩) (ts.length - 1) cap9] none (by kernel_rfl) (by kernel_rfl) (by kernel_rfl) hg (by kernel_rfl) (by kernel_rfl) (by kernel_rfl) (Nat.le_of_ble_eq_true (by kernel_rfl)) (by simp [Value.oneCell']) ?_
    intro w13 hg_16 hk14 hz15
    replace hg_16 : Blk w13 g [.slice (some ⟨b11, o11, none⟩) (ts.length - 1) cap9] 57 := hg_16
    have hsz17 := Keep.size hk14
    replace hA := SlT.keep hA hk14 (fun k hk hs => by have hs : k = g := hs; subst hs; exact hgA hk)
    replace h12 := SlT.keep h12 hk14 (fun k hk hs => by have hs : k = g := hs; have h2 := inA_some hk; omega)
    replace hK0 := Keep.fresh hK0 hk14 (by intro i hi hs; first | exact hs | exact Or.inl hs | exact Or.inr hs | (exfalso; have hs2 : i = g := hs; omega)); have hzhK0 := Keep.size hK0
    refine OI_end rfl ?_
    refine X_then ?_
    refine V_seq ?_
    refine V_region ?_
    refine OI_static 1 [(4, .bool true)] (by kernel_rfl) ?_
    refine OI_end rfl ?_
    refine X_then ?_
    refine V_ret ?_
    have hl12 : (del nm ts).length = ts.length - 1 := by rw [← hdel]; simp; omega
    rw [hany]
    exact X_return _ rfl ⟨rfl, ⟨hs.del nm, by rw [hl12]; omega, _, cap9, ⟨by rw [hl12]; exact hg_16, by rw [← hdel]; exact h12, fun h => by have := inA_some h; omega⟩, fun k hk => hD k (by have := inA_some hk; omega)⟩, hK0⟩
end Go.Al


namespace Go.Al
open Go Go.RowKit Go.Proofs
theorem put_is (D : Nat → Prop) (g : Nat) (ts : List Tk) (t : Tk) (c : Int) (ts' : List Tk) (w : World) (h : Ag D w g ts) (hD : ∀ k, w.heap.size ≤ k → D k) (hp : putR t ts = (c, ts')) : Calls Try.prog 12 #[.pointer (some ⟨g, 0, none⟩), .agg t.cells.toArray] w fun e w' => e = .returned (.int .i64 c) ∧ Ag D w' g ts' ∧ Keep (only g) w w' := by
  have := put_spec D g ts t w h hD
  rw [hp] at this
  exact this
def tk0 (nm at_ : Int) : Tk := ⟨nm, at_, 0, [.int .u8 0, .int .u8 0, .int .u8 0, .int .u8 0, .int .u8 0, .int .u8 0, .int .u8 0, .int .u8 0, .int .u8 0, .int .u8 0, .int .u8 0, .int .u8 0, .int .u8 0, .int .u8 0, .int .u8 0, .int .u8 0, .int .u8 0, .int .u8 0, .int .u8 0, .int .u8 0, .int .u8 0, .int .u8 0, .int .u8 0, .int .u8 0, .int .u8 0, .int .u8 0, .int .u8 0, .int .u8 0, .int .u8 0, .int .u8 0, .int .u8 0, .int .u8 0, .int .i64 0], rfl, one_all' (by decide)⟩
abbrev any_ : Nat → Prop := fun _ => True

theorem due_is (D : Nat → Prop) (g : Nat) (ts : List Tk) (now most : Int) (n : Nat) (l ts' : List Tk) (w : World) (h : Ag D w g ts) (hp : dueN now most ts = n ∧ ts.take n = l ∧ ts.drop n = ts') : Calls Try.prog 13 #[.pointer (some ⟨g, 0, none⟩), .int .i64 now, .int .i64 most] w fun e w' => ∃ A' cap', e = .returned (.slice A' l.length cap') ∧ SlT w' 36 Tk.cells A' cap' l ∧ Ag D w' g ts' ∧ Keep (only g) w w' ∧ (∀ k, inA A' k → w.heap.size ≤ k) := by
  have := due_spec D g ts now most w h
  rw [hp.1, hp.2.1, hp.2.2] at this
  exact this

theorem known_spec (w : World) : Calls Try.prog 15 #[] w fun e w' => e = .returned (.bool true) ∧ Keep none_ w w' := by
  have hK0 : Keep none_ w w := Keep.refl _ _
  have hzhK0 := Keep.size hK0
  refine enterV Try.func15 rfl [] 35 rfl rfl rfl ?_
  refine V_pick [] rfl ?_
  refine V_seq ?_
  refine V_region ?_
  refine OI_static 1 [] (by kernel_rfl) ?_
  refine OI_end rfl ?_
  refine X_then ?_
  refine V_seq ?_
  refine V_region ?_
  refine OI_call { callee := (Callee.value (Operand.func 11)), args := #[], argTypes := #[] } 11 #[] (some 3) (by kernel_rfl) (by kernel_rfl) (by kernel_rfl) (new_spec any_ _) ?_
  rintro _ w1 ⟨g3, rfl, hag4, hk2, hgeg3⟩
  refine ⟨_, rfl, ?_⟩
  have hsz5 := Keep.size hk2
  replace hK0 := Keep.tr hK0 (Keep.ofNone hk2); have hzhK0 := Keep.size hK0
  have hltg3 := Ag.lt hag4
  refine OI_static 2 [(1, .pointer (some ⟨g3, 0, none⟩))] (by kernel_rfl) ?_
  refine OI_end rfl ?_
  refine X_then ?_
  refine V_seq ?_
  refine V_seq ?_
  refine V_region ?_
  refine OI_static 5 [(1, .pointer (some ⟨g3, 0, none⟩)), (6, .bool false), (7, .pointer (some ⟨g3, 0, none⟩)), (8, .agg (Tk.cells (tk0 1 5)).toArray)] (by kernel_rfl) ?_
  refine OI_call { callee := (Callee.value (Operand.func 12)), args := #[(Operand.tmp 7), (Operand.tmp 8)], argTypes := #[23, 28] } 12 #[.pointer (some ⟨g3, 0, none⟩), .agg (Tk.cells (tk0 1 5)).toArray] (some 9) (by kernel_rfl) (by kernel_rfl) (by kernel_rfl) (put_is any_ g3 [] (tk0 1 5) 0 [tk0 1 5] _ hag4 (fun _ _ => trivial) (by kernel_rfl)) ?_
  rintro _ w6 ⟨rfl, hag8, hk7⟩
  refine ⟨_, rfl, ?_⟩
  have hsz9 := Keep.size hk7
  replace hK0 := Keep.fresh hK0 hk7 (by intro i hi hs; first | exact hs | exact Or.inl hs | exact Or.inr hs | (exfalso; have hs2 : i = g3 := hs; omega)); have hzhK0 := Keep.size hK0
  skip
  have hltg3 := Ag.lt hag8
  refine OI_static 11 [(1, .pointer (some ⟨g3, 0, none⟩)), (12, .bool false), (13, .pointer (some ⟨g3, 0, none⟩)), (14, .agg (Tk.cells (tk0 2 3)).toArray)] (by kernel_rfl) ?_
  refine OI_call { callee := (Callee.value (Operand.func 12)), args := #[(Operand.tmp 13), (Operand.tmp 14)], argTypes := #[23, 28] } 12 #[.pointer (some ⟨g3, 0, none⟩), .agg (Tk.cells (tk0 2 3)).toArray] (some 15) (by kernel_rfl) (by kernel_rfl) (by kernel_rfl) (put_is any_ g3 [tk0 1 5] (tk0 2 3) 0 [tk0 2 3, tk0 1 5] _ hag8 (fun _ _ => trivial) (by kernel_rfl)) ?_
  rintro _ w10 ⟨rfl, hag12, hk11⟩
  refine ⟨_, rfl, ?_⟩
  have hsz13 := Keep.size hk11
  replace hK0 := Keep.fresh hK0 hk11 (by intro i hi hs; first | exact hs | exact Or.inl hs | exact Or.inr hs | (exfalso; have hs2 : i = g3 := hs; omega)); have hzhK0 := Keep.size hK0
  skip
  have hltg3 := Ag.lt hag12
  refine OI_static 14 [(1, .pointer (some ⟨g3, 0, none⟩)), (17, .bool false)] (by kernel_rfl) ?_
  refine OI_end rfl ?_
  refine X_then ?_
  refine V_false rfl ?_
  refine V_skip ?_
  refine X_then ?_
  refine V_seq ?_
  refine V_region ?_
  refine OI_static 1 [(1, .pointer (some ⟨g3, 0, none⟩)), (18, .pointer (some ⟨g3, 0, none⟩))] (by kernel_rfl) ?_
  refine OI_call { callee := (Callee.value (Operand.func 13)), args := #[(Operand.tmp 18), (Operand.const (Value.int IntKind.i64 9)), (Operand.const (Value.int IntKind.i64 1))], argTypes := #[23, 3, 3] } 13 #[.pointer (some ⟨g3, 0, none⟩), .int .i64 9, .int .i64 1] (some 19) (by kernel_rfl) (by kernel_rfl) (by kernel_rfl) (due_is any_ g3 [tk0 2 3, tk0 1 5] 9 1 1 [tk0 2 3] [tk0 1 5] _ hag12 ⟨by kernel_rfl, rfl, rfl⟩) ?_
  rintro _ w14 ⟨A9, cap9, rfl, h9, hag16, hk15, hown9⟩
  refine ⟨_, rfl, ?_⟩
  have hsz17 := Keep.size hk15
  replace hK0 := Keep.fresh hK0 hk15 (by intro i hi hs; first | exact hs | exact Or.inl hs | exact Or.inr hs | (exfalso; have hs2 : i = g3 := hs; omega)); have hzhK0 := Keep.size hK0
  skip
  have hltg3 := Ag.lt hag16
  refine OI_static 3 [(1, .pointer (some ⟨g3, 0, none⟩)), (2, .slice A9 1 cap9)] (by kernel_rfl) ?_
  refine OI_end rfl ?_
  refine X_then ?_
  refine V_seq ?_
  refine V_region ?_
  refine OI_static 5 [(1, .pointer (some ⟨g3, 0, none⟩)), (23, .bool true), (24, .slice A9 1 cap9)] (by kernel_rfl) ?_
  obtain ⟨b18, o18, L18, T18, rfl, hat18⟩ := SlT.open_ h9 (by first | omega | (simp only [List.length_map]; omega) | (simp; done) | (simp; omega))
  have hb18lt := hat18.blk.lt
  refine OI_pure (some 25) (.indexAddr 31 (.tmp 24) (.const (Value.int IntKind.i64 0))) (by kernel_rfl) (pure_idxN (b := b18) (o := o18) (len := 1) (cap := cap9) (kd := .i64) (j := 0) (E := 28) (sz := 36) (by_ := 64) (by kernel_rfl) (by kernel_rfl) (by kernel_rfl) (by omega)) ?_
  refine OI_static 7 [(1, .pointer (some ⟨g3, 0, none⟩)), (23, .bool true), (26, .pointer (some ⟨b18, o18 + 0 * 36, none⟩))] (by kernel_rfl) ?_
  refine OI_cell 3 (.tmp 26) (o18 + 0 * 36) (.int .i64 2) (some 27) (by kernel_rfl) (by kernel_rfl) hat18.blk (m := 1) (by kernel_rfl) (At.cell0 hat18 (es_at (rfl : ([tk0 2 3] : List Tk)[0]? = some (tk0 2 3))) rfl) ?_
  refine OI_static 12 [(30, .bool true), (31, .pointer (some ⟨g3, 0, none⟩))] (by kernel_rfl) ?_
  refine OI_call { callee := (Callee.value (Operand.func 14)), args := #[(Operand.tmp 31)], argTypes := #[23] } 14 #[.pointer (some ⟨g3, 0, none⟩)] (some 32) (by kernel_rfl) (by kernel_rfl) (by kernel_rfl) (len_spec any_ g3 [tk0 1 5] _ hag16) ?_
  rintro _ w14 ⟨rfl, rfl⟩
  refine ⟨_, rfl, ?_⟩
  refine OI_static 16 [(0, .bool true)] (by kernel_rfl) ?_
  refine OI_end rfl ?_
  refine X_then ?_
  refine V_ret ?_
  exact X_return (.bool true) rfl ⟨rfl, hK0⟩

end Go.Al


namespace Go.Al
open Go Go.RowKit Go.Proofs
/-! ### What did not fit is done first: the lists -/
def A1 (n : Nat) : List Tk := (List.range n).map fun j => tk0 ((10 + j : Nat) : Int) 1
end Go.Al


namespace Go.Al
open Go Go.RowKit Go.ChangeShapes Go.WideShapes

/-! ### Cells of a type without pointers -/
inductive CK where
  | int (k : IntKind)
  | bool
def CK.fits : CK → Value → Prop
  | .int k, v => ∃ n, v = .int k n ∧ (Lit.int k n).wf = true
  | .bool, v => ∃ b, v = .bool b
def Flat : List CK → List Value → Prop
  | [], [] => True
  | k :: ks, v :: vs => k.fits v ∧ Flat ks vs
  | _, _ => False
theorem Flat.append : ∀ {ks js : List CK} {vs us : List Value}, Flat ks vs → Flat js us → Flat (ks ++ js) (vs ++ us)
  | [], _, [], _, _, h => h
  | _ :: _, _, _ :: _, _, h, h' => ⟨h.1, h.2.append h'⟩
  | [], _, _ :: _, _, h, _ => h.elim
  | _ :: _, _, [], _, h, _ => h.elim
theorem Flat.length : ∀ {ks : List CK} {vs : List Value}, Flat ks vs → vs.length = ks.length
  | [], [], _ => rfl
  | _ :: _, _ :: _, h => by simp [h.2.length]
  | [], _ :: _, h => h.elim
  | _ :: _, [], h => h.elim
theorem Flat.one : ∀ {ks : List CK} {vs : List Value}, Flat ks vs → ∀ u ∈ vs, u.oneCell' = true
  | [], [], _, u, hu => by cases hu
  | k :: _, v :: _, h, u, hu => by
    rcases List.mem_cons.1 hu with rfl | hu
    · have h1 := h.1
      cases k with
      | int k => obtain ⟨n, rfl, _⟩ := h1; rfl
      | bool => obtain ⟨b, rfl⟩ := h1; rfl
    · exact h.2.one u hu
  | [], _ :: _, h, _, _ => h.elim
  | _ :: _, [], h, _, _ => h.elim

def flatFs (P : Program) (r : TypeId → Option (List CK)) : List Field → List CK → Option (List CK)
  | [], acc => some acc
  | f :: fs, acc => match r f.type with
    | some l => bif Nat.beq f.offset acc.length && Nat.beq (P.cellsOf f.type) l.length then flatFs P r fs (acc ++ l) else none
    | none => none
def flatK (P : Program) : Nat → TypeId → Option (List CK)
  | 0, _ => none
  | n + 1, t =>
    match P.underlying t with
    | some (.int k) => some [.int k]
    | some .bool => some [.bool]
    | some (.struct fs) => match flatFs P (flatK P n) fs.toList [] with
      | some l => bif Nat.beq (P.cellsOf t) l.length then some l else none
      | none => none
    | some (.array m e) => match flatK P n e with
      | some l => bif Nat.beq (P.cellsOf e) l.length && Nat.beq (P.cellsOf t) (m * l.length) then some (List.replicate m l).flatten else none
      | none => none
    | _ => none

section
variable {H : Type} {enc : TypeId × Value → H} {P : Program} {w : World} {base : Nat} {spare : Nat → Bool} {held : Bool}
theorem flatFs_ok {r : TypeId → Option (List CK)} {cs : List Value} (hr : ∀ t l vs, r t = some l → (∃ m x, DataW.trod enc P w base spare held m t vs = some x) → Flat l vs) :
    ∀ (fs : List Field) (acc l : List CK), flatFs P r fs acc = some l → (∀ f ∈ fs, ∃ m x, DataW.trod enc P w base spare held m f.type ((cs.drop f.offset).take (P.cellsOf f.type)) = some x) → Flat acc (cs.take acc.length) → Flat l (cs.take l.length)
  | [], acc, l, h, _, ha => by simp only [flatFs, Option.some.injEq] at h; subst h; exact ha
  | f :: fs, acc, l, h, hf, ha => by
    simp only [flatFs] at h
    cases hl : r f.type with
    | none => simp [hl] at h
    | some k =>
      simp only [hl] at h
      cases hc : (Nat.beq f.offset acc.length && Nat.beq (P.cellsOf f.type) k.length) with
      | false => simp [hc] at h
      | true =>
        simp only [hc, cond_true] at h
        simp only [Bool.and_eq_true, Nat.beq_eq] at hc
        have h1 := hr f.type k _ hl (hf f (List.mem_cons_self ..))
        rw [hc.1, hc.2] at h1
        refine flatFs_ok hr fs (acc ++ k) l h (fun g hg => hf g (List.mem_cons_of_mem _ hg)) ?_
        have h2 := ha.append h1
        rw [List.length_append]
        have e : cs.take (acc.length + k.length) = cs.take acc.length ++ (cs.drop acc.length).take k.length := List.take_add
        rw [e]; exact h2
theorem flatA_ok {l : List CK} : ∀ (m : Nat) (cs : List Value), cs.length = m * l.length → (∀ i, i < m → Flat l ((cs.drop (i * l.length)).take l.length)) → Flat (List.replicate m l).flatten cs
  | 0, cs, h, _ => by
    have : cs = [] := List.length_eq_zero_iff.1 (by simpa using h)
    subst this; exact trivial
  | m + 1, cs, h, hi => by
    rw [Nat.add_mul, Nat.one_mul] at h
    have h0 := hi 0 (Nat.succ_pos _)
    rw [Nat.zero_mul, List.drop_zero] at h0
    have hr := flatA_ok (l := l) m (cs.drop l.length) (by rw [List.length_drop]; omega) (fun i hlt => by
      have := hi (i + 1) (by omega)
      rw [List.drop_drop]
      rwa [Nat.add_mul, Nat.one_mul, Nat.add_comm] at this)
    rw [List.replicate_succ, List.flatten_cons, ← List.take_append_drop l.length cs]
    exact h0.append hr
theorem flat_trod : ∀ (n : Nat) (t : TypeId) (l : List CK) (cs : List Value), flatK P n t = some l → (∃ m x, DataW.trod enc P w base spare held m t cs = some x) → Flat l cs
  | 0, _, _, _, h, _ => by simp [flatK] at h
  | n + 1, t, l, cs, h, ⟨m, x, hx⟩ => by
    simp only [flatK] at h
    split at h
    · rename_i k hu
      simp only [Option.some.injEq] at h; subst h
      obtain ⟨z, rfl, _, hw⟩ := DataW.trod_int hu hx
      exact ⟨⟨z, rfl, hw⟩, trivial⟩
    · rename_i hu
      simp only [Option.some.injEq] at h; subst h
      cases m with
      | zero => simp [DataW.trod] at hx
      | succ m =>
        unfold DataW.trod at hx
        rw [hu] at hx
        split at hx <;> simp_all
        exact ⟨⟨_, rfl⟩, trivial⟩
    · rename_i fs hu
      cases hl : flatFs P (flatK P n) fs.toList [] with
      | none => simp [hl] at h
      | some k =>
        simp only [hl] at h
        cases hc : Nat.beq (P.cellsOf t) k.length with
        | false => simp [hc] at h
        | true =>
          simp only [hc, cond_true, Option.some.injEq] at h
          subst h
          obtain ⟨xs, m', rfl, _, hlen, hxl, hf⟩ := DataW.trod_struct hu hx
          rw [Nat.beq_eq] at hc
          have := flatFs_ok (enc := enc) (w := w) (base := base) (spare := spare) (held := held) (cs := cs) (fun t l vs hl hx => flat_trod n t l vs hl hx) fs.toList [] k hl (fun f hf' => by
            obtain ⟨i, hi⟩ := List.mem_iff_getElem?.1 hf'
            have hi2 : fs[i]? = some f := by simpa using hi
            have h3 := hf i f hi2
            have hlt : i < xs.length := by rw [hxl]; exact (Array.getElem?_eq_some_iff.1 hi2).1
            rw [List.getElem?_eq_getElem hlt] at h3
            exact ⟨m', _, h3⟩) trivial
          rwa [List.take_of_length_le (by omega)] at this
    · rename_i q e hu
      cases hl : flatK P n e with
      | none => simp [hl] at h
      | some k =>
        simp only [hl] at h
        cases hc : (Nat.beq (P.cellsOf e) k.length && Nat.beq (P.cellsOf t) (q * k.length)) with
        | false => simp [hc] at h
        | true =>
          simp only [hc, cond_true, Option.some.injEq] at h
          subst h
          simp only [Bool.and_eq_true, Nat.beq_eq] at hc
          obtain ⟨xs, m', rfl, _, hlen, hxl, hf⟩ := DataW.trod_array hu hx
          refine flatA_ok q cs (by omega) (fun i hi => ?_)
          have h3 := hf i hi
          rw [List.getElem?_eq_getElem (by omega), hc.1] at h3
          exact flat_trod n e k _ hl ⟨m', _, h3⟩
    · cases h

/-! ### Memory that is only read -/
def BlkR (w : World) (b : Nat) (l : List Value) : Prop := ∃ T f, w.heap[b]? = some (.cells l.toArray T f)
theorem Blk.r {w : World} {b : Nat} {l : List Value} {T : TypeId} (h : Blk w b l T) : BlkR w b l := ⟨T, _, h⟩
theorem BlkR.lt {w : World} {b : Nat} {l : List Value} (h : BlkR w b l) : b < w.heap.size := by obtain ⟨T, f, h⟩ := h; exact (Array.getElem?_eq_some_iff.1 h).1
theorem BlkR.keep {S : Nat → Prop} {w w' : World} {b : Nat} {l : List Value} (h : BlkR w b l) (k : Keep S w w') (hS : ¬ S b) : BlkR w' b l := by
  have hlt := h.lt
  obtain ⟨T, f, h⟩ := h
  exact ⟨T, f, (k.block b hlt hS).trans h⟩
theorem blkR_cell {w : World} {b : Nat} {l : List Value} (h : BlkR w b l) (o : Nat) : w.cell? ⟨b, o, none⟩ = l[o]? := by
  obtain ⟨T, f, h⟩ := h
  simp [World.cell?, h]
/-- A slice that is only read, opened. -/
structure AtR (w : World) (b o : Nat) (L : List Value) (sz cap : Nat) (es : List (List Value)) : Prop where
  blk : BlkR w b L
  elem' : ∀ (i : Nat) e, es[i]? = some e → (L.drop (o + i * sz)).take sz = e
  sizes : ∀ e ∈ es, e.length = sz
theorem AtR.keep {S : Nat → Prop} {w w' : World} {sz cap b o : Nat} {L : List Value} {es : List (List Value)} (h : AtR w b o L sz cap es) (hk : Keep S w w') (hS : ¬ S b) : AtR w' b o L sz cap es := ⟨h.blk.keep hk hS, h.elem', h.sizes⟩
theorem AtR.cell {w : World} {sz cap b o i f : Nat} {L e : List Value} {v : Value} {es : List (List Value)} (h : AtR w b o L sz cap es) (hi : es[i]? = some e) (hf : e[f]? = some v) : L[o + i * sz + f]? = some v := by
  have h1 := h.elem' i e hi
  have hl := h.sizes e (List.mem_of_getElem? hi)
  have hf' : f < sz := by rw [← hl]; exact (List.getElem?_eq_some_iff.1 hf).1
  rw [← h1, List.getElem?_take, if_pos hf', List.getElem?_drop] at hf
  exact hf
theorem AtR.cell0 {w : World} {sz cap b o i : Nat} {L e : List Value} {v : Value} {es : List (List Value)} (h : AtR w b o L sz cap es) (hi : es[i]? = some e) (hf : e[0]? = some v) : L[o + i * sz]? = some v := h.cell hi hf
theorem AtR.len {w : World} {sz cap b o i : Nat} {L e : List Value} {es : List (List Value)} (h : AtR w b o L sz cap es) (hi : es[i]? = some e) : e.length = sz := h.sizes e (List.mem_of_getElem? hi)
/-- An argument: a slice that is only read. -/
def ArgT {α : Type} (w : World) (sz : Nat) (f : α → List Value) (A : Option Addr) (cap : Nat) (xs : List α) : Prop := xs = [] ∨ ∃ b o L, A = some ⟨b, o, none⟩ ∧ AtR w b o L sz cap (xs.map f)
theorem ArgT.keep0 {α : Type} {w w' : World} {sz cap : Nat} {f : α → List Value} {A : Option Addr} {xs : List α} (h : ArgT w sz f A cap xs) (hk : Keep none_ w w') : ArgT w' sz f A cap xs := by
  rcases h with h | ⟨b, o, L, h1, h2⟩
  · exact .inl h
  · exact .inr ⟨b, o, L, h1, h2.keep hk (fun f => f)⟩
theorem ArgT.keep {α : Type} {S : Nat → Prop} {w0 w w' : World} {sz cap : Nat} {f : α → List Value} {A : Option Addr} {xs : List α} (h : ArgT w sz f A cap xs) (hk : Keep S w w') (hA : ArgT w0 sz f A cap xs) (hS : ∀ k, k < w0.heap.size → ¬ S k) : ArgT w' sz f A cap xs := by
  rcases h with h | ⟨b, o, L, h1, h2⟩
  · exact .inl h
  · rcases hA with h | ⟨b', o', L', h1', h2'⟩
    · exact .inl h
    · rw [h1] at h1'; cases h1'
      exact .inr ⟨b, o, L, h1, h2.keep hk (hS b h2'.blk.lt)⟩
theorem ArgT.open_ {α : Type} {w : World} {sz cap : Nat} {f : α → List Value} {A : Option Addr} {xs : List α} (h : ArgT w sz f A cap xs) (hi : 0 < xs.length) : ∃ b o L, A = some ⟨b, o, none⟩ ∧ AtR w b o L sz cap (xs.map f) := by
  rcases h with rfl | h
  · simp at hi
  · exact h

theorem ArgT.lt {α : Type} {w : World} {sz cap b o : Nat} {f : α → List Value} {xs : List α} (h : ArgT w sz f (some ⟨b, o, none⟩) cap xs) (hi : 0 < xs.length) : b < w.heap.size := by
  obtain ⟨b', o', L, h1, h2⟩ := h.open_ hi
  cases h1
  exact h2.blk.lt

/-- A slice argument whose elements have no pointers. -/
theorem read_slice {t e : TypeId} {ks : List CK} {n sz : Nat} {A : Option Addr} {len cap : Nat} {d : DataW H} {ps : List MemPlace} (ht : P.underlying t = some (.slice e)) (hk : flatK P n e = some ks) (hc : P.cellsOf e = ks.length) (hsz : ks.length = sz) (hk0 : 0 < ks.length)
    (h : DataW.Trod enc P w 0 (fun _ => true) true t (.slice A len cap) d ps) : ∃ xs : List (List Value), xs.length = len ∧ (∀ x ∈ xs, Flat ks x) ∧ ArgT w sz id A cap xs ∧ len ≤ cap ∧ cap ≤ maxLen := by
  subst hsz
  obtain ⟨fuel, hf⟩ := h
  rcases Deep.open_slice ht hf with ⟨hcs, _⟩ | ⟨a, len', cap', m, n', D, Pl, hcs, _, hl, hm, hmm, _, hx⟩
  · simp [Value.cells] at hcs
    obtain ⟨rfl, rfl, rfl⟩ := hcs
    exact ⟨[], rfl, fun x hx => (by cases hx), .inl rfl, Nat.le_refl _, Nat.zero_le _⟩
  · simp [Value.cells] at hcs
    obtain ⟨rfl, rfl, rfl⟩ := hcs
    simp only [if_true] at hmm
    subst hmm
    rcases Nat.eq_zero_or_pos len with h0 | h0
    · subst h0
      exact ⟨[], rfl, fun x hx => (by cases hx), .inl rfl, hl, hm⟩
    have hflat : ∀ i, i < len → ∃ cs, w.cells? 0 (a.add (i * ks.length)) ks.length = some cs ∧ Flat ks cs := by
      intro i hi
      obtain ⟨cs, h1, h2⟩ := hx i (by omega)
      rw [hc] at h1
      exact ⟨cs, h1, flat_trod n e ks cs hk ⟨_, _, h2⟩⟩
    obtain ⟨V, hV⟩ : ∃ V : Nat → List Value, ∀ i, i < len → w.cells? 0 (a.add (i * ks.length)) ks.length = some (V i) ∧ Flat ks (V i) :=
      ⟨fun i => if h : i < len then Classical.choose (hflat i h) else [], fun i hi => by simp only [hi, dif_pos]; exact Classical.choose_spec (hflat i hi)⟩
    refine ⟨(List.range len).map V, by simp, ?_, ?_, hl, hm⟩
    · intro x hx
      obtain ⟨i, hi, rfl⟩ := List.mem_map.1 hx
      exact (hV i (List.mem_range.1 hi)).2
    · right
      · skip
        obtain ⟨hc0, _⟩ := hV 0 h0
        obtain ⟨_, hl0, hcell⟩ := World.cells?_some hc0
        have h00 := hcell 0 hk0
        rw [Nat.zero_mul] at h00
        have hadd : (a.add 0).add 0 = a := by simp [Addr.add]
        rw [hadd] at h00
        have hsome : ∃ v, w.cell? a = some v := by rw [h00]; exact ⟨_, List.getElem?_eq_getElem (by omega)⟩
        obtain ⟨v, hv⟩ := hsome
        obtain ⟨b, o, sp⟩ := a
        unfold World.cell? at hv
        simp only at hv
        split at hv
        · rename_i c T f hb
          split at hv
          · cases hv
          · rename_i hsp
            obtain rfl : sp = none := by cases sp <;> simp_all
            refine ⟨b, o, c.toList, rfl, ⟨⟨T, f, by simpa using hb⟩, ?_, ?_⟩⟩
            · intro i e he
              simp only [List.map_id, List.getElem?_map] at he
              obtain ⟨j, hj, rfl⟩ := Option.map_eq_some_iff.1 he
              obtain ⟨hlt, rfl⟩ := List.getElem?_eq_some_iff.1 hj
              simp only [List.length_range] at hlt
              simp only [List.getElem_range]
              obtain ⟨_, hli, hci⟩ := World.cells?_some (hV i hlt).1
              apply List.ext_getElem?
              intro q
              rw [List.getElem?_take]
              split
              · rename_i hq
                have := hci q hq
                rw [add_plain, add_plain] at this
                rw [← this, List.getElem?_drop]
                simp [World.cell?, hb]
              · rename_i hq
                rw [List.getElem?_eq_none (by omega)]
            · intro e he
              simp only [List.map_id] at he
              obtain ⟨i, hi, rfl⟩ := List.mem_map.1 he
              exact (hV i (List.mem_range.1 hi)).2.length
        · cases hv
end

/-- Elements, told by what lays them in cells. -/
theorem lift_all {α : Type} {f : α → List Value} {ks : List CK} (hf : ∀ x, Flat ks x → ∃ y, f y = x) : ∀ xs : List (List Value), (∀ x ∈ xs, Flat ks x) → ∃ ys : List α, ys.map f = xs
  | [], _ => ⟨[], rfl⟩
  | x :: xs, h => by
    obtain ⟨y, hy⟩ := hf x (h x (List.mem_cons_self ..))
    obtain ⟨ys, hys⟩ := lift_all hf xs (fun z hz => h z (List.mem_cons_of_mem _ hz))
    exact ⟨y :: ys, by simp [hy, hys]⟩
theorem ArgT.conv {α : Type} {w : World} {sz cap : Nat} {f : α → List Value} {A : Option Addr} {ys : List α} (h : ArgT w sz id A cap (ys.map f)) : ArgT w sz f A cap ys := by
  rcases h with h | ⟨b, o, L, h1, h2⟩
  · exact .inl (by simpa using h)
  · exact .inr ⟨b, o, L, h1, by simpa using h2⟩
theorem read_elems {H : Type} {enc : TypeId × Value → H} {P : Program} {w : World} {α : Type} {f : α → List Value} {t e : TypeId} {ks : List CK} {n sz : Nat} {A : Option Addr} {len cap : Nat} {d : DataW H} {ps : List MemPlace} (hf : ∀ x, Flat ks x → ∃ y, f y = x) (ht : P.underlying t = some (.slice e)) (hk : flatK P n e = some ks) (hc : P.cellsOf e = ks.length) (hsz : ks.length = sz) (hk0 : 0 < ks.length)
    (h : DataW.Trod enc P w 0 (fun _ => true) true t (.slice A len cap) d ps) : ∃ xs : List α, xs.length = len ∧ ArgT w sz f A cap xs ∧ len ≤ cap ∧ cap ≤ maxLen := by
  obtain ⟨xs, h1, h2, h3, h4, h5⟩ := read_slice ht hk hc hsz hk0 h
  obtain ⟨ys, rfl⟩ := lift_all hf xs h2
  exact ⟨ys, by simpa using h1, h3.conv, h4, h5⟩
/-! ### Loads from memory that is only read -/
theorem loads_cellR {P : Program} {w : World} {t : TypeId} {b o n : Nat} {l : List Value} {v : Value} (h : BlkR w b l) (ht : tk P t = some (false, n)) (hv : l[o]? = some v) : Loads P w t ⟨b, o, none⟩ v := by
  unfold Loads Instr.loadAt Instr.sureAddr loadVar load
  have hc := blkR_cell h o
  rw [hv] at hc
  simp [Sem.run_bind, (tk_agg ht w).1, Result.andThen, Sem.run, hc]
theorem loads_aggR {P : Program} {w : World} {t : TypeId} {b o n : Nat} {l cs : List Value} (h : BlkR w b l) (ht : tk P t = some (true, n)) (hc : (l.drop o).take n = cs) (hn : cs.length = n) : Loads P w t ⟨b, o, none⟩ (.agg cs.toArray) := by
  subst hc
  have hl : (loadCells ⟨b, o, none⟩ ((l.drop o).take n).length).run P w = .ok ((l.drop o).take n).toArray w :=
    run_loadCells_list (P := P) w ⟨b, o, none⟩ _ (fun j v hv => by
      rw [add_plain, blkR_cell h]
      rw [List.getElem?_take] at hv
      split at hv
      · rw [List.getElem?_drop] at hv; exact hv
      · cases hv)
  rw [hn] at hl
  unfold Loads Instr.loadAt Instr.sureAddr loadVar
  simp [Sem.run_bind, (tk_agg ht w).1, (tk_agg ht w).2, Result.andThen, hl]
section
variable {P : Program} {r : Option Nat} {n : Nat} {ds : List Deferred} {ops : Array Oper} {Q : Post} {act : Nat → Bool} {S : Nat → Prop} {w1 : World} {i : Nat} {l : List Nat} {e : Env} {w : World}
theorem OI_cellR {b m : Nat} {L : List Value} (t : TypeId) (x : Operand) (o : Nat) (v : Value) (d : Option Tmp) (h : site ops e i = some (d, .load t x)) (hx : ev e x = .pointer (some ⟨b, o, none⟩)) (hb : BlkR w b L) (ht : tk P t = some (false, m)) (hv : L[o]? = some v)
    (k : OI P r n ds ops Q (i + 1) (putE n d v e) w) : OI P r n ds ops Q i e w := OI_load d h hx (loads_cellR hb ht hv) k
theorem GI_cellR {b m : Nat} {L : List Value} (t : TypeId) (x : Operand) (o : Nat) (v : Value) (d : Option Tmp) (h : site ops e i = some (d, .load t x)) (hact : act i = false) (hx : ev e x = .pointer (some ⟨b, o, none⟩)) (hb : BlkR w1 b L) (hS : ¬ S b) (ht : tk P t = some (false, m)) (hv : L[o]? = some v)
    (k : GI P r n ds ops Q act S w1 l (putE n d v e) w) : GI P r n ds ops Q act S w1 (i :: l) e w :=
  GI_quiet d _ h hact (fun o' _ ho w' hw' => by
    replace hw' : Keep S w1 w' := hw'.resolve_right (by unfold noLoad; rw [ho]; exact Bool.false_ne_true)
    have hl := loads_cellR (P := P) (hb.keep hw' hS) ht hv
    unfold Loads at hl
    unfold execOp
    simp only [ho, hx, Sem.run_bind, hl, Result.andThen, Sem.run_pure]) k
theorem GI_aggR {b m : Nat} {L : List Value} (t : TypeId) (x : Operand) (o : Nat) (cs : List Value) (d : Option Tmp) (h : site ops e i = some (d, .load t x)) (hact : act i = false) (hx : ev e x = .pointer (some ⟨b, o, none⟩)) (hb : BlkR w1 b L) (hS : ¬ S b) (ht : tk P t = some (true, m)) (hv : (L.drop o).take m = cs) (hm : cs.length = m)
    (k : GI P r n ds ops Q act S w1 l (putE n d (.agg cs.toArray) e) w) : GI P r n ds ops Q act S w1 (i :: l) e w :=
  GI_quiet d _ h hact (fun o' _ ho w' hw' => by
    replace hw' : Keep S w1 w' := hw'.resolve_right (by unfold noLoad; rw [ho]; exact Bool.false_ne_true)
    have hl := loads_aggR (P := P) (hb.keep hw' hS) ht hv hm
    unfold Loads at hl
    unfold execOp
    simp only [ho, hx, Sem.run_bind, hl, Result.andThen, Sem.run_pure]) k
end

/-! ### Bits -/
theorem over_whole {l cs : List Value} (h : l.length = cs.length) : over l 0 cs = cs := by
  unfold over
  rw [List.take_zero, List.nil_append, Nat.zero_add, ← h, List.drop_length, List.append_nil]
end Go.Al


namespace Go.Al
open Go Go.RowKit Go.Proofs
/-! ### What is due -/
end Go.Al


namespace Go.Al
open Go Go.RowKit Go.Proofs
/-! ### How many there may be -/
def ksT : List CK := [.int .i64, .int .i64, .int .i64, .int .u8, .int .u8, .int .u8, .int .u8, .int .u8, .int .u8, .int .u8, .int .u8, .int .u8, .int .u8, .int .u8, .int .u8, .int .u8, .int .u8, .int .u8, .int .u8, .int .u8, .int .u8, .int .u8, .int .u8, .int .u8, .int .u8, .int .u8, .int .u8, .int .u8, .int .u8, .int .u8, .int .u8, .int .u8, .int .u8, .int .u8, .int .u8, .int .i64]
theorem lift_tk (x : List Value) (h : Flat ksT x) : ∃ t : Tk, t.cells = x := by
  cases x with
  | nil => exact h.elim
  | cons a x =>
    cases x with
    | nil => exact h.2.elim
    | cons b x =>
      cases x with
      | nil => exact h.2.2.elim
      | cons c x =>
        obtain ⟨⟨n, rfl, _⟩, ⟨m, rfl, _⟩, ⟨q, rfl, _⟩, hr⟩ := h
        exact ⟨⟨n, m, q, x, hr.length, hr.one⟩, rfl⟩
end Go.Al


namespace Go.Al
open Go Go.RowKit

/-- Blocks of book-keeping: from N on, and no cells. -/
def lb (N : Nat) (W : World) : Nat → Prop := fun k => N ≤ k ∧ ∀ c t f, W.heap[k]? ≠ some (Obj.cells c t f)
/-- What abides whatever is turned in blocks of book-keeping, and whatever is laid anew. -/
def Quiet (N : Nat) (J : World → Prop) : Prop := ∀ W W', J W → Keep (lb N W) W W' → J W'
theorem lb_mono {N N' : Nat} {W : World} {k : Nat} (hN : N ≤ N') (h : lb N' W k) : lb N W k := ⟨Nat.le_trans hN h.1, h.2⟩
theorem Quiet.mono {N N' : Nat} {J : World → Prop} (h : Quiet N J) (hN : N ≤ N') : Quiet N' J := fun W W' hj hk => h W W' hj (hk.mono fun _ _ hs => lb_mono hN hs)
theorem lb_blk {N : Nat} {W : World} {b : Nat} {l : List Value} {T : TypeId} (h : Blk W b l T) : ¬ lb N W b := fun hs => hs.2 _ _ _ h
theorem lb_blkR {N : Nat} {W : World} {b : Nat} {l : List Value} (h : BlkR W b l) : ¬ lb N W b := fun hs => by obtain ⟨T, f, h⟩ := h; exact hs.2 _ _ _ h
theorem Blk.quiet {N : Nat} {W W' : World} {b : Nat} {l : List Value} {T : TypeId} (h : Blk W b l T) (k : Keep (lb N W) W W') : Blk W' b l T := h.keep k (lb_blk h)
theorem SlT.quiet {α : Type} {N : Nat} {W W' : World} {sz cap : Nat} {f : α → List Value} {A : Option Addr} {xs : List α} (h : SlT W sz f A cap xs) (k : Keep (lb N W) W W') : SlT W' sz f A cap xs := by
  rcases h with h | ⟨b, o, L, T, rfl, hb, h1, h2, h3, h4⟩
  · exact .inl h
  · exact .inr ⟨b, o, L, T, rfl, hb.quiet k, h1, h2, h3, h4⟩
theorem ArgT.quiet {α : Type} {N : Nat} {W W' : World} {sz cap : Nat} {f : α → List Value} {A : Option Addr} {xs : List α} (h : ArgT W sz f A cap xs) (k : Keep (lb N W) W W') : ArgT W' sz f A cap xs := by
  rcases h with h | ⟨b, o, L, h1, h2⟩
  · exact .inl h
  · exact .inr ⟨b, o, L, h1, h2.keep k (lb_blkR h2.blk)⟩
theorem Keep.quiet {S : Nat → Prop} {N : Nat} {w W W' : World} (h : Keep S w W) (k : Keep (lb N W) W W') (hN : w.heap.size ≤ N) : Keep S w W' := h.fresh k (fun i hi hs => absurd hs.1 (by omega))

/-! ### Yield -/
def Yields (P : Program) (l : Nat) (args : Array Value) (W : World) (R : Ending → World → Prop) : Prop :=
  ∃ f tmps assign body, (Instr.yield l args).run P W = .ok (.round l f tmps assign body) W ∧ RoundIn (FR none) 0 P l f tmps assign body W R
def yielder (e : Env) (c : Call) : Option (Nat × Array Value) :=
  match c.callee with
  | .value f => match ev e f with | .func (.yield l) first _ => some (l, first ++ c.args.map (ev e)) | _ => none
  | _ => none
/-- What an iterator does: it hands on m things, one behind the other, till it is told to stop. -/
def Iter (P : Program) (gf : FuncId) (caps : Array Value) (m : Nat) (enc : Nat → Array Value) (Pre Ok : World → Prop) : Prop :=
  ∀ (l : Nat) (J Jx : Nat → World → Prop) (W : World), Pre W → (∀ k, Quiet W.heap.size (J k)) → (∀ k, Quiet W.heap.size (Jx k)) →
    (∀ k W1, k < m → J k W1 → Yields P l (enc k) W1 fun e W' => (e = .returned (.bool true) ∧ J (k + 1) W') ∨ (e = .returned (.bool false) ∧ Jx (k + 1) W')) →
    (∀ k W1, J k W1 → Ok W1) → J 0 W →
    Calls P gf (#[.func (.yield l) #[] #[]] ++ caps) W fun e W' => (∃ v, e = .returned v) ∧ (J m W' ∨ ∃ k, k ≤ m ∧ Jx k W')

section
variable {P : Program} {r : Option Nat} {n : Nat} {ds : List Deferred} {ops : Array Oper} {Q : Post} {i : Nat} {e : Env} {w : World}
theorem yield_run {c : Call} {l : Nat} {args : Array Value} {x : Next} (h : yielder e c = some (l, args)) (hy : (Instr.yield l args).run P w = .ok x w) (o : Oper) (ho : o.op = .call c) : (execOp (ev e) o).run P w = .ok x w := by
  unfold yielder at h
  unfold execOp
  simp only [ho]
  unfold resolve
  split at h
  · rename_i g hg
    split at h
    · rename_i l' first cap hv
      simp only [Option.some.injEq, Prod.mk.injEq] at h
      obtain ⟨rfl, rfl⟩ := h
      simp only [hg, hv, Deferred.ofValue, Sem.run_bind, Sem.run_pure, Result.andThen, invoke]
      exact hy
    · cases h
  · cases h
theorem OI_yield {R : Ending → World → Prop} (c : Call) (l : Nat) (args : Array Value) (d : Option Tmp) (h : site ops e i = some (d, .call c)) (hc : yielder e c = some (l, args)) (hR : Yields P l args w R)
    (k : ∀ e' w', R e' w' → ∃ v, e' = .returned v ∧ OI P r n ds ops Q (i + 1) (putE n d v e) w') : OI P r n ds ops Q i e w :=
  OI_do h fun o _ ho hd a ha he => by
    obtain ⟨f, tmps, assign, body, hy, hrd⟩ := hR
    refine does_round (by rw [he]; exact yield_run hc hy o ho) (RoundIn.mono hrd fun e' w' hr => ?_)
    obtain ⟨v, hv, hk⟩ := k e' w' hr
    exact ⟨v, hv, by rw [hd]; exact hk _ (ha.put d v)⟩
end

/-! ### A loop over an iterator -/
def putPs (n : Nat) : List Tmp → List Value → Env → Env
  | p :: ps, v :: vs, e => putPs n ps vs (putE n (some p) v e)
  | _, _, e => e
theorem putPs_has {n : Nat} : ∀ (ps : List Tmp) (vs : List Value) (e : Env) (t : Array Value), Has n [] e { tmps := t, defers := [] } →
    Has n [] (putPs n ps vs e) { tmps := ((ps.zip vs).foldl (fun t (p, v) => t.setIfInBounds p v) t), defers := [] }
  | [], _, _, _, h => by simpa [putPs] using h
  | _ :: _, [], _, _, h => by simpa [putPs] using h
  | p :: ps, v :: vs, e, t, h => by
    simp only [putPs, List.zip_cons_cons, List.foldl_cons]
    exact putPs_has ps vs _ _ (h.put (some p) v)
/-- The blocks l and D lie as they lay. -/
def same2 (l D : Nat) (W W' : World) : Prop := W'.heap[l]? = W.heap[l]? ∧ W'.heap[D]? = W.heap[D]?
theorem Keep.same2 {S : Nat → Prop} {W W' : World} {l D : Nat} (h : Keep S W W') (hl : l < W.heap.size) (hD : D < W.heap.size) (h1 : ¬ S l) (h2 : ¬ S D) : same2 l D W W' := ⟨h.block l hl h1, h.block D hD h2⟩
/-- How a round's body may be left. -/
def rQ (l D : Nat) (J : Nat → World → Prop) (Jx : Code → Nat → World → Prop) (k : Nat) (W : World) : Post := fun x _ W' =>
  match x with
  | .normal => same2 l D W W' ∧ J (k + 1) W'
  | .ret => same2 l D W W' ∧ Jx .ret (k + 1) W'
  | .exit id => same2 l D W W' ∧ Jx (.exit id) (k + 1) W'
  | _ => False
/-- Between a round's assignments and its body. -/
def beginK (P : Program) (N l D : Nat) (body : Code) (J : Nat → World → Prop) (Jx : Code → Nat → World → Prop) (k : Nat) (W : World) (a1 : Act) (W1 : World) : Prop :=
  same2 l D W W1 ∧ ∀ W2, Keep (lb N W1) W1 W2 → (∃ r, W2.heap[l]? = some (.loop r)) → W2.heap[D]? = W1.heap[D]? → Al.W P (some l) body (rQ l D J Jx k W2) a1 W2
def noPost : Post := fun _ _ _ => False
def mark (D : Nat) : Deferred := { target := .collected D, args := #[] }

section
variable {P : Program} {n : Nat} {ds : List Deferred} {Q : Post} {e : Env} {w : World} {assign body : Code}
theorem X_begin {N l D k : Nat} {J : Nat → World → Prop} {Jx : Code → Nat → World → Prop} {W W1 : World} (hs : same2 l D W W1) (h : ∀ W2, Keep (lb N W1) W1 W2 → (∃ r, W2.heap[l]? = some (.loop r)) → W2.heap[D]? = W1.heap[D]? → V P (some l) n [] body (rQ l D J Jx k W2) e W2) :
    XV n [] .normal (Exit.then (beginK P N l D body J Jx k W) noPost) e W1 := fun a ha => ⟨hs, fun W2 h1 h2 h3 => h W2 h1 h2 h3 a ha⟩
theorem V_range {g : Operand} {ps : Array Tmp} {gf : FuncId} {caps : Array Value} {m : Nat} {enc : Nat → Array Value} {Pre Ok : World → Prop} (hg : ev e g = .func (.func gf) #[] caps) (hr : readable e g = true) (hb : bodied P gf = true) (hit : Iter P gf caps m enc Pre Ok) (hPre : Pre w) (hPq : Quiet w.heap.size Pre) (hps : ∀ k, (enc k).size = ps.size)
    (J : Nat → World → Prop) (Jx : Code → Nat → World → Prop) (hJ : ∀ k, Quiet w.heap.size (J k)) (hJx : ∀ c k, Quiet w.heap.size (Jx c k)) (h0 : J 0 w) (hOk : ∀ k W, J k W → Ok W)
    (round : ∀ (l D k : Nat) (W : World), D = w.heap.size → l = w.heap.size + 1 → l < W.heap.size → k < m → J k W → (∃ r, W.heap[l]? = some (.loop r)) → W.heap[D]? = some (.deferred (some [])) →
      V P (some l) n [] assign (Exit.then (beginK P w.heap.size l D body J Jx k W) noPost) (putPs n ps.toList (enc k).toList e) W)
    (done : ∀ (D : Nat) (W : World), D = w.heap.size → J m W → W.heap[D]? = some (.deferred (some [])) → XV n (mark D :: ds) .normal Q e W)
    (stop : ∀ (D k : Nat) (c : Code) (W : World), D = w.heap.size → k ≤ m → Jx c k W → W.heap[D]? = some (.deferred (some [])) → V P none n (mark D :: ds) c Q e W) :
    V P none n ds (.rangeFunc g ps assign body) Q e w := by
  intro a ha
  show (Code.rangeFunc g ps assign body).wpIn (FR none) 0 P Q a w
  refine wpIn_rangeFunc ?_
  intro fn hfn
  obtain ⟨rec, hrec⟩ : ∃ rec : LoopState → Option Code → Loop, rec = fun st pe => { state := st, pending := pe, fn := fn, tmps := a.tmps, params := ps, assign := assign, body := body, defers := w.heap.size } := ⟨_, rfl⟩
  obtain ⟨D, hD⟩ : ∃ D, D = w.heap.size := ⟨_, rfl⟩
  obtain ⟨l, hl⟩ : ∃ l, l = w.heap.size + 1 := ⟨_, rfl⟩
  obtain ⟨W0, hW0⟩ : ∃ W0, laid w (.deferred (some [])) = W0 := ⟨_, rfl⟩
  obtain ⟨W1, hW1⟩ : ∃ W1, laid W0 (.loop (rec .ready none)) = W1 := ⟨_, rfl⟩
  have hs0 : W0.heap.size = w.heap.size + 1 := by rw [← hW0]; exact laid_size _ _
  have hs1 : W1.heap.size = w.heap.size + 2 := by rw [← hW1, laid_size, hs0]
  have k0 : Keep none_ w W0 := by rw [← hW0]; exact laid_keep _ _ (by intro c t f h; cases h)
  have k1 : Keep none_ W0 W1 := by rw [← hW1]; exact laid_keep _ _ (by intro c t f h; cases h)
  have hD0 : W0.heap[D]? = some (.deferred (some [])) := by rw [← hW0, hD]; show (w.heap.push _)[w.heap.size]? = _; exact Array.getElem?_push_size
  have hD1 : W1.heap[D]? = some (.deferred (some [])) := (k1.block D (by omega) (fun f => f)).trans hD0
  have hL1 : W1.heap[l]? = some (.loop (rec .ready none)) := by rw [← hW1, hl, ← hs0]; show (W0.heap.push _)[W0.heap.size]? = _; exact Array.getElem?_push_size
  have hJ1 : J 0 W1 := hJ 0 w W1 h0 (k0.tr k1).ofNone
  -- a turn of the record
  have hput : ∀ (W : World) (o o' : Loop), W.heap[l]? = some (.loop o) → Keep (lb w.heap.size W) W (turned W l (.loop o')) ∧ (turned W l (.loop o')).heap[l]? = some (.loop o') ∧ (turned W l (.loop o')).heap[D]? = W.heap[D]? := by
    intro W o o' h
    have hlt : l < W.heap.size := (Array.getElem?_eq_some_iff.1 h).1
    refine ⟨(turned_keep (by intro c t f h; cases h)).mono (fun i _ hi => ?_), by simp [turned, hlt], by simp only [turned]; exact Array.getElem?_setIfInBounds_ne (by omega)⟩
    rw [show i = l from hi]
    exact ⟨by omega, fun c t f hh => by rw [h] at hh; cases hh⟩
  refine ⟨l, [mark D], W1, { target := .fn (.func gf) caps, args := #[.func (.yield l) #[] #[]] }, W1, gf, #[.func (.yield l) #[] #[]] ++ caps, W1, ?_, ?_, ?_, ?_, fun h => by simp [FR, Fence.wide] at h, ?_⟩
  · rw [hl, hD, ← hW1, ← hW0, hrec]
    exact run_enterLoop_outer _ _ _ _ _
  · have := ha.eval hr
    simp only [resolve, this, hg]
    simp [go_sem]
  · intro f' _; trivial
  · have := callFunc_run hb (#[.func (.yield l) #[] #[]] ++ caps) W1
    simp only [invoke]
    exact this
  refine calls_to_FR (Calls.mono (hit l (fun k W => J k W ∧ W.heap[l]? = some (.loop (rec .ready none)) ∧ W.heap[D]? = some (.deferred (some [])))
    (fun k W => ∃ c, Jx c k W ∧ W.heap[l]? = some (.loop (rec .done (some c))) ∧ W.heap[D]? = some (.deferred (some []))) W1 (hPq w W1 hPre (k0.tr k1).ofNone) ?_ ?_ ?_ (fun k W h => hOk k W h.1) ⟨hJ1, hL1, hD1⟩) ?_)
  · rintro k W W' ⟨h1, h2, h3⟩ hk
    have e1 : l < W.heap.size := (Array.getElem?_eq_some_iff.1 h2).1
    have e2 : D < W.heap.size := (Array.getElem?_eq_some_iff.1 h3).1
    exact ⟨(hJ k).mono (by omega) W W' h1 hk, (hk.block l e1 (fun h => by have := h.1; omega)).trans h2, (hk.block D e2 (fun h => by have := h.1; omega)).trans h3⟩
  · rintro k W W' ⟨c, h1, h2, h3⟩ hk
    have e1 : l < W.heap.size := (Array.getElem?_eq_some_iff.1 h2).1
    have e2 : D < W.heap.size := (Array.getElem?_eq_some_iff.1 h3).1
    exact ⟨c, (hJx c k).mono (by omega) W W' h1 hk, (hk.block l e1 (fun h => by have := h.1; omega)).trans h2, (hk.block D e2 (fun h => by have := h.1; omega)).trans h3⟩
  · -- one round
    rintro k W hkm ⟨hj, hlW, hDW⟩
    have hy := run_yield (P := P) (args := enc k) hlW (by rw [hrec]; exact hps k)
    rw [hrec] at hy
    refine ⟨fn, _, assign, body, hy, roundIn_of_wpIn hfn ?_⟩
    have hV := round l D k W hD hl (Array.getElem?_eq_some_iff.1 hlW).1 hkm hj ⟨_, hlW⟩ hDW
    have hHas : Has n [] e { tmps := a.tmps, defers := [] } := ⟨ha.size, rfl, ha.at_⟩
    have hact := putPs_has ps.toList (enc k).toList e a.tmps hHas
    have hfold : ((ps.zip (enc k)).foldl (fun t (x : Tmp × Value) => t.setIfInBounds x.1 x.2) a.tmps) = ((ps.toList.zip (enc k).toList).foldl (fun t (x : Tmp × Value) => t.setIfInBounds x.1 x.2) a.tmps) := by
      rw [← Array.foldl_toList, Array.toList_zip]
    have hW := hV _ hact
    show Al.W P (some l) assign _ { tmps := ((ps.zip (enc k)).foldl (fun t (x : Tmp × Value) => t.setIfInBounds x.1 x.2) a.tmps), defers := [] } W
    rw [hfold]
    refine W_mono hW ?_
    intro x a1 W2 hx
    cases x <;> try exact hx.elim
    obtain ⟨⟨hl2, hD2⟩, hbody⟩ := hx
    have hlW2 : W2.heap[l]? = some (.loop (rec .ready none)) := hl2.trans hlW
    obtain ⟨p1, p2, p3⟩ := hput W2 _ { rec .ready none with state := .busy } hlW2
    refine ⟨_, run_beginRound hlW2 (by rw [hrec]), ?_⟩
    refine W_mono (hbody _ p1 ⟨_, p2⟩ p3) ?_
    intro x a3 W3 hx
    have hDW3 : same2 l D (turned W2 l (.loop { rec .ready none with state := .busy })) W3 → W3.heap[l]? = some (.loop { rec .ready none with state := .busy }) ∧ W3.heap[D]? = some (.deferred (some [])) :=
      fun h => ⟨h.1.trans p2, h.2.trans (p3.trans (hD2.trans hDW))⟩
    cases x with
    | normal =>
      obtain ⟨hs, hj3⟩ := hx
      obtain ⟨q1, q2⟩ := hDW3 hs
      obtain ⟨t1, t2, t3⟩ := hput W3 _ (rec .ready none) q1
      have hend := run_endRound (P := P) none q1
      rw [hrec] at hend t1 t2 t3
      exact ⟨_, _, hend, .inl ⟨rfl, hJ _ _ _ hj3 t1, by rw [hrec]; exact t2, t3.trans q2⟩⟩
    | ret =>
      obtain ⟨hs, hj3⟩ := hx
      obtain ⟨q1, q2⟩ := hDW3 hs
      obtain ⟨t1, t2, t3⟩ := hput W3 _ (rec .done (some .ret)) q1
      have hend := run_endRound (P := P) (some .ret) q1
      rw [hrec] at hend t1 t2 t3
      exact ⟨_, _, hend, .inr ⟨rfl, .ret, hJx _ _ _ _ hj3 t1, by rw [hrec]; exact t2, t3.trans q2⟩⟩
    | exit id =>
      obtain ⟨hs, hj3⟩ := hx
      obtain ⟨q1, q2⟩ := hDW3 hs
      obtain ⟨t1, t2, t3⟩ := hput W3 _ (rec .done (some (.exit id))) q1
      have hend := run_endRound (P := P) (some (.exit id)) q1
      rw [hrec] at hend t1 t2 t3
      exact ⟨_, _, hend, .inr ⟨rfl, .exit id, hJx _ _ _ _ hj3 t1, by rw [hrec]; exact t2, t3.trans q2⟩⟩
    | goto t => exact hx.elim
    | panic c => exact hx.elim
    | outgrown => exact hx.elim
  · -- behind the iterator
    rintro e' W2 ⟨⟨v, rfl⟩, (⟨hj, hlW, hDW⟩ | ⟨k, hkm, c, hj, hlW, hDW⟩)⟩
    · obtain ⟨t1, t2, t3⟩ := hput W2 _ (rec .exhausted none) hlW
      have hend := run_endLoop (P := P) hlW (by rw [hrec]; simp)
      rw [hrec] at hend t1 t2 t3
      exact ⟨none, _, hend, done D _ hD (hJ _ _ _ hj t1) (t3.trans hDW) _ ⟨ha.size, by simp [ha.defers], ha.at_⟩⟩
    · obtain ⟨t1, t2, t3⟩ := hput W2 _ (rec .exhausted (some c)) hlW
      have hend := run_endLoop (P := P) hlW (by rw [hrec]; simp)
      rw [hrec] at hend t1 t2 t3
      exact ⟨some c, _, hend, stop D k c _ hD hkm (hJx _ _ _ _ hj t1) (t3.trans hDW) _ ⟨ha.size, by simp [ha.defers], ha.at_⟩⟩
end

/-! ### A function that holds such a loop -/
def postM (P : Program) (fn : Func) (R : Ending → World → Prop) : Post := fun x a w =>
  match x with
  | .normal => LeavesInM (FR none) 0 P fn a.tmps R a.defers .returning w
  | .ret => LeavesInM (FR none) 0 P fn a.tmps R a.defers .returning w
  | _ => False
section
variable {P : Program} {fn : Func} {R : Ending → World → Prop} {n : Nat} {e : Env} {w : World}
theorem enterM {f : FuncId} {c : Code} {args : Array Value} (hf : P.funcs[f]? = some fn) (hb : fn.body = some c) (l : List Value) (n : Nat)
    (hl : args = l.toArray) (hn : fn.ntmps = n) (hle : Nat.ble l.length n = true) (h : V P none n [] c (postM P fn R) (zipE 0 l) w) : Calls P f args w R := by
  subst hl
  replace hle := Nat.le_of_ble_eq_true hle
  refine calls_of_FR (r := none) (n := 0) (callsIn_of_wp_marks hf hb trivial (W_mono (h _ ⟨?_, rfl, ?_⟩) (fun x a w hx => by cases x <;> first | exact hx | exact hx.elim)))
  · simp; omega
  · intro i v hi
    obtain ⟨_, h2⟩ := look_zipE l 0 i v hi
    rw [Nat.sub_zero] at h2
    have hlt := (List.getElem?_eq_some_iff.1 h2).1
    simp only [Array.getElem?_append, List.size_toArray, hlt, if_true]
    simpa using h2
/-- What a function hands back, its results in cells or in temporaries. -/
def Res (P : Program) (fn : Func) (n : Nat) (e : Env) (w : World) (v : Value) : Prop := ∀ tmps : Array Value, tmps.size = n → (∀ i u, look e i = some u → tmps[i]? = some u) → (results fn tmps).run P w = .ok v w
theorem leave1 {x : Exit} {D : Nat} (v : Value) (hx : x = .ret ∨ x = .normal) (hD : w.heap[D]? = some (.deferred (some []))) (h : ∀ w', Keep (lb D w) w w' → Res P fn n e w' v ∧ R (.returned v) w') : XV n [mark D] x (postM P fn R) e w := fun a ha => by
  have hlt : D < w.heap.size := (Array.getElem?_eq_some_iff.1 hD).1
  have hk : Keep (lb D w) w (turned w D (.deferred none)) := (turned_keep (by intro c t f h; cases h)).mono (fun i _ hi => by
    rw [show i = D from hi]
    exact ⟨Nat.le_refl _, fun c t f hh => by rw [hD] at hh; cases hh⟩)
  obtain ⟨h1, hR⟩ := h _ hk
  have h2 := h1 a.tmps ha.size ha.at_
  have key : LeavesInM (FR none) 0 P fn a.tmps R a.defers .returning w := by
    rw [ha.defers]
    exact ⟨by simp, .inl ⟨D, _, rfl, run_takeDeferred hD, v, h2, hR⟩⟩
  rcases hx with rfl | rfl
  · exact key
  · exact key
theorem res_cells2 {t T u U n1 n2 : Nat} {b1 b2 : Nat} {v1 v2 : Value} {T1 T2 : TypeId} (hl : fn.results.toList = [.cell t T, .cell u U]) (h1 : look e t = some (.pointer (some ⟨b1, 0, none⟩))) (h2 : look e u = some (.pointer (some ⟨b2, 0, none⟩)))
    (k1 : tk P T = some (false, n1)) (k2 : tk P U = some (false, n2)) (hb1 : Blk w b1 [v1] T1) (hb2 : Blk w b2 [v2] T2) : Res P fn n e w (.tuple #[v1, v2]) := fun tmps hs ht => by
  have hr := results_of_list hl
  have g1 := ht _ _ h1
  have g2 := ht _ _ h2
  have l1 := loads_cell (P := P) (o := 0) hb1 k1 rfl
  have l2 := loads_cell (P := P) (o := 0) hb2 k2 rfl
  unfold Loads Instr.loadAt Instr.sureAddr at l1 l2
  unfold results
  simp [hr, Array.mapM_eq_foldlM, Sem.run_bind, g1, g2, asAddr, Result.andThen] at l1 l2 ⊢
  simp [l1, l2]
end

/-! ### What changes cells alone -/
def cl (W : World) : Nat → Prop := fun k => ∃ c t f, W.heap[k]? = some (Obj.cells c t f)
theorem cl_back {W W1 : World} {i : Nat} (h : Keep (cl W) W W1) (hi : i < W.heap.size) (hc : cl W1 i) : cl W i := by
  by_cases hn : cl W i
  · exact hn
  · have e := h.block i hi hn
    obtain ⟨c, t, f, hc⟩ := hc
    exact ⟨c, t, f, e.symm.trans hc⟩
theorem Keep.cl_one {W W1 W2 : World} {b : Nat} {l : List Value} {T : TypeId} (h : Keep (cl W) W W1) (k : Keep (only b) W1 W2) (hb : Blk W1 b l T) : Keep (cl W) W W2 :=
  h.fresh k (fun i hi hs => cl_back h hi (by rw [show i = b from hs]; exact ⟨_, _, _, hb⟩))
theorem Keep.cl_slt {α : Type} {W W1 W2 : World} {sz cap : Nat} {f : α → List Value} {A : Option Addr} {xs : List α} (h : Keep (cl W) W W1) (k : Keep (inA A) W1 W2) (hA : SlT W1 sz f A cap xs) : Keep (cl W) W W2 :=
  h.fresh k (fun i hi hs => cl_back h hi (by
    rcases hA with ⟨rfl, _, _⟩ | ⟨b, o, L, T, rfl, hb, _⟩
    · exact (inA_none hs).elim
    · rw [inA_some hs]; exact ⟨_, _, _, hb⟩))
theorem Keep.cl_same {W W1 : World} {l D : Nat} {r : Loop} {d : Option (List Deferred)} (h : Keep (cl W) W W1) (hl : W.heap[l]? = some (.loop r)) (hD : W.heap[D]? = some (.deferred d)) : Al.same2 l D W W1 :=
  h.same2 (Array.getElem?_eq_some_iff.1 hl).1 (Array.getElem?_eq_some_iff.1 hD).1 (fun ⟨c, t, f, hc⟩ => by rw [hl] at hc; cases hc) (fun ⟨c, t, f, hc⟩ => by rw [hD] at hc; cases hc)
end Go.Al


namespace Go.Al
open Go Go.RowKit Go.Proofs
/-! ### All tasks, one behind the other -/
def encT (ts : List Tk) (k : Nat) : Array Value := #[match ts[k]? with | some t => .agg t.cells.toArray | none => undef]
theorem encT_at {ts : List Tk} {k : Nat} {t : Tk} (h : ts[k]? = some t) : encT ts k = #[.agg t.cells.toArray] := by unfold encT; rw [h]

theorem all1_iter (c g cap : Nat) (A : Option Addr) (ts : List Tk) (hn : ts.length ≤ 1000000) : Iter Try.prog 30 #[.pointer (some ⟨c, 0, none⟩)] ts.length (encT ts) (fun W => Blk W c [.pointer (some ⟨g, 0, none⟩)] 23 ∧ AgAt W g A cap ts) (fun W => SlT W 36 Tk.cells A cap ts) := by
  intro l J Jx w hPre hJ hJx hY hOk h0
  obtain ⟨hc, h⟩ := hPre
  have hg := h.blk
  have hA := h.sl
  have hglt := hg.lt
  have hclt := hc.lt
  show Calls Try.prog 30 #[.func (.yield l) #[] #[], .pointer (some ⟨c, 0, none⟩)] w _
  have hK0 : Keep none_ w w := Keep.refl _ _
  have hzhK0 := Keep.size hK0
  refine enterV Try.func30 rfl [.func (.yield l) #[] #[], .pointer (some ⟨c, 0, none⟩)] 21 rfl rfl rfl ?_
  refine V_pick [(0, .func (.yield l) #[] #[]), (1, .pointer (some ⟨c, 0, none⟩))] rfl ?_
  refine V_seq ?_
  refine V_seq ?_
  refine V_region ?_
  refine OI_cell 23 (.tmp 1) 0 (.pointer (some ⟨g, 0, none⟩)) (some 5) (by kernel_rfl) (by kernel_rfl) hc (m := 1) (by kernel_rfl) rfl ?_
  refine OI_static 2 [(0, .func (.yield l) #[] #[]), (1, .pointer (some ⟨c, 0, none⟩)), (6, .bool false)] (by kernel_rfl) ?_
  refine OI_end rfl ?_
  refine X_then ?_
  refine V_false rfl ?_
  refine V_skip ?_
  refine X_then ?_
  refine V_seq ?_
  refine V_region ?_
  refine OI_cell 23 (.tmp 1) 0 (.pointer (some ⟨g, 0, none⟩)) (some 7) (by kernel_rfl) (by kernel_rfl) hc (m := 1) (by kernel_rfl) rfl ?_
  refine OI_static 3 [(0, .func (.yield l) #[] #[]), (9, .pointer (some ⟨g, 0, none⟩))] (by kernel_rfl) ?_
  refine OI_cell 31 (.tmp 9) 0 (.slice A ts.length cap) (some 10) (by kernel_rfl) (by kernel_rfl) hg (m := 1) (by kernel_rfl) rfl ?_
  refine OI_static 6 [(0, .func (.yield l) #[] #[]), (10, .slice A ts.length cap), (11, .int .i64 ((ts.length : Nat) : Int)), (12, .int .i64 0)] (by kernel_rfl) ?_
  refine OI_end rfl ?_
  refine X_then ?_
  refine V_block ?_
  have hj0 := hJ 0 _ _ h0 (Keep.ofNone hK0)
  refine V_pick [(0, .func (.yield l) #[] #[]), (10, .slice A ts.length cap), (11, .int .i64 ((ts.length : Nat) : Int)), (12, .int .i64 0)] rfl ?_
  refine V_loop (fun k wI e => ∃ i : Nat, (k + i = ts.length) ∧ (J i wI) ∧ e = [(0, .func (.yield l) #[] #[]), (10, .slice A ts.length cap), (11, .int .i64 ((ts.length : Nat) : Int)), (12, .int .i64 ((i : Nat) : Int))]) ts.length ⟨0, rfl, hj0, rfl⟩ ?_
  rintro k2 w1 _ ⟨i, hki, hj, rfl⟩
  have hA := hOk _ _ hj
  have hkh : Keep none_ w1 w1 := Keep.refl _ _
  have hzhkh := Keep.size hkh
  refine V_seq ?_
  refine V_region ?_
  refine OI_static 1 [(0, .func (.yield l) #[] #[]), (10, .slice A ts.length cap), (11, .int .i64 ((ts.length : Nat) : Int)), (12, .int .i64 ((i : Nat) : Int)), (13, .bool (decide (((i : Nat) : Int) < ((ts.length : Nat) : Int))))] (by kernel_rfl) ?_
  refine OI_end rfl ?_
  refine X_then ?_
  refine V_seq ?_
  refine V_if (((i : Nat) : Int) < ((ts.length : Nat) : Int)) (by kernel_rfl) (fun hc4 => ?_) (fun hc4 => ?_)
  · skip
    refine V_skip ?_
    refine X_then ?_
    refine V_seq ?_
    refine V_block ?_
    refine V_seq ?_
    refine V_region ?_
    obtain ⟨b5, o5, L5, T5, rfl, hat5⟩ := SlT.open_ hA (by first | omega | (simp only [List.length_map]; omega) | (simp; done) | (simp; omega))
    have hb5lt := hat5.blk.lt
    refine OI_pure (some 14) (.indexAddr 31 (.tmp 10) (.tmp 12)) (by kernel_rfl) (pure_idxN (b := b5) (o := o5) (len := ts.length) (cap := cap) (kd := .i64) (j := i) (E := 28) (sz := 36) (by_ := 64) (by kernel_rfl) (by kernel_rfl) (by kernel_rfl) (by omega)) ?_
    obtain ⟨x6, hx7⟩ : ∃ x, ts[i]? = some x := ⟨_, List.getElem?_eq_getElem (by first | omega | (simp only [List.length_map]; omega))⟩
    refine OI_agg 28 (.tmp 14) (o5 + i * 36) (Tk.cells x6) (some 15) (by kernel_rfl) (by kernel_rfl) hat5.blk (m := 36) (by kernel_rfl) (At.elem' hat5 (es_at hx7)) (At.len hat5 (es_at hx7)) ?_
    refine OI_alloc 28 (.agg #[.int .i64 0, .int .i64 0, .int .i64 0, .int .u8 0, .int .u8 0, .int .u8 0, .int .u8 0, .int .u8 0, .int .u8 0, .int .u8 0, .int .u8 0, .int .u8 0, .int .u8 0, .int .u8 0, .int .u8 0, .int .u8 0, .int .u8 0, .int .u8 0, .int .u8 0, .int .u8 0, .int .u8 0, .int .u8 0, .int .u8 0, .int .u8 0, .int .u8 0, .int .u8 0, .int .u8 0, .int .u8 0, .int .u8 0, .int .u8 0, .int .u8 0, .int .u8 0, .int .u8 0, .int .u8 0, .int .u8 0, .int .i64 0]) [.int .i64 0, .int .i64 0, .int .i64 0, .int .u8 0, .int .u8 0, .int .u8 0, .int .u8 0, .int .u8 0, .int .u8 0, .int .u8 0, .int .u8 0, .int .u8 0, .int .u8 0, .int .u8 0, .int .u8 0, .int .u8 0, .int .u8 0, .int .u8 0, .int .u8 0, .int .u8 0, .int .u8 0, .int .u8 0, .int .u8 0, .int .u8 0, .int .u8 0, .int .u8 0, .int .u8 0, .int .u8 0, .int .u8 0, .int .u8 0, .int .u8 0, .int .u8 0, .int .u8 0, .int .u8 0, .int .u8 0, .int .i64 0] (some 4) (by kernel_rfl) (by kernel_rfl) (by kernel_rfl) ?_
    intro b8 w8 e8 hb8 k8 z8
    have hsz9 := Keep.size k8
    replace hat5 := hat5.keep k8 (fun f => f)
    have hb5lt := hat5.blk.lt
    replace hkh := Keep.tr hkh (Keep.ofNone k8); have hzhkh := Keep.size hkh
    have hb8lt := hb8.lt
    refine OI_set (m := 36) (kd := true) 28 (.tmp 4) (.tmp 15) 0 (.agg (Tk.cells x6).toArray) (Tk.cells x6) none (by kernel_rfl) (by kernel_rfl) (by kernel_rfl) hb8 (by kernel_rfl) rfl (Tk.len _) (Nat.le_of_ble_eq_true (by kernel_rfl)) (Tk.one _) ?_
    intro w10 hb8_13 hk11 hz12
    replace hb8_13 : Blk w10 b8 (Tk.cells x6) 28 := (by rwa [over_whole (by rw [Tk.len]; rfl)] at hb8_13)
    have hsz14 := Keep.size hk11
    replace hat5 := hat5.keep hk11 (by show ¬ (_ = _); omega)
    have hb5lt := hat5.blk.lt
    replace hkh := Keep.fresh hkh hk11 (by intro i hi hs; first | exact hs | exact Or.inl hs | exact Or.inr hs | (exfalso; have hs2 : i = b8 := hs; omega)); have hzhkh := Keep.size hkh
    refine OI_end rfl ?_
    refine X_then ?_
    refine V_seq ?_
    refine V_region ?_
    refine OI_static 1 [(0, .func (.yield l) #[] #[]), (4, .pointer (some ⟨b8, 0, none⟩)), (10, .slice (some ⟨b5, o5, none⟩) ts.length cap), (11, .int .i64 ((ts.length : Nat) : Int)), (12, .int .i64 ((i : Nat) : Int)), (16, .func (.yield l) #[] #[])] (by kernel_rfl) ?_
    refine OI_agg 28 (.tmp 4) 0 (Tk.cells x6) (some 17) (by kernel_rfl) (by kernel_rfl) hb8_13 (m := 36) (by kernel_rfl) (take_all (Tk.len _)) (Tk.len _) ?_
    refine OI_yield { callee := (Callee.value (Operand.tmp 16)), args := #[(Operand.tmp 17)], argTypes := #[28] } l #[.agg (Tk.cells x6).toArray] (some 18) (by kernel_rfl) (by kernel_rfl) (by have hy := hY i _ (by omega) (hJ i _ _ hj (Keep.ofNone hkh)); rw [encT_at hx7] at hy; exact hy) ?_
    rintro _ w15 (⟨rfl, hj16⟩ | ⟨rfl, hj16⟩)
    · skip
      refine ⟨_, rfl, ?_⟩
      refine OI_static 4 [(0, .func (.yield l) #[] #[]), (10, .slice (some ⟨b5, o5, none⟩) ts.length cap), (11, .int .i64 ((ts.length : Nat) : Int)), (12, .int .i64 ((i : Nat) : Int)), (19, .bool false)] (by kernel_rfl) ?_
      refine OI_end rfl ?_
      refine X_then ?_
      refine V_false rfl ?_
      refine V_skip ?_
      refine X_block ?_
      refine X_then ?_
      refine V_region ?_
      have hw17 : IntKind.i64.wrap (((i : Nat) : Int) + 1) = ((i + 1 : Nat) : Int) := (wrap64_id (by omega) (by omega)).trans (by omega)
      refine OI_static 1 [(0, .func (.yield l) #[] #[]), (10, .slice (some ⟨b5, o5, none⟩) ts.length cap), (11, .int .i64 ((ts.length : Nat) : Int)), (20, .int .i64 (IntKind.i64.wrap (((i : Nat) : Int) + 1)))] (by kernel_rfl) ?_
      refine OI_eq [(0, .func (.yield l) #[] #[]), (10, .slice (some ⟨b5, o5, none⟩) ts.length cap), (11, .int .i64 ((ts.length : Nat) : Int)), (20, .int .i64 ((i + 1 : Nat) : Int))] (by rw [hw17]) ?_
      refine OI_static 2 [(0, .func (.yield l) #[] #[]), (10, .slice (some ⟨b5, o5, none⟩) ts.length cap), (11, .int .i64 ((ts.length : Nat) : Int)), (12, .int .i64 ((i + 1 : Nat) : Int))] (by kernel_rfl) ?_
      refine OI_end rfl ?_
      exact V_again (k2 - 1) (by omega) [(0, .func (.yield l) #[] #[]), (10, .slice (some ⟨b5, o5, none⟩) ts.length cap), (11, .int .i64 ((ts.length : Nat) : Int)), (12, .int .i64 ((i + 1 : Nat) : Int))] rfl ⟨i + 1, by omega, hj16, rfl⟩
    · skip
      refine ⟨_, rfl, ?_⟩
      refine OI_static 4 [(0, .func (.yield l) #[] #[]), (10, .slice (some ⟨b5, o5, none⟩) ts.length cap), (11, .int .i64 ((ts.length : Nat) : Int)), (12, .int .i64 ((i : Nat) : Int)), (19, .bool true)] (by kernel_rfl) ?_
      refine OI_end rfl ?_
      refine X_then ?_
      refine V_true rfl ?_
      refine V_ret ?_
      refine X_ret_block ?_
      refine X_ret_then ?_
      refine X_ret_then ?_
      refine X_ret_block ?_
      exact X_return _ rfl ⟨⟨_, rfl⟩, .inr ⟨i + 1, by omega, hj16⟩⟩
  · skip
    refine V_exit ?_
    refine X_exit_then ?_
    refine X_exit_then ?_
    refine X_exit_here ?_
    have he : i = ts.length := by omega
    rw [he] at hj
    exact X_end _ rfl ⟨⟨_, rfl⟩, .inl (hJ _ _ _ hj (Keep.ofNone hkh))⟩

theorem allfn_spec (v : Value) (hv : v.cells = [v].toArray) (w : World) : Calls Try.prog 22 #[v] w fun e w' => ∃ c, e = .returned (.func (.func 30) #[] #[.pointer (some ⟨c, 0, none⟩)]) ∧ Blk w' c [v] 23 ∧ Keep none_ w w' ∧ w.heap.size ≤ c := by
  have hK0 : Keep none_ w w := Keep.refl _ _
  have hzhK0 := Keep.size hK0
  refine enterV Try.func22 rfl [v] 4 rfl rfl rfl ?_
  refine V_pick [(0, v)] rfl ?_
  refine V_seq ?_
  refine V_region ?_
  refine OI_box 23 (.tmp 0) v [v] (some 1) (by kernel_rfl) (by kernel_rfl) hv ?_
  intro b1 w1 e1 hb1 k1 z1
  have hsz2 := Keep.size k1
  replace hK0 := Keep.tr hK0 (Keep.ofNone k1); have hzhK0 := Keep.size hK0
  have hb1lt := hb1.lt
  refine OI_static 2 [(1, .pointer (some ⟨b1, 0, none⟩))] (by kernel_rfl) ?_
  refine OI_end rfl ?_
  refine X_then ?_
  refine V_seq ?_
  refine V_region ?_
  refine OI_static 2 [(2, .func (.func 30) #[] #[.pointer (some ⟨b1, 0, none⟩)])] (by kernel_rfl) ?_
  refine OI_end rfl ?_
  refine X_then ?_
  refine V_ret ?_
  exact X_return _ rfl ⟨_, rfl, hb1, hK0, by omega⟩

theorem all_spec (D0 : Nat → Prop) (g : Nat) (ts : List Tk) (w : World) (h : Ag D0 w g ts) : Calls Try.prog 16 #[.pointer (some ⟨g, 0, none⟩)] w fun e w' => ∃ A' cap', e = .returned (.tuple #[.slice A' ts.length cap', .bool true]) ∧ SlT w' 36 Tk.cells A' cap' ts ∧ Keep none_ w w' ∧ (∀ k, inA A' k → w.heap.size ≤ k) := by
  obtain ⟨hs, hlen, A, cap, h, hDA⟩ := h
  have hgA := h.off
  have hg := h.blk
  have hA := h.sl
  have hglt := hg.lt
  have hltA := SlT.lt hA
  have hK0 : Keep none_ w w := Keep.refl _ _
  have hzhK0 := Keep.size hK0
  refine enterM Try.func16 rfl [.pointer (some ⟨g, 0, none⟩)] 21 rfl rfl rfl ?_
  refine V_pick [(0, .pointer (some ⟨g, 0, none⟩))] rfl ?_
  refine V_seq ?_
  refine V_region ?_
  refine OI_alloc 31 (.slice none 0 0) [.slice none 0 0] (some 2) (by kernel_rfl) (by kernel_rfl) (by kernel_rfl) ?_
  intro b1 w1 e1 hb1 k1 z1
  have hsz2 := Keep.size k1
  replace hg := hg.keep k1 (fun f => f)
  have hglt := hg.lt
  replace hA := SlT.keep0 hA k1
  replace hK0 := Keep.tr hK0 (Keep.ofNone k1); have hzhK0 := Keep.size hK0
  have hb1lt := hb1.lt
  refine OI_alloc 4 (.bool false) [.bool false] (some 3) (by kernel_rfl) (by kernel_rfl) (by kernel_rfl) ?_
  intro b3 w3 e3 hb3 k3 z3
  have hsz4 := Keep.size k3
  replace hg := hg.keep k3 (fun f => f)
  have hglt := hg.lt
  replace hb1 := hb1.keep k3 (fun f => f)
  have hb1lt := hb1.lt
  replace hA := SlT.keep0 hA k3
  replace hK0 := Keep.tr hK0 (Keep.ofNone k3); have hzhK0 := Keep.size hK0
  have hb3lt := hb3.lt
  refine OI_end rfl ?_
  refine X_then ?_
  refine V_seq ?_
  refine V_region ?_
  refine OI_static 1 [(2, .pointer (some ⟨b1, 0, none⟩)), (3, .pointer (some ⟨b3, 0, none⟩)), (7, .pointer (some ⟨g, 0, none⟩))] (by kernel_rfl) ?_
  refine OI_call { callee := (Callee.value (Operand.func 22)), args := #[(Operand.tmp 7)], argTypes := #[23] } 22 #[.pointer (some ⟨g, 0, none⟩)] (some 8) (by kernel_rfl) (by kernel_rfl) (by kernel_rfl) (allfn_spec _ rfl _) ?_
  rintro _ w5 ⟨c7, rfl, hc7, hk6, hgec7⟩
  refine ⟨_, rfl, ?_⟩
  have hsz8 := Keep.size hk6
  replace hg := hg.keep hk6 (fun f => f)
  have hglt := hg.lt
  replace hb1 := hb1.keep hk6 (fun f => f)
  have hb1lt := hb1.lt
  replace hb3 := hb3.keep hk6 (fun f => f)
  have hb3lt := hb3.lt
  replace hA := SlT.keep0 hA hk6
  replace hK0 := Keep.tr hK0 (Keep.ofNone hk6); have hzhK0 := Keep.size hK0
  have hc7lt := hc7.lt
  refine OI_static 3 [(2, .pointer (some ⟨b1, 0, none⟩)), (3, .pointer (some ⟨b3, 0, none⟩)), (4, .func (.func 30) #[] #[.pointer (some ⟨c7, 0, none⟩)])] (by kernel_rfl) ?_
  refine OI_end rfl ?_
  refine X_then ?_
  refine V_seq ?_
  refine V_seq ?_
  refine V_region ?_
  refine OI_static 2 [(2, .pointer (some ⟨b1, 0, none⟩)), (3, .pointer (some ⟨b3, 0, none⟩)), (4, .func (.func 30) #[] #[.pointer (some ⟨c7, 0, none⟩)]), (10, .bool false)] (by kernel_rfl) ?_
  refine OI_end rfl ?_
  refine X_then ?_
  refine V_false rfl ?_
  refine V_skip ?_
  refine X_then ?_
  refine V_seq ?_
  refine V_region ?_
  refine OI_alloc 31 (.slice none 0 0) [.slice none 0 0] (some 5) (by kernel_rfl) (by kernel_rfl) (by kernel_rfl) ?_
  intro b9 w9 e9 hb9 k9 z9
  have hsz10 := Keep.size k9
  replace hg := hg.keep k9 (fun f => f)
  have hglt := hg.lt
  replace hb1 := hb1.keep k9 (fun f => f)
  have hb1lt := hb1.lt
  replace hb3 := hb3.keep k9 (fun f => f)
  have hb3lt := hb3.lt
  replace hc7 := hc7.keep k9 (fun f => f)
  have hc7lt := hc7.lt
  replace hA := SlT.keep0 hA k9
  replace hK0 := Keep.tr hK0 (Keep.ofNone k9); have hzhK0 := Keep.size hK0
  have hb9lt := hb9.lt
  refine OI_end rfl ?_
  refine X_then ?_
  refine V_seq ?_
  refine V_seq ?_
  refine V_region ?_
  refine OI_static 1 [(2, .pointer (some ⟨b1, 0, none⟩)), (3, .pointer (some ⟨b3, 0, none⟩)), (5, .pointer (some ⟨b9, 0, none⟩)), (11, .func (.func 30) #[] #[.pointer (some ⟨c7, 0, none⟩)])] (by kernel_rfl) ?_
  refine OI_end rfl ?_
  refine X_then ?_
  refine V_block ?_
  refine V_pick [(2, .pointer (some ⟨b1, 0, none⟩)), (3, .pointer (some ⟨b3, 0, none⟩)), (5, .pointer (some ⟨b9, 0, none⟩)), (11, .func (.func 30) #[] #[.pointer (some ⟨c7, 0, none⟩)])] rfl ?_
  have hN0 : w.heap.size ≤ w9.heap.size := hzhK0
  refine V_range (gf := 30) (caps := #[.pointer (some ⟨c7, 0, none⟩)]) (by kernel_rfl) (by kernel_rfl) (by kernel_rfl) (all1_iter c7 g cap A ts (by omega)) ⟨hc7, ⟨hg, hA, hgA⟩⟩ (fun W W' h k => ⟨h.1.quiet k, ⟨h.2.blk.quiet k, h.2.sl.quiet k, h.2.off⟩⟩) (fun _ => rfl) (fun k W => ∃ A1 cap1, Blk W b9 [.slice A1 (ts.take k).length cap1] 31 ∧ SlT W 36 Tk.cells A1 cap1 (ts.take k) ∧ (∀ q, inA A1 q → w.heap.size ≤ q ∧ q ≠ b1 ∧ q ≠ b3 ∧ q ≠ b9) ∧ Blk W b1 [.slice none 0 0] 31 ∧ Blk W b3 [.bool false] 4 ∧ SlT W 36 Tk.cells A cap ts ∧ Keep none_ w W) (fun _ _ _ => False) (fun k W W' h hk => by obtain ⟨A1, cap1, h1, h2, h3, h4, h5, h6, h7⟩ := h; exact ⟨A1, cap1, h1.quiet hk, h2.quiet hk, h3, h4.quiet hk, h5.quiet hk, h6.quiet hk, h7.quiet hk hN0⟩) (fun _ _ _ _ h _ => h.elim) ⟨none, 0, hb9, SlT.nil _ _ _, fun q hq => (inA_none hq).elim, hb1, hb3, hA, hK0⟩ (fun k W h => by obtain ⟨A1, cap1, h1, h2, h3, h4, h5, h6, h7⟩ := h; exact h6) ?_ ?_ (fun _ _ _ _ _ _ h _ => h.elim)
  · skip
    intro l D k W hD hl hlW hkm ⟨A1, cap1, hb5, hout, howno, hb2, hb3, hA, hK0⟩ ⟨rr, hrr⟩ hDD
    have hzhK0 := Keep.size hK0
    have hltno := SlT.lt hout
    have hb9lt := hb5.lt
    have hb1lt := hb2.lt
    have hb3lt := hb3.lt
    obtain ⟨x, hx⟩ : ∃ x, ts[k]? = some x := ⟨_, List.getElem?_eq_getElem (by omega)⟩
    rw [encT_at hx]
    have hcl0 : Keep (cl W) W W := Keep.refl _ _
    refine V_pick [(2, .pointer (some ⟨b1, 0, none⟩)), (3, .pointer (some ⟨b3, 0, none⟩)), (5, .pointer (some ⟨b9, 0, none⟩)), (12, .agg (Tk.cells x).toArray)] rfl ?_
    refine V_region ?_
    refine OI_alloc 28 (.agg #[.int .i64 0, .int .i64 0, .int .i64 0, .int .u8 0, .int .u8 0, .int .u8 0, .int .u8 0, .int .u8 0, .int .u8 0, .int .u8 0, .int .u8 0, .int .u8 0, .int .u8 0, .int .u8 0, .int .u8 0, .int .u8 0, .int .u8 0, .int .u8 0, .int .u8 0, .int .u8 0, .int .u8 0, .int .u8 0, .int .u8 0, .int .u8 0, .int .u8 0, .int .u8 0, .int .u8 0, .int .u8 0, .int .u8 0, .int .u8 0, .int .u8 0, .int .u8 0, .int .u8 0, .int .u8 0, .int .u8 0, .int .i64 0]) [.int .i64 0, .int .i64 0, .int .i64 0, .int .u8 0, .int .u8 0, .int .u8 0, .int .u8 0, .int .u8 0, .int .u8 0, .int .u8 0, .int .u8 0, .int .u8 0, .int .u8 0, .int .u8 0, .int .u8 0, .int .u8 0, .int .u8 0, .int .u8 0, .int .u8 0, .int .u8 0, .int .u8 0, .int .u8 0, .int .u8 0, .int .u8 0, .int .u8 0, .int .u8 0, .int .u8 0, .int .u8 0, .int .u8 0, .int .u8 0, .int .u8 0, .int .u8 0, .int .u8 0, .int .u8 0, .int .u8 0, .int .i64 0] (some 6) (by kernel_rfl) (by kernel_rfl) (by kernel_rfl) ?_
    intro b11 w11 e11 hb11 k11 z11
    have hsz12 := Keep.size k11
    replace hb5 := hb5.keep k11 (fun f => f)
    have hb9lt := hb5.lt
    replace hb2 := hb2.keep k11 (fun f => f)
    have hb1lt := hb2.lt
    replace hb3 := hb3.keep k11 (fun f => f)
    have hb3lt := hb3.lt
    replace hout := SlT.keep0 hout k11
    replace hA := SlT.keep0 hA k11
    replace hK0 := Keep.tr hK0 (Keep.ofNone k11); have hzhK0 := Keep.size hK0
    replace hcl0 := Keep.tr hcl0 (Keep.ofNone k11); have hzhcl0 := Keep.size hcl0
    have hb11lt := hb11.lt
    refine OI_set (m := 36) (kd := true) 28 (.tmp 6) (.tmp 12) 0 (.agg (Tk.cells x).toArray) (Tk.cells x) none (by kernel_rfl) (by kernel_rfl) (by kernel_rfl) hb11 (by kernel_rfl) rfl (Tk.len _) (Nat.le_of_ble_eq_true (by kernel_rfl)) (Tk.one _) ?_
    intro w13 hb11_16 hk14 hz15
    replace hb11_16 : Blk w13 b11 (Tk.cells x) 28 := (by rwa [over_whole (by rw [Tk.len]; rfl)] at hb11_16)
    have hsz17 := Keep.size hk14
    replace hb5 := hb5.keep hk14 (by show ¬ (_ = _); omega)
    have hb9lt := hb5.lt
    replace hb2 := hb2.keep hk14 (by show ¬ (_ = _); omega)
    have hb1lt := hb2.lt
    replace hb3 := hb3.keep hk14 (by show ¬ (_ = _); omega)
    have hb3lt := hb3.lt
    replace hout := SlT.keep hout hk14 (fun k hk hs => by have hs : k = b11 := hs; have h2 := howno k hk; have h3 := hltno k hk; omega)
    replace hA := SlT.keep hA hk14 (fun k hk hs => by have hs : k = b11 := hs; have h2 := hltA k hk; omega)
    replace hK0 := Keep.fresh hK0 hk14 (by intro i hi hs; first | exact hs | exact Or.inl hs | exact Or.inr hs | (exfalso; have hs2 : i = b11 := hs; omega)); have hzhK0 := Keep.size hK0
    replace hcl0 := Keep.cl_one hcl0 hk14 hb11; have hzhcl0 := Keep.size hcl0
    refine OI_end rfl ?_
    refine X_begin (Keep.cl_same hcl0 hrr hDD) ?_
    intro W2 hk2 ⟨r2, hr2⟩ hD2
    replace hDD : W2.heap[D]? = some (.deferred (some [])) := hD2.trans ((Keep.cl_same hcl0 hrr hDD).2.trans hDD)
    have hsz18 := Keep.size hk2
    replace hb5 := Blk.quiet hb5 hk2
    have hb9lt := hb5.lt
    replace hb2 := Blk.quiet hb2 hk2
    have hb1lt := hb2.lt
    replace hb3 := Blk.quiet hb3 hk2
    have hb3lt := hb3.lt
    replace hb11_16 := Blk.quiet hb11_16 hk2
    have hb11lt := hb11_16.lt
    replace hout := SlT.quiet hout hk2
    replace hA := SlT.quiet hA hk2
    replace hK0 := Keep.quiet hK0 hk2 (by omega); have hzhK0 := Keep.size hK0
    have hcl2 : Keep (cl W2) W2 W2 := Keep.refl _ _
    refine V_block ?_
    refine V_seq ?_
    refine V_region ?_
    refine OI_cell 31 (.tmp 5) 0 (.slice A1 ((ts.take k).length) cap1) (some 13) (by kernel_rfl) (by kernel_rfl) hb5 (m := 1) (by kernel_rfl) rfl ?_
    refine OI_agg 28 (.tmp 6) 0 (Tk.cells x) (some 14) (by kernel_rfl) (by kernel_rfl) hb11_16 (m := 36) (by kernel_rfl) (take_all (Tk.len _)) (Tk.len _) ?_
    refine OI_slit (E := 28) (zv := .agg #[.int .i64 0, .int .i64 0, .int .i64 0, .int .u8 0, .int .u8 0, .int .u8 0, .int .u8 0, .int .u8 0, .int .u8 0, .int .u8 0, .int .u8 0, .int .u8 0, .int .u8 0, .int .u8 0, .int .u8 0, .int .u8 0, .int .u8 0, .int .u8 0, .int .u8 0, .int .u8 0, .int .u8 0, .int .u8 0, .int .u8 0, .int .u8 0, .int .u8 0, .int .u8 0, .int .u8 0, .int .u8 0, .int .u8 0, .int .u8 0, .int .u8 0, .int .u8 0, .int .u8 0, .int .u8 0, .int .u8 0, .int .i64 0]) (sz := 36) (by_ := 64) 31 1 #[(0, (Operand.tmp 14))] [.agg (Tk.cells x).toArray] (Tk.cells x) (some 15) (by kernel_rfl) (by kernel_rfl) (by kernel_rfl) (by omega) rfl (by omega) (by intro v hv; obtain rfl := List.mem_singleton.1 hv; show (Tk.cells x).toArray.size = 36; simp [Tk.len]) (by kernel_rfl) (by show (Tk.cells x).toArray.toList ++ [] = _; simp) ?_
    intro b19 w19 e19 hb19 k19 z19
    have hsz20 := Keep.size k19
    replace hb5 := hb5.keep k19 (fun f => f)
    have hb9lt := hb5.lt
    replace hb2 := hb2.keep k19 (fun f => f)
    have hb1lt := hb2.lt
    replace hb3 := hb3.keep k19 (fun f => f)
    have hb3lt := hb3.lt
    replace hb11_16 := hb11_16.keep k19 (fun f => f)
    have hb11lt := hb11_16.lt
    replace hout := SlT.keep0 hout k19
    replace hA := SlT.keep0 hA k19
    replace hK0 := Keep.tr hK0 (Keep.ofNone k19); have hzhK0 := Keep.size hK0
    replace hcl2 := Keep.tr hcl2 (Keep.ofNone k19); have hzhcl2 := Keep.size hcl2
    have hb19lt := hb19.lt
    have hxl : (ts.take k).length ≤ 12 := by rw [List.length_take]; omega
    refine OI_append (t := 31) (at2 := 31) (E := 28) (E2 := 28) (sz := 36) (by_ := 64) (zv := .agg #[.int .i64 0, .int .i64 0, .int .i64 0, .int .u8 0, .int .u8 0, .int .u8 0, .int .u8 0, .int .u8 0, .int .u8 0, .int .u8 0, .int .u8 0, .int .u8 0, .int .u8 0, .int .u8 0, .int .u8 0, .int .u8 0, .int .u8 0, .int .u8 0, .int .u8 0, .int .u8 0, .int .u8 0, .int .u8 0, .int .u8 0, .int .u8 0, .int .u8 0, .int .u8 0, .int .u8 0, .int .u8 0, .int .u8 0, .int .u8 0, .int .u8 0, .int .u8 0, .int .u8 0, .int .u8 0, .int .u8 0, .int .i64 0]) (m := (ts.take k).length) (k := 1) (.tmp 13) (.tmp 15) (.slice A1 ((ts.take k).length) cap1) (.slice (some ⟨b19, 0, none⟩) 1 1) (some 16) (by kernel_rfl) (by kernel_rfl) (by kernel_rfl) (by kernel_rfl) (by kernel_rfl) (by kernel_rfl) (by kernel_rfl) (SlT.slr hout) (slr_one hb19 (Tk.len x)) (Tk.one _) (by omega) (by omega) (by omega) (by omega) ?_
    intro v w21 hap
    obtain ⟨A8, cap8, rfl, h8, hk8, hown8x⟩ := app_one (f := Tk.cells) (xs := (ts.take k)) (x := x) hap (fun x _ => Tk.len x) (Tk.len _)
    replace hk8 : Keep (inA A1) w19 w21 := Keep.mono hk8 (fun k _ hk => hk)
    have hown8 : ∀ q, inA A8 q → w.heap.size ≤ q ∧ q ≠ b1 ∧ q ≠ b3 ∧ q ≠ b9 := fun q hq => by rcases hown8x q hq with h | h; exact howno q h; refine ⟨by omega, by omega, by omega, by omega⟩
    have hsz22 := Keep.size hk8
    replace hb5 := hb5.keep hk8 (fun hs => by have h1 := howno _ hs; have h2 := hltno _ hs; omega)
    have hb9lt := hb5.lt
    replace hb2 := hb2.keep hk8 (fun hs => by have h1 := howno _ hs; have h2 := hltno _ hs; omega)
    have hb1lt := hb2.lt
    replace hb3 := hb3.keep hk8 (fun hs => by have h1 := howno _ hs; have h2 := hltno _ hs; omega)
    have hb3lt := hb3.lt
    replace hb11_16 := hb11_16.keep hk8 (fun hs => by have h1 := howno _ hs; have h2 := hltno _ hs; omega)
    have hb11lt := hb11_16.lt
    replace hA := SlT.keep hA hk8 (fun k hk hs => by have h1 := howno k hs; have h2 := hltA k hk; omega)
    replace hK0 := Keep.fresh hK0 hk8 (by intro i hi hs; exfalso; have := howno i hs; omega); have hzhK0 := Keep.size hK0
    replace hcl2 := Keep.cl_slt hcl2 hk8 hout; have hzhcl2 := Keep.size hcl2
    refine OI_set (m := 1) (kd := false) 31 (.tmp 5) (.tmp 16) 0 (.slice A8 ((ts.take k ++ [x]).length) cap8) [.slice A8 ((ts.take k ++ [x]).length) cap8] none (by kernel_rfl) (by kernel_rfl) (by kernel_rfl) hb5 (by kernel_rfl) (by kernel_rfl) (by kernel_rfl) (Nat.le_of_ble_eq_true (by kernel_rfl)) (by simp [Value.oneCell']) ?_
    intro w23 hb9_26 hk24 hz25
    replace hb9_26 : Blk w23 b9 [.slice A8 ((ts.take k ++ [x]).length) cap8] 31 := hb9_26
    have hsz27 := Keep.size hk24
    replace hb2 := hb2.keep hk24 (by show ¬ (_ = _); omega)
    have hb1lt := hb2.lt
    replace hb3 := hb3.keep hk24 (by show ¬ (_ = _); omega)
    have hb3lt := hb3.lt
    replace hb11_16 := hb11_16.keep hk24 (by show ¬ (_ = _); omega)
    have hb11lt := hb11_16.lt
    replace hA := SlT.keep hA hk24 (fun k hk hs => by have hs : k = b9 := hs; have h2 := hltA k hk; omega)
    replace h8 := SlT.keep h8 hk24 (fun k hk hs => by have hs : k = b9 := hs; have h2 := hown8 k hk; omega)
    replace hK0 := Keep.fresh hK0 hk24 (by intro i hi hs; first | exact hs | exact Or.inl hs | exact Or.inr hs | (exfalso; have hs2 : i = b9 := hs; omega)); have hzhK0 := Keep.size hK0
    replace hcl2 := Keep.cl_one hcl2 hk24 hb5; have hzhcl2 := Keep.size hcl2
    refine OI_end rfl ?_
    refine X_then ?_
    refine V_seq ?_
    refine V_region ?_
    refine OI_cell 31 (.tmp 5) 0 (.slice A8 ((ts.take k ++ [x]).length) cap8) (some 17) (by kernel_rfl) (by kernel_rfl) hb9_26 (m := 1) (by kernel_rfl) rfl ?_
    refine OI_static 3 [(2, .pointer (some ⟨b1, 0, none⟩)), (3, .pointer (some ⟨b3, 0, none⟩)), (19, .bool (decide ((((ts.take k ++ [x]).length : Nat) : Int) > 200)))] (by kernel_rfl) ?_
    refine OI_end rfl ?_
    refine X_then ?_
    refine V_if ((((ts.take k ++ [x]).length : Nat) : Int) > 200) (by kernel_rfl) (fun hc28 => ?_) (fun hc28 => ?_)
    · skip
      exact (by rw [List.length_append] at hc28; simp only [List.length_cons, List.length_nil] at hc28; omega : False).elim
    · skip
      refine V_skip ?_
      refine X_block ?_
      have htk : ts.take (k + 1) = ts.take k ++ [x] := by obtain ⟨h1, h2⟩ := List.getElem?_eq_some_iff.1 hx; rw [List.take_succ_eq_append_getElem h1, h2]
      exact fun a _ => ⟨Keep.cl_same hcl2 hr2 hDD, A8, cap8, by rw [htk]; exact hb9_26, by rw [htk]; exact h8, hown8, hb2, hb3, hA, hK0⟩
  · skip
    intro D W hD ⟨A1, cap1, hb5, hout, howno, hb2, hb3, hA, hK0⟩ hDD
    rw [List.take_length] at hb5 hout
    have hzhK0 := Keep.size hK0
    have hb9lt := hb5.lt
    have hb1lt := hb2.lt
    have hb3lt := hb3.lt
    refine X_block ?_
    refine X_then ?_
    refine V_seq ?_
    refine V_region ?_
    refine OI_cell 31 (.tmp 5) 0 (.slice A1 ts.length cap1) (some 20) (by kernel_rfl) (by kernel_rfl) hb5 (m := 1) (by kernel_rfl) rfl ?_
    refine OI_set (m := 1) (kd := false) 31 (.tmp 2) (.tmp 20) 0 (.slice A1 ts.length cap1) [.slice A1 ts.length cap1] none (by kernel_rfl) (by kernel_rfl) (by kernel_rfl) hb2 (by kernel_rfl) (by kernel_rfl) (by kernel_rfl) (Nat.le_of_ble_eq_true (by kernel_rfl)) (by simp [Value.oneCell']) ?_
    intro w29 hb1_32 hk30 hz31
    replace hb1_32 : Blk w29 b1 [.slice A1 ts.length cap1] 31 := hb1_32
    have hsz33 := Keep.size hk30
    replace hb5 := hb5.keep hk30 (by show ¬ (_ = _); omega)
    have hb9lt := hb5.lt
    replace hb3 := hb3.keep hk30 (by show ¬ (_ = _); omega)
    have hb3lt := hb3.lt
    replace hout := SlT.keep hout hk30 (fun k hk hs => by have hs : k = b1 := hs; have h2 := howno k hk; omega)
    replace hA := SlT.keep hA hk30 (fun k hk hs => by have hs : k = b1 := hs; have h2 := hltA k hk; omega)
    replace hK0 := Keep.fresh hK0 hk30 (by intro i hi hs; first | exact hs | exact Or.inl hs | exact Or.inr hs | (exfalso; have hs2 : i = b1 := hs; omega)); have hzhK0 := Keep.size hK0
    replace hDD := (Keep.block hk30 _ (Array.getElem?_eq_some_iff.1 hDD).1 (by show ¬ (_ = _); omega)).trans hDD
    refine OI_set (m := 1) (kd := false) 4 (.tmp 3) (.const (Value.bool true)) 0 (.bool true) [.bool true] none (by kernel_rfl) (by kernel_rfl) (by kernel_rfl) hb3 (by kernel_rfl) (by kernel_rfl) (by kernel_rfl) (Nat.le_of_ble_eq_true (by kernel_rfl)) (by simp [Value.oneCell']) ?_
    intro w34 hb3_37 hk35 hz36
    replace hb3_37 : Blk w34 b3 [.bool true] 4 := hb3_37
    have hsz38 := Keep.size hk35
    replace hb5 := hb5.keep hk35 (by show ¬ (_ = _); omega)
    have hb9lt := hb5.lt
    replace hb1_32 := hb1_32.keep hk35 (by show ¬ (_ = _); omega)
    have hb1lt := hb1_32.lt
    replace hout := SlT.keep hout hk35 (fun k hk hs => by have hs : k = b3 := hs; have h2 := howno k hk; omega)
    replace hA := SlT.keep hA hk35 (fun k hk hs => by have hs : k = b3 := hs; have h2 := hltA k hk; omega)
    replace hK0 := Keep.fresh hK0 hk35 (by intro i hi hs; first | exact hs | exact Or.inl hs | exact Or.inr hs | (exfalso; have hs2 : i = b3 := hs; omega)); have hzhK0 := Keep.size hK0
    replace hDD := (Keep.block hk35 _ (Array.getElem?_eq_some_iff.1 hDD).1 (by show ¬ (_ = _); omega)).trans hDD
    refine OI_end rfl ?_
    refine X_then ?_
    refine V_ret ?_
    exact leave1 (.tuple #[.slice A1 ts.length cap1, .bool true]) (.inl rfl) hDD (fun w' hk => ⟨res_cells2 (n1 := 1) (n2 := 1) rfl rfl rfl (by kernel_rfl) (by kernel_rfl) (Blk.quiet hb1_32 hk) (Blk.quiet hb3_37 hk), A1, cap1, rfl, SlT.quiet hout hk, Keep.quiet hK0 hk (by omega), fun q hq => (howno q hq).1⟩)
end Go.Al


namespace Go.Al
open Go Go.RowKit

theorem Yields.mono {P : Program} {l : Nat} {args : Array Value} {W : World} {R R' : Ending → World → Prop} (h : Yields P l args W R) (hR : ∀ e w, R e w → R' e w) : Yields P l args W R' := by
  obtain ⟨f, t, a, b, h1, h2⟩ := h
  exact ⟨f, t, a, b, h1, RoundIn.mono h2 hR⟩
section
variable {P : Program} {n : Nat} {ds : List Deferred} {Q : Post} {e : Env} {w : World} {assign body : Code}
end
/-! ### A yield in a region whose order is drawn -/
section
variable {P : Program} {r : Option Nat} {n : Nat} {ds : List Deferred} {ops : Array Oper} {Q : Post} {act : Nat → Bool} {S : Nat → Prop} {w1 : World} {i : Nat} {l : List Nat} {e : Env} {w : World}
end

/-! ### What a function with such loops hands back -/
section
variable {P : Program} {fn : Func} {R : Ending → World → Prop} {n : Nat} {e : Env} {w : World}
end
section
variable {P : Program} {fn : Func} {R : Ending → World → Prop} {n : Nat} {e : Env} {w : World}
end
section
variable {P : Program} {fn : Func} {R : Ending → World → Prop} {n : Nat} {e : Env} {w : World}
end
/-! ### Places in an array; stores behind which nothing is looked at -/
section
variable {P : Program} {r : Option Nat} {n : Nat} {ds : List Deferred} {ops : Array Oper} {Q : Post} {act : Nat → Bool} {S : Nat → Prop} {w1 : World} {i : Nat} {l : List Nat} {e : Env} {w w' : World}
end
theorem app_many {α : Type} {w w' : World} {sz cap k : Nat} {A : Option Addr} {f : α → List Value} {xs ys : List α} {v : Value} (h : Appended w sz (.slice A xs.length cap) xs.length (xs.flatMap f) (ys.flatMap f) k v w') (hk : ys.length = k) (hf : ∀ x, (f x).length = sz) :
    ∃ A' cap', v = .slice A' (xs ++ ys).length cap' ∧ SlT w' sz f A' cap' (xs ++ ys) ∧ Keep (inA A) w w' ∧ (∀ k, inA A' k → inA A k ∨ w.heap.size ≤ k) := by
  obtain ⟨A', cap', hv, h1, h2⟩ := SlT.of (f := f) (xs := xs ++ ys) h.holds (by simp [hk]) (by simp) (fun y _ => hf y)
  refine ⟨A', cap', by rw [hv]; simp [hk], h1, h.keep.mono (fun k _ hk => blkOf_inA hk), fun k hk => (h.own k (h2 k hk)).imp blkOf_inA id⟩
end Go.Al


namespace Go.Al
open Go Go.RowKit
section
variable {P : Program} {e : Env} {w : World}
end
end Go.Al


namespace Go.Al
open Go Go.RowKit
def partV (P : Program) (t : TypeId) (cs : Array Value) (off : Nat) : Option Value := match tk P t with
  | some (true, n) => some (.agg (cs.extract off (off + n)))
  | some (false, _) => cs[off]?
  | none => none
def eqB (P : Program) : Nat → TypeId → Value → Bool
  | 0, _, _ => false
  | m + 1, t, v => match P.underlying t, v with
    | some .bool, .bool _ => true
    | some (.int _), .int _ _ => true
    | some (.struct _), .agg cs => !P.stoodInHeld t && (P.fieldsOf t).toList.all fun f => match partV P f.type cs f.offset with | some u => eqB P m f.type u | none => false
    | some (.array n e), .agg cs => (P.info? e).isSome && (List.range n).all fun i => match partV P e cs (i * P.cellsOf e) with | some u => eqB P m e u | none => false
    | _, _ => false
section
variable {P : Program} {e : Env} {w : World}
theorem partV_run {t : TypeId} {cs : Array Value} {off : Nat} {v : Value} (h : partV P t cs off = some v) : (part t cs off).run P w = .ok v w := by
  unfold partV at h
  split at h
  · rename_i n ht
    cases h
    obtain ⟨h1, h2⟩ := tk_agg ht w
    unfold part
    simp [Sem.run_bind, h1, h2, Result.andThen]
  · rename_i n ht
    obtain ⟨h1, h2⟩ := tk_agg ht w
    unfold part
    simp [Sem.run_bind, h1, Result.andThen, h]
  · cases h
theorem eqF_all {d : Nat} {cs : Array Value} : ∀ fs : List Field, (∀ f ∈ fs, ∃ u, partV P f.type cs f.offset = some u ∧ (Op.equalIn d f.type u u).run P w = .ok true w) → (Op.eqFields d cs cs fs).run P w = .ok true w
  | [], _ => rfl
  | f :: fs, h => by
    obtain ⟨u, h1, h2⟩ := h f (List.mem_cons_self ..)
    have ih := eqF_all (d := d) (cs := cs) fs (fun g hg => h g (List.mem_cons_of_mem _ hg))
    unfold Op.eqFields
    split
    · simp only [Sem.run_bind, partV_run (w := w) h1, Result.andThen, h2, Bool.not_true, Bool.false_eq_true, if_false]
      exact ih
    · exact ih
theorem eqI_all {d : Nat} {t : TypeId} {c : Nat} {cs : Array Value} : ∀ is : List Nat, (∀ i ∈ is, ∃ u, partV P t cs (i * c) = some u ∧ (Op.equalIn d t u u).run P w = .ok true w) → (Op.eqItems d t c cs cs is).run P w = .ok true w
  | [], _ => rfl
  | i :: is, h => by
    obtain ⟨u, h1, h2⟩ := h i (List.mem_cons_self ..)
    have ih := eqI_all (d := d) (t := t) (c := c) (cs := cs) is (fun g hg => h g (List.mem_cons_of_mem _ hg))
    unfold Op.eqItems
    simp only [Sem.run_bind, partV_run (w := w) h1, Result.andThen, h2, Bool.not_true, Bool.false_eq_true, if_false]
    exact ih
theorem eqB_run (d : Nat) : ∀ (m : Nat) (t : TypeId) (v : Value), eqB P m t v = true → (Op.equalIn (d + m) t v v).run P w = .ok true w
  | 0, _, _, h => by cases h
  | m + 1, t, v, h => by
    unfold eqB at h
    split at h
    · rename_i b hu
      rw [show d + (m + 1) = (d + m) + 1 from rfl, run_equalIn_bool' w (d + m) t b b hu]; simp
    · rename_i k k' n hu
      rw [show d + (m + 1) = (d + m) + 1 from rfl, run_equalIn_int w (d + m) t _ _ n n hu]; simp
    · rename_i fs cs hu
      simp only [Bool.and_eq_true, Bool.not_eq_true', List.all_eq_true] at h
      obtain ⟨hs, hf⟩ := h
      have ht : P.underlying t = some (.struct (P.fieldsOf t)) := by unfold Program.fieldsOf; rw [hu]
      rw [show d + (m + 1) = (d + m) + 1 from rfl, run_equalIn_struct w (d + m) t cs cs ht hs]
      refine eqF_all _ (fun f hfm => ?_)
      have := hf f hfm
      split at this
      · rename_i u hpu
        exact ⟨u, hpu, eqB_run d m f.type u this⟩
      · cases this
    · rename_i n el cs hu
      simp only [Bool.and_eq_true, List.all_eq_true] at h
      obtain ⟨hi, hf⟩ := h
      obtain ⟨i, hi⟩ := Option.isSome_iff_exists.1 hi
      rw [show d + (m + 1) = (d + m) + 1 from rfl, run_equalIn_array w (d + m) cs cs hu hi]
      refine eqI_all _ (fun j hj => ?_)
      have := hf j hj
      split at this
      · rename_i u hpu
        exact ⟨u, hpu, eqB_run d m el u this⟩
      · cases this
    · cases h
theorem pure_neq_same {t z : TypeId} {x y : Operand} {xs : List Value} (hx : ev e x = .agg xs.toArray) (hy : ev e y = .agg xs.toArray) (hm : P.eqGuardType P.depth t = false) (hq : eqB P 8 t (.agg xs.toArray) = true) : PureOp P e (.binOp .neq t x y z) (.bool false) := fun op ho w => by
  have hr : (Op.equalIn 10000 t (.agg xs.toArray) (.agg xs.toArray)).run P w = .ok true w := eqB_run 9992 8 t _ hq
  unfold execOp
  simp only [ho, hx, hy, Sem.run_bind, run_eqGuard_agg w _ _ _ _ _ _ hm, Result.andThen, run_neq_struct, hr, Sem.run_pure, Bool.not_true]
end
theorem SlT.openA {α : Type} {w : World} {sz cap b o : Nat} {f : α → List Value} {xs : List α} (h : SlT w sz f (some ⟨b, o, none⟩) cap xs) (h0 : 0 < xs.length) : ∃ L T, At w b o L T sz cap (xs.map f) := by
  obtain ⟨b', o', L, T, e, hat⟩ := SlT.open_ h h0
  cases e
  exact ⟨L, T, hat⟩
end Go.Al


namespace Go.Al
open Go Go.RowKit Go.Proofs
/-! ### Two rows of tasks -/
def ksR : List CK := ksT.drop 3
def okT (t : Tk) : Prop := Flat ksR t.rest
theorem lift_tk2 (x : List Value) (h : Flat ksT x) : ∃ t : Tk, t.cells = x ∧ okT t := by
  obtain ⟨t, rfl⟩ := lift_tk x h
  exact ⟨t, rfl, h.2.2.2⟩
theorem eqB_of (a b c : Int) (x : List Value) (h : Flat ksR x) : eqB Try.prog 8 28 (.agg (.int .i64 a :: .int .i64 b :: .int .i64 c :: x).toArray) = true := by
  obtain _ | ⟨v4, x⟩ := x
  · exact h.elim
  obtain ⟨⟨n4, rfl, _⟩, h⟩ := h
  obtain _ | ⟨v5, x⟩ := x
  · exact h.elim
  obtain ⟨⟨n5, rfl, _⟩, h⟩ := h
  obtain _ | ⟨v6, x⟩ := x
  · exact h.elim
  obtain ⟨⟨n6, rfl, _⟩, h⟩ := h
  obtain _ | ⟨v7, x⟩ := x
  · exact h.elim
  obtain ⟨⟨n7, rfl, _⟩, h⟩ := h
  obtain _ | ⟨v8, x⟩ := x
  · exact h.elim
  obtain ⟨⟨n8, rfl, _⟩, h⟩ := h
  obtain _ | ⟨v9, x⟩ := x
  · exact h.elim
  obtain ⟨⟨n9, rfl, _⟩, h⟩ := h
  obtain _ | ⟨v10, x⟩ := x
  · exact h.elim
  obtain ⟨⟨n10, rfl, _⟩, h⟩ := h
  obtain _ | ⟨v11, x⟩ := x
  · exact h.elim
  obtain ⟨⟨n11, rfl, _⟩, h⟩ := h
  obtain _ | ⟨v12, x⟩ := x
  · exact h.elim
  obtain ⟨⟨n12, rfl, _⟩, h⟩ := h
  obtain _ | ⟨v13, x⟩ := x
  · exact h.elim
  obtain ⟨⟨n13, rfl, _⟩, h⟩ := h
  obtain _ | ⟨v14, x⟩ := x
  · exact h.elim
  obtain ⟨⟨n14, rfl, _⟩, h⟩ := h
  obtain _ | ⟨v15, x⟩ := x
  · exact h.elim
  obtain ⟨⟨n15, rfl, _⟩, h⟩ := h
  obtain _ | ⟨v16, x⟩ := x
  · exact h.elim
  obtain ⟨⟨n16, rfl, _⟩, h⟩ := h
  obtain _ | ⟨v17, x⟩ := x
  · exact h.elim
  obtain ⟨⟨n17, rfl, _⟩, h⟩ := h
  obtain _ | ⟨v18, x⟩ := x
  · exact h.elim
  obtain ⟨⟨n18, rfl, _⟩, h⟩ := h
  obtain _ | ⟨v19, x⟩ := x
  · exact h.elim
  obtain ⟨⟨n19, rfl, _⟩, h⟩ := h
  obtain _ | ⟨v20, x⟩ := x
  · exact h.elim
  obtain ⟨⟨n20, rfl, _⟩, h⟩ := h
  obtain _ | ⟨v21, x⟩ := x
  · exact h.elim
  obtain ⟨⟨n21, rfl, _⟩, h⟩ := h
  obtain _ | ⟨v22, x⟩ := x
  · exact h.elim
  obtain ⟨⟨n22, rfl, _⟩, h⟩ := h
  obtain _ | ⟨v23, x⟩ := x
  · exact h.elim
  obtain ⟨⟨n23, rfl, _⟩, h⟩ := h
  obtain _ | ⟨v24, x⟩ := x
  · exact h.elim
  obtain ⟨⟨n24, rfl, _⟩, h⟩ := h
  obtain _ | ⟨v25, x⟩ := x
  · exact h.elim
  obtain ⟨⟨n25, rfl, _⟩, h⟩ := h
  obtain _ | ⟨v26, x⟩ := x
  · exact h.elim
  obtain ⟨⟨n26, rfl, _⟩, h⟩ := h
  obtain _ | ⟨v27, x⟩ := x
  · exact h.elim
  obtain ⟨⟨n27, rfl, _⟩, h⟩ := h
  obtain _ | ⟨v28, x⟩ := x
  · exact h.elim
  obtain ⟨⟨n28, rfl, _⟩, h⟩ := h
  obtain _ | ⟨v29, x⟩ := x
  · exact h.elim
  obtain ⟨⟨n29, rfl, _⟩, h⟩ := h
  obtain _ | ⟨v30, x⟩ := x
  · exact h.elim
  obtain ⟨⟨n30, rfl, _⟩, h⟩ := h
  obtain _ | ⟨v31, x⟩ := x
  · exact h.elim
  obtain ⟨⟨n31, rfl, _⟩, h⟩ := h
  obtain _ | ⟨v32, x⟩ := x
  · exact h.elim
  obtain ⟨⟨n32, rfl, _⟩, h⟩ := h
  obtain _ | ⟨v33, x⟩ := x
  · exact h.elim
  obtain ⟨⟨n33, rfl, _⟩, h⟩ := h
  obtain _ | ⟨v34, x⟩ := x
  · exact h.elim
  obtain ⟨⟨n34, rfl, _⟩, h⟩ := h
  obtain _ | ⟨v35, x⟩ := x
  · exact h.elim
  obtain ⟨⟨n35, rfl, _⟩, h⟩ := h
  obtain _ | ⟨v36, x⟩ := x
  · exact h.elim
  obtain ⟨⟨n36, rfl, _⟩, h⟩ := h
  obtain _ | ⟨v, x⟩ := x
  · kernel_rfl
  · exact h.elim
theorem okT_eq {t : Tk} (h : okT t) : eqB Try.prog 8 28 (.agg t.cells.toArray) = true := eqB_of _ _ _ _ h

theorem same_spec (A B : Option Addr) (ca cb : Nat) (xs : List Tk) (w : World) (hA : SlT w 36 Tk.cells A ca xs) (hB : SlT w 36 Tk.cells B cb xs) (hok : ∀ x ∈ xs, okT x) (hn : xs.length ≤ 1000000) : Calls Try.prog 17 #[.slice A xs.length ca, .slice B xs.length cb] w fun e w' => e = .returned (.bool true) ∧ Keep none_ w w' := by
  have hK0 : Keep none_ w w := Keep.refl _ _
  have hzhK0 := Keep.size hK0
  refine enterV Try.func17 rfl [.slice A xs.length ca, .slice B xs.length cb] 26 rfl rfl rfl ?_
  refine V_pick [(0, .slice A xs.length ca), (1, .slice B xs.length cb)] rfl ?_
  refine V_seq ?_
  refine V_region ?_
  refine OI_static 1 [(0, .slice A xs.length ca), (1, .slice B xs.length cb)] (by kernel_rfl) ?_
  refine OI_end rfl ?_
  refine X_then ?_
  refine V_seq ?_
  refine V_seq ?_
  refine V_region ?_
  refine OI_static 5 [(0, .slice A xs.length ca), (1, .slice B xs.length cb), (10, .bool (!(decide (((xs.length : Nat) : Int) = ((xs.length : Nat) : Int)))))] (by kernel_rfl) ?_
  refine OI_end rfl ?_
  refine X_then ?_
  refine V_not (((xs.length : Nat) : Int) = ((xs.length : Nat) : Int)) (by kernel_rfl) (fun hc1 => ?_) (fun hc1 => ?_)
  · skip
    exact (hc1 rfl).elim
  · skip
    refine V_skip ?_
    refine X_then ?_
    refine V_seq ?_
    refine V_seq ?_
    refine V_region ?_
    refine OI_static 1 [(0, .slice A xs.length ca), (1, .slice B xs.length cb), (5, .int .i64 0)] (by kernel_rfl) ?_
    refine OI_end rfl ?_
    refine X_then ?_
    refine V_block ?_
    refine V_pick [(0, .slice A xs.length ca), (1, .slice B xs.length cb), (5, .int .i64 0)] rfl ?_
    refine V_loop (fun k wI e => ∃ i : Nat, (k + i = xs.length) ∧ Keep none_ w wI ∧ e = [(0, .slice A xs.length ca), (1, .slice B xs.length cb), (5, .int .i64 ((i : Nat) : Int))]) xs.length ⟨0, rfl, Keep.refl _ _, rfl⟩ ?_
    rintro k3 w2 _ ⟨i, hki, hk4, rfl⟩
    have hsz5 := Keep.size hk4
    replace hA := SlT.keep0 hA hk4
    replace hB := SlT.keep0 hB hk4
    replace hK0 := Keep.tr hK0 (Keep.ofNone hk4); have hzhK0 := Keep.size hK0
    have hzhk4 := Keep.size hk4
    refine V_seq ?_
    refine V_seq ?_
    refine V_region ?_
    refine OI_static 4 [(0, .slice A xs.length ca), (1, .slice B xs.length cb), (5, .int .i64 ((i : Nat) : Int)), (14, .bool (decide (((i : Nat) : Int) < ((xs.length : Nat) : Int))))] (by kernel_rfl) ?_
    refine OI_end rfl ?_
    refine X_then ?_
    refine V_if (((i : Nat) : Int) < ((xs.length : Nat) : Int)) (by kernel_rfl) (fun hc6 => ?_) (fun hc6 => ?_)
    · skip
      refine V_skip ?_
      refine X_then ?_
      refine V_seq ?_
      refine V_block ?_
      refine V_seq ?_
      refine V_draws (acts []) none_ [[0, 1, 2, 3, 4, 5, 6, 7, 8]] (by kernel_rfl) (by repeat first | exact sure_body (by rintro _ _ ⟨h, _⟩; exact ⟨_, h⟩) | refine sure_then ?_ | refine sure_block ?_ | refine sure_join ?_) (by kernel_rfl) ?_
      intro w8 hk7 he9 L hL10
      have hsz11 := Keep.size hk7
      replace hA := SlT.keep0 hA hk7
      replace hB := SlT.keep0 hB hk7
      replace hK0 := Keep.tr hK0 (Keep.ofNone hk7); have hzhK0 := Keep.size hK0
      replace hk4 := Keep.tr hk4 (Keep.ofNone hk7); have hzhk4 := Keep.size hk4
      have qhA := hA
      have qhB := hB
      have K12 : Keep none_ w8 w8 := Keep.refl _ _
      obtain rfl := List.mem_singleton.1 hL10
      refine GI_static [2, 3, 4, 5, 6, 7, 8] [(0, .slice A xs.length ca), (1, .slice B xs.length cb), (5, .int .i64 ((i : Nat) : Int)), (17, .slice A xs.length ca), (18, .int .i64 ((i : Nat) : Int))] (by kernel_rfl) ?_
      obtain ⟨b13, o13, L13, T13, rfl, hat13⟩ := SlT.open_ hA (by first | omega | (simp only [List.length_map]; omega) | (simp; done) | (simp; omega))
      have hb13lt := hat13.blk.lt
      obtain ⟨qL13, qT13, qhat13⟩ := SlT.openA qhA (by first | omega | (simp; done) | (simp; omega))
      refine GI_pure (some 19) (.indexAddr 31 (.tmp 17) (.tmp 18)) (by kernel_rfl) (by kernel_rfl) (pure_idxN (b := b13) (o := o13) (len := xs.length) (cap := ca) (kd := .i64) (j := i) (E := 28) (sz := 36) (by_ := 64) (by kernel_rfl) (by kernel_rfl) (by kernel_rfl) (by omega)) ?_
      obtain ⟨x14, hx15⟩ : ∃ x, xs[i]? = some x := ⟨_, List.getElem?_eq_getElem (by first | omega | (simp only [List.length_map]; omega))⟩
      refine GI_agg 28 (.tmp 19) (o13 + i * 36) (Tk.cells x14) (some 20) (by kernel_rfl) (by kernel_rfl) (by kernel_rfl) qhat13.blk (fun f => f) (m := 36) (by kernel_rfl) (At.elem' qhat13 (es_at hx15)) (At.len qhat13 (es_at hx15)) ?_
      refine GI_static [6, 7, 8] [(0, .slice (some ⟨b13, o13, none⟩) xs.length ca), (1, .slice B xs.length cb), (5, .int .i64 ((i : Nat) : Int)), (20, .agg (Tk.cells x14).toArray), (21, .slice B xs.length cb), (22, .int .i64 ((i : Nat) : Int))] (by kernel_rfl) ?_
      obtain ⟨b16, o16, L16, T16, rfl, hat16⟩ := SlT.open_ hB (by first | omega | (simp only [List.length_map]; omega) | (simp; done) | (simp; omega))
      have hb16lt := hat16.blk.lt
      obtain ⟨qL16, qT16, qhat16⟩ := SlT.openA qhB (by first | omega | (simp; done) | (simp; omega))
      refine GI_pure (some 23) (.indexAddr 31 (.tmp 21) (.tmp 22)) (by kernel_rfl) (by kernel_rfl) (pure_idxN (b := b16) (o := o16) (len := xs.length) (cap := cb) (kd := .i64) (j := i) (E := 28) (sz := 36) (by_ := 64) (by kernel_rfl) (by kernel_rfl) (by kernel_rfl) (by omega)) ?_
      refine GI_agg 28 (.tmp 23) (o16 + i * 36) (Tk.cells x14) (some 24) (by kernel_rfl) (by kernel_rfl) (by kernel_rfl) qhat16.blk (fun f => f) (m := 36) (by kernel_rfl) (At.elem' qhat16 (es_at hx15)) (At.len qhat16 (es_at hx15)) ?_
      refine GI_pure (some 25) ((Op.binOp BinOp.neq 28 (Operand.tmp 20) (Operand.tmp 24) 28)) (by kernel_rfl) (by kernel_rfl) (pure_neq_same (xs := Tk.cells x14) (by kernel_rfl) (by kernel_rfl) (by kernel_rfl) (okT_eq (hok _ (List.mem_of_getElem? hx15)))) ?_
      refine GI_end ?_
      refine X_then ?_
      refine V_false rfl ?_
      refine V_skip ?_
      refine X_block ?_
      refine X_then ?_
      refine V_region ?_
      have hw17 : IntKind.i64.wrap (((i : Nat) : Int) + 1) = ((i + 1 : Nat) : Int) := (wrap64_id (by omega) (by omega)).trans (by omega)
      refine OI_static 2 [(0, .slice (some ⟨b13, o13, none⟩) xs.length ca), (1, .slice (some ⟨b16, o16, none⟩) xs.length cb), (16, .int .i64 (IntKind.i64.wrap (((i : Nat) : Int) + 1)))] (by kernel_rfl) ?_
      refine OI_eq [(0, .slice (some ⟨b13, o13, none⟩) xs.length ca), (1, .slice (some ⟨b16, o16, none⟩) xs.length cb), (16, .int .i64 ((i + 1 : Nat) : Int))] (by rw [hw17]) ?_
      refine OI_static 3 [(0, .slice (some ⟨b13, o13, none⟩) xs.length ca), (1, .slice (some ⟨b16, o16, none⟩) xs.length cb), (5, .int .i64 ((i + 1 : Nat) : Int))] (by kernel_rfl) ?_
      refine OI_end rfl ?_
      exact V_again (k3 - 1) (by omega) [(0, .slice (some ⟨b13, o13, none⟩) xs.length ca), (1, .slice (some ⟨b16, o16, none⟩) xs.length cb), (5, .int .i64 ((i + 1 : Nat) : Int))] rfl ⟨i + 1, by omega, hk4, rfl⟩
    · skip
      refine V_exit ?_
      refine X_exit_then ?_
      refine X_exit_then ?_
      refine X_exit_here ?_
      refine X_then ?_
      refine V_seq ?_
      refine V_region ?_
      refine OI_static 1 [(4, .bool true)] (by kernel_rfl) ?_
      refine OI_end rfl ?_
      refine X_then ?_
      refine V_ret ?_
      exact X_return (.bool true) rfl ⟨rfl, hK0⟩
end Go.Al


namespace Go.Al
open Go Go.RowKit Go.Proofs
theorem ahead_spec (a b : Tk) (w : World) : Calls Try.prog 29 #[.agg a.cells.toArray, .agg b.cells.toArray] w fun e w' => e = .returned (.bool (decide (ltT a b))) ∧ Keep none_ w w' := by
  have hK0 : Keep none_ w w := Keep.refl _ _
  have hzhK0 := Keep.size hK0
  refine enterV Try.func29 rfl [.agg (Tk.cells a).toArray, .agg (Tk.cells b).toArray] 30 rfl rfl rfl ?_
  refine V_pick [(0, .agg (Tk.cells a).toArray), (1, .agg (Tk.cells b).toArray)] rfl ?_
  refine V_seq ?_
  refine V_region ?_
  refine OI_box 28 (.tmp 0) (.agg (Tk.cells a).toArray) (Tk.cells a) (some 2) (by kernel_rfl) (by kernel_rfl) rfl ?_
  intro b1 w1 e1 hb1 k1 z1
  have hsz2 := Keep.size k1
  replace hK0 := Keep.tr hK0 (Keep.ofNone k1); have hzhK0 := Keep.size hK0
  have hb1lt := hb1.lt
  refine OI_box 28 (.tmp 1) (.agg (Tk.cells b).toArray) (Tk.cells b) (some 3) (by kernel_rfl) (by kernel_rfl) rfl ?_
  intro b3 w3 e3 hb3 k3 z3
  have hsz4 := Keep.size k3
  replace hb1 := hb1.keep k3 (fun f => f)
  have hb1lt := hb1.lt
  replace hK0 := Keep.tr hK0 (Keep.ofNone k3); have hzhK0 := Keep.size hK0
  have hb3lt := hb3.lt
  refine OI_static 3 [(2, .pointer (some ⟨b1, 0, none⟩)), (3, .pointer (some ⟨b3, 0, none⟩))] (by kernel_rfl) ?_
  refine OI_end rfl ?_
  refine X_then ?_
  refine V_seq ?_
  refine V_seq ?_
  refine V_region ?_
  refine OI_static 1 [(2, .pointer (some ⟨b1, 0, none⟩)), (3, .pointer (some ⟨b3, 0, none⟩)), (5, .pointer (some ⟨b1, 1, none⟩))] (by kernel_rfl) ?_
  refine OI_cell 3 (.tmp 5) 1 (.int .i64 a.at_) (some 6) (by kernel_rfl) (by kernel_rfl) hb1 (m := 1) (by kernel_rfl) rfl ?_
  refine OI_static 3 [(2, .pointer (some ⟨b1, 0, none⟩)), (3, .pointer (some ⟨b3, 0, none⟩)), (6, .int .i64 a.at_), (7, .pointer (some ⟨b3, 1, none⟩))] (by kernel_rfl) ?_
  refine OI_cell 3 (.tmp 7) 1 (.int .i64 b.at_) (some 8) (by kernel_rfl) (by kernel_rfl) hb3 (m := 1) (by kernel_rfl) rfl ?_
  refine OI_static 5 [(2, .pointer (some ⟨b1, 0, none⟩)), (3, .pointer (some ⟨b3, 0, none⟩)), (9, .bool (!(decide (a.at_ = b.at_))))] (by kernel_rfl) ?_
  refine OI_end rfl ?_
  refine X_then ?_
  refine V_not (a.at_ = b.at_) (by kernel_rfl) (fun hc5 => ?_) (fun hc5 => ?_)
  · skip
    refine V_seq ?_
    refine V_region ?_
    refine OI_static 1 [(3, .pointer (some ⟨b3, 0, none⟩)), (10, .pointer (some ⟨b1, 1, none⟩))] (by kernel_rfl) ?_
    refine OI_cell 3 (.tmp 10) 1 (.int .i64 a.at_) (some 11) (by kernel_rfl) (by kernel_rfl) hb1 (m := 1) (by kernel_rfl) rfl ?_
    refine OI_static 3 [(11, .int .i64 a.at_), (12, .pointer (some ⟨b3, 1, none⟩))] (by kernel_rfl) ?_
    refine OI_cell 3 (.tmp 12) 1 (.int .i64 b.at_) (some 13) (by kernel_rfl) (by kernel_rfl) hb3 (m := 1) (by kernel_rfl) rfl ?_
    refine OI_static 6 [(4, .bool (decide (a.at_ < b.at_)))] (by kernel_rfl) ?_
    refine OI_end rfl ?_
    refine X_then ?_
    refine V_ret ?_
    refine X_ret_then ?_
    exact X_return (.bool (decide (a.at_ < b.at_))) rfl ⟨by rw [decide_eq_decide.2 (show _ ↔ ltT a b by unfold ltT; omega)], hK0⟩
  · skip
    refine V_skip ?_
    refine X_then ?_
    refine V_seq ?_
    refine V_seq ?_
    refine V_region ?_
    refine OI_static 1 [(2, .pointer (some ⟨b1, 0, none⟩)), (3, .pointer (some ⟨b3, 0, none⟩)), (15, .pointer (some ⟨b1, 2, none⟩))] (by kernel_rfl) ?_
    refine OI_cell 3 (.tmp 15) 2 (.int .i64 a.pr) (some 16) (by kernel_rfl) (by kernel_rfl) hb1 (m := 1) (by kernel_rfl) rfl ?_
    refine OI_static 3 [(2, .pointer (some ⟨b1, 0, none⟩)), (3, .pointer (some ⟨b3, 0, none⟩)), (16, .int .i64 a.pr), (17, .pointer (some ⟨b3, 2, none⟩))] (by kernel_rfl) ?_
    refine OI_cell 3 (.tmp 17) 2 (.int .i64 b.pr) (some 18) (by kernel_rfl) (by kernel_rfl) hb3 (m := 1) (by kernel_rfl) rfl ?_
    refine OI_static 5 [(2, .pointer (some ⟨b1, 0, none⟩)), (3, .pointer (some ⟨b3, 0, none⟩)), (19, .bool (!(decide (a.pr = b.pr))))] (by kernel_rfl) ?_
    refine OI_end rfl ?_
    refine X_then ?_
    refine V_not (a.pr = b.pr) (by kernel_rfl) (fun hc6 => ?_) (fun hc6 => ?_)
    · skip
      refine V_seq ?_
      refine V_region ?_
      refine OI_static 1 [(3, .pointer (some ⟨b3, 0, none⟩)), (20, .pointer (some ⟨b1, 2, none⟩))] (by kernel_rfl) ?_
      refine OI_cell 3 (.tmp 20) 2 (.int .i64 a.pr) (some 21) (by kernel_rfl) (by kernel_rfl) hb1 (m := 1) (by kernel_rfl) rfl ?_
      refine OI_static 3 [(21, .int .i64 a.pr), (22, .pointer (some ⟨b3, 2, none⟩))] (by kernel_rfl) ?_
      refine OI_cell 3 (.tmp 22) 2 (.int .i64 b.pr) (some 23) (by kernel_rfl) (by kernel_rfl) hb3 (m := 1) (by kernel_rfl) rfl ?_
      refine OI_static 6 [(4, .bool (decide (a.pr < b.pr)))] (by kernel_rfl) ?_
      refine OI_end rfl ?_
      refine X_then ?_
      refine V_ret ?_
      refine X_ret_then ?_
      exact X_return (.bool (decide (a.pr < b.pr))) rfl ⟨by rw [decide_eq_decide.2 (show _ ↔ ltT a b by unfold ltT; omega)], hK0⟩
    · skip
      refine V_skip ?_
      refine X_then ?_
      refine V_seq ?_
      refine V_region ?_
      refine OI_static 1 [(3, .pointer (some ⟨b3, 0, none⟩)), (25, .pointer (some ⟨b1, 0, none⟩))] (by kernel_rfl) ?_
      refine OI_cell 3 (.tmp 25) 0 (.int .i64 a.name) (some 26) (by kernel_rfl) (by kernel_rfl) hb1 (m := 1) (by kernel_rfl) rfl ?_
      refine OI_static 3 [(26, .int .i64 a.name), (27, .pointer (some ⟨b3, 0, none⟩))] (by kernel_rfl) ?_
      refine OI_cell 3 (.tmp 27) 0 (.int .i64 b.name) (some 28) (by kernel_rfl) (by kernel_rfl) hb3 (m := 1) (by kernel_rfl) rfl ?_
      refine OI_static 6 [(4, .bool (decide (a.name < b.name)))] (by kernel_rfl) ?_
      refine OI_end rfl ?_
      refine X_then ?_
      refine V_ret ?_
      exact X_return (.bool (decide (a.name < b.name))) rfl ⟨by rw [decide_eq_decide.2 (show _ ↔ ltT a b by unfold ltT; omega)], hK0⟩

/-- The document's agenda at g holds the tasks ts. -/
structure RfAt (w : World) (g : Nat) (A : Option Addr) (cap : Nat) (ts : List Tk) : Prop where
  blk : Blk w g [.slice A ts.length cap] 46
  sl : SlT w 36 Tk.cells A cap ts
  off : ¬ inA A g
/-- ... all of its blocks lie in F. -/
def Rf (F : Nat → Prop) (w : World) (g : Nat) (ts : List Tk) : Prop := ts.length ≤ 12 ∧ F g ∧ (∀ q, F q → q < w.heap.size) ∧ ∃ A cap, RfAt w g A cap ts ∧ ∀ q, inA A q → F q
def moreT (F : Nat → Prop) (w w' : World) : Nat → Prop := fun q => F q ∨ (w.heap.size ≤ q ∧ q < w'.heap.size)
theorem Rf.lt {F : Nat → Prop} {w : World} {g : Nat} {ts : List Tk} (h : Rf F w g ts) : ∀ q, F q → q < w.heap.size := h.2.2.1
theorem Rf.at_ {F : Nat → Prop} {w : World} {g : Nat} {ts : List Tk} (h : Rf F w g ts) : F g := h.2.1
theorem Rf.keep {F S : Nat → Prop} {w w' : World} {g : Nat} {ts : List Tk} (h : Rf F w g ts) (k : Keep S w w') (hS : ∀ q, F q → ¬ S q) : Rf F w' g ts := by
  obtain ⟨h1, h2, h3, A, cap, h4, h5⟩ := h
  exact ⟨h1, h2, fun q hq => Nat.lt_of_lt_of_le (h3 q hq) k.size, A, cap, ⟨h4.blk.keep k (hS g h2), h4.sl.keep k (fun q hq => hS q (h5 q hq)), h4.off⟩, h5⟩
theorem ins_first : ∀ (ts : List Tk) (t : Tk) (i : Nat), i ≤ ts.length → (∀ (j : Nat) y, j < i → ts[j]? = some y → ltT y t) → (∀ y, ts[i]? = some y → ¬ ltT y t) → ts.take i ++ t :: ts.drop i = ins t ts
  | [], t, i, hi, _, _ => by simp [ins]
  | x :: l, t, 0, _, _, h2 => by simp [ins, h2 x rfl]
  | x :: l, t, i + 1, hi, h1, h2 => by
    simp only [ins, h1 0 x (Nat.succ_pos _) rfl, if_true, List.take_succ_cons, List.drop_succ_cons, List.cons_append]
    rw [ins_first l t i (by simpa using hi) (fun j y hj hy => h1 (j + 1) y (by omega) (by simpa using hy)) (fun y hy => h2 y (by simpa using hy))]

theorem del_first (nm : Int) : ∀ (ts : List Tk) (i : Nat) (x : Tk), ts[i]? = some x → x.name = nm → (∀ (j : Nat) y, j < i → ts[j]? = some y → ¬ y.name = nm) → ts.any (named nm) = true ∧ ts.take i ++ ts.drop (i + 1) = del nm ts
  | [], i, x, hx, _, _ => by simp at hx
  | t :: l, 0, x, hx, hn, _ => by
    simp at hx; subst hx
    exact ⟨by simp [named, hn], by simp [del, named, hn]⟩
  | t :: l, i + 1, x, hx, hn, hb => by
    have h0 : named nm t = false := by have := hb 0 t (by omega) rfl; simpa [named] using this
    obtain ⟨h1, h2⟩ := del_first nm l i x (by simpa using hx) hn (fun j y hj hy => hb (j + 1) y (by omega) (by simpa using hy))
    exact ⟨by simp [h1], by simp [del, h0, h2]⟩
theorem del_none (nm : Int) : ∀ (ts : List Tk), (∀ (j : Nat) y, j < ts.length → ts[j]? = some y → ¬ y.name = nm) → ts.any (named nm) = false ∧ del nm ts = ts
  | [], _ => ⟨rfl, rfl⟩
  | t :: l, hb => by
    have h0 : named nm t = false := by have := hb 0 t (by simp) rfl; simpa [named] using this
    obtain ⟨h1, h2⟩ := del_none nm l (fun j y hj hy => hb (j + 1) y (by simpa using hj) (by simpa using hy))
    exact ⟨by simp [h0, h1], by simp [del, h0, h2]⟩
theorem del_len (nm : Int) (ts : List Tk) : (del nm ts).length ≤ ts.length := by
  rcases idx_at nm ts 0 with ⟨_, _, h3⟩ | ⟨i, _, h2, _, h4⟩
  · rw [h3]; exact Nat.le_refl _
  · rw [← h4]; simp; omega

set_option maxRecDepth 10000 in
theorem rcancel_spec (F : Nat → Prop) (g : Nat) (ts : List Tk) (nm : Int) (w : World) (h : Rf F w g ts) : Calls Try.prog 20 #[.pointer (some ⟨g, 0, none⟩), .int .i64 nm] w fun e w' => e = .returned (.bool (ts.any (named nm))) ∧ (∃ F', Rf F' w' g (del nm ts) ∧ (∀ q, F' q → F q ∨ w.heap.size ≤ q)) ∧ Keep F w w' := by
  obtain ⟨hlen, hFg, hFlt, A, cap, h, hAF⟩ := h
  have hgA := h.off
  have hg := h.blk
  have hA := h.sl
  have hglt := hg.lt
  have hltA := SlT.lt hA
  have hAg : ∀ q, inA A q → q ≠ g := fun q hq he => hgA (he ▸ hq)
  have hcapA := SlT.cap_le hA
  have hK0 : Keep F w w := Keep.refl _ _
  have hzhK0 := Keep.size hK0
  refine enterV Try.func20 rfl [.pointer (some ⟨g, 0, none⟩), .int .i64 nm] 44 rfl rfl rfl ?_
  refine V_pick [(0, .pointer (some ⟨g, 0, none⟩)), (1, .int .i64 nm)] rfl ?_
  refine V_seq ?_
  refine V_region ?_
  refine OI_static 1 [(0, .pointer (some ⟨g, 0, none⟩)), (1, .int .i64 nm)] (by kernel_rfl) ?_
  refine OI_end rfl ?_
  refine X_then ?_
  refine V_seq ?_
  refine V_seq ?_
  refine V_region ?_
  refine OI_static 1 [(0, .pointer (some ⟨g, 0, none⟩)), (1, .int .i64 nm), (5, .int .i64 0)] (by kernel_rfl) ?_
  refine OI_end rfl ?_
  refine X_then ?_
  refine V_block ?_
  refine V_pick [(0, .pointer (some ⟨g, 0, none⟩)), (1, .int .i64 nm), (5, .int .i64 0)] rfl ?_
  refine V_loop (fun k wI e => ∃ i : Nat, (k + i = ts.length) ∧ (∀ (j : Nat) y, j < i → ts[j]? = some y → ¬ y.name = nm) ∧ Keep none_ w wI ∧ e = [(0, .pointer (some ⟨g, 0, none⟩)), (1, .int .i64 nm), (5, .int .i64 ((i : Nat) : Int))]) ts.length ⟨0, by omega, fun j y hj => absurd hj (Nat.not_lt_zero _), Keep.refl _ _, rfl⟩ ?_
  rintro k2 w1 _ ⟨i, hki, hbef, hk3, rfl⟩
  have hsz4 := Keep.size hk3
  replace hg := hg.keep hk3 (fun f => f)
  have hglt := hg.lt
  replace hA := SlT.keep0 hA hk3
  replace hK0 := Keep.tr hK0 (Keep.ofNone hk3); have hzhK0 := Keep.size hK0
  have hzhk3 := Keep.size hk3
  refine V_seq ?_
  refine V_seq ?_
  refine V_region ?_
  refine OI_static 4 [(0, .pointer (some ⟨g, 0, none⟩)), (1, .int .i64 nm), (5, .int .i64 ((i : Nat) : Int)), (6, .int .i64 ((i : Nat) : Int)), (9, .pointer (some ⟨g, 0, none⟩))] (by kernel_rfl) ?_
  refine OI_cell 31 (.tmp 9) 0 (.slice A ts.length cap) (some 10) (by kernel_rfl) (by kernel_rfl) hg (m := 1) (by kernel_rfl) rfl ?_
  refine OI_static 7 [(0, .pointer (some ⟨g, 0, none⟩)), (1, .int .i64 nm), (5, .int .i64 ((i : Nat) : Int)), (12, .bool (decide (((i : Nat) : Int) < ((ts.length : Nat) : Int))))] (by kernel_rfl) ?_
  refine OI_end rfl ?_
  refine X_then ?_
  refine V_if (((i : Nat) : Int) < ((ts.length : Nat) : Int)) (by kernel_rfl) (fun hc5 => ?_) (fun hc5 => ?_)
  · skip
    refine V_skip ?_
    refine X_then ?_
    refine V_seq ?_
    refine V_block ?_
    refine V_seq ?_
    refine V_region ?_
    refine OI_static 3 [(0, .pointer (some ⟨g, 0, none⟩)), (1, .int .i64 nm), (5, .int .i64 ((i : Nat) : Int)), (17, .pointer (some ⟨g, 0, none⟩))] (by kernel_rfl) ?_
    refine OI_cell 31 (.tmp 17) 0 (.slice A ts.length cap) (some 18) (by kernel_rfl) (by kernel_rfl) hg (m := 1) (by kernel_rfl) rfl ?_
    refine OI_static 5 [(0, .pointer (some ⟨g, 0, none⟩)), (1, .int .i64 nm), (5, .int .i64 ((i : Nat) : Int)), (18, .slice A ts.length cap), (19, .int .i64 ((i : Nat) : Int))] (by kernel_rfl) ?_
    obtain ⟨b6, o6, L6, T6, rfl, hat6⟩ := SlT.open_ hA (by first | omega | (simp only [List.length_map]; omega) | (simp; done) | (simp; omega))
    have hb6lt := hat6.blk.lt
    have hob7 := hAg b6 ⟨_, rfl, rfl⟩
    have hob8 := hltA b6 ⟨_, rfl, rfl⟩
    refine OI_pure (some 20) (.indexAddr 31 (.tmp 18) (.tmp 19)) (by kernel_rfl) (pure_idxN (b := b6) (o := o6) (len := ts.length) (cap := cap) (kd := .i64) (j := i) (E := 28) (sz := 36) (by_ := 64) (by kernel_rfl) (by kernel_rfl) (by kernel_rfl) (by omega)) ?_
    refine OI_static 7 [(0, .pointer (some ⟨g, 0, none⟩)), (1, .int .i64 nm), (5, .int .i64 ((i : Nat) : Int)), (21, .pointer (some ⟨b6, o6 + i * 36, none⟩))] (by kernel_rfl) ?_
    obtain ⟨x9, hx10⟩ : ∃ x, ts[i]? = some x := ⟨_, List.getElem?_eq_getElem (by first | omega | (simp only [List.length_map]; omega))⟩
    refine OI_cell 3 (.tmp 21) (o6 + i * 36) (.int .i64 x9.name) (some 22) (by kernel_rfl) (by kernel_rfl) hat6.blk (m := 1) (by kernel_rfl) (At.cell0 hat6 (es_at hx10) rfl) ?_
    refine OI_static 10 [(0, .pointer (some ⟨g, 0, none⟩)), (1, .int .i64 nm), (5, .int .i64 ((i : Nat) : Int)), (24, .bool (decide (x9.name = nm)))] (by kernel_rfl) ?_
    refine OI_end rfl ?_
    refine X_then ?_
    refine V_if (x9.name = nm) (by kernel_rfl) (fun hc11 => ?_) (fun hc11 => ?_)
    · skip
      generalize hAe : (some (Addr.mk b6 o6 none) : Option Addr) = A at *
      refine V_seq ?_
      refine V_draws (acts [1, 8, 16, 19]) (fun q => q ≠ g) [[1, 2, 3, 4, 5, 6, 7, 8, 9, 10, 11, 12, 13, 14, 15, 16, 0, 17, 18, 19]] (by kernel_rfl) (by repeat first | exact sure_body (by rintro _ _ ⟨h, _⟩; exact ⟨_, h⟩) | refine sure_then ?_ | refine sure_block ?_ | refine sure_join ?_) (by kernel_rfl) ?_
      intro w13 hk12 he14 L hL15
      have hsz16 := Keep.size hk12
      replace hg := hg.keep hk12 (fun f => f)
      have hglt := hg.lt
      replace hA := SlT.keep0 hA hk12
      replace hK0 := Keep.tr hK0 (Keep.ofNone hk12); have hzhK0 := Keep.size hK0
      have qhg := hg
      have K17 : Keep (fun q => q ≠ g) w13 w13 := Keep.refl _ _
      obtain rfl := List.mem_singleton.1 hL15
      refine GI_slit (E := 28) (zv := .agg #[.int .i64 0, .int .i64 0, .int .i64 0, .int .u8 0, .int .u8 0, .int .u8 0, .int .u8 0, .int .u8 0, .int .u8 0, .int .u8 0, .int .u8 0, .int .u8 0, .int .u8 0, .int .u8 0, .int .u8 0, .int .u8 0, .int .u8 0, .int .u8 0, .int .u8 0, .int .u8 0, .int .u8 0, .int .u8 0, .int .u8 0, .int .u8 0, .int .u8 0, .int .u8 0, .int .u8 0, .int .u8 0, .int .u8 0, .int .u8 0, .int .u8 0, .int .u8 0, .int .u8 0, .int .u8 0, .int .u8 0, .int .i64 0]) (sz := 36) (by_ := 64) 31 0 #[] [] [] (some 26) (by kernel_rfl) (by kernel_rfl) K17 (by kernel_rfl) (by kernel_rfl) (by omega) rfl (by omega) (by intro v hv; cases hv) (by kernel_rfl) rfl ?_
      intro b18 w18 e18 hb18 k18 z18 K19
      have hsz20 := Keep.size k18
      replace hg := hg.keep k18 (fun f => f)
      have hglt := hg.lt
      replace hA := SlT.keep0 hA k18
      replace hK0 := Keep.tr hK0 (Keep.ofNone k18); have hzhK0 := Keep.size hK0
      have hb18lt := hb18.lt
      refine GI_static [5, 6, 7, 8, 9, 10, 11, 12, 13, 14, 15, 16, 0, 17, 18, 19] [(0, .pointer (some ⟨g, 0, none⟩)), (5, .int .i64 ((i : Nat) : Int)), (26, .slice (some ⟨b18, 0, none⟩) 0 0), (29, .pointer (some ⟨g, 0, none⟩))] (by kernel_rfl) ?_
      refine GI_cell 31 (.tmp 29) 0 (.slice A ts.length cap) (some 30) (by kernel_rfl) (by kernel_rfl) (by kernel_rfl) qhg (by show ¬ (g ≠ g); omega) (m := 1) (by kernel_rfl) rfl ?_
      refine GI_static [7, 8, 9, 10, 11, 12, 13, 14, 15, 16, 0, 17, 18, 19] [(0, .pointer (some ⟨g, 0, none⟩)), (5, .int .i64 ((i : Nat) : Int)), (26, .slice (some ⟨b18, 0, none⟩) 0 0), (30, .slice A ts.length cap), (31, .int .i64 ((i : Nat) : Int))] (by kernel_rfl) ?_
      refine GI_pure (some 32) ((Op.slice 31 (Operand.tmp 30) none (some (Operand.tmp 31)) none)) (by kernel_rfl) (by kernel_rfl) (pure_sliceTo (E := 28) (sz := 36) (by_ := 64) (base := A) (len := ts.length) (cap := cap) (h := i) (kd := .i64) (by kernel_rfl) (by kernel_rfl) (by kernel_rfl) (by omega)) ?_
      have hl21 : (ts.take i).length = i := by rw [List.length_take]; omega
      have hy21 := (SlT.to hA (i := i) (by omega)).slr
      rw [hl21] at hy21
      refine GI_append (t := 31) (at2 := 31) (E := 28) (E2 := 28) (sz := 36) (by_ := 64) (zv := .agg #[.int .i64 0, .int .i64 0, .int .i64 0, .int .u8 0, .int .u8 0, .int .u8 0, .int .u8 0, .int .u8 0, .int .u8 0, .int .u8 0, .int .u8 0, .int .u8 0, .int .u8 0, .int .u8 0, .int .u8 0, .int .u8 0, .int .u8 0, .int .u8 0, .int .u8 0, .int .u8 0, .int .u8 0, .int .u8 0, .int .u8 0, .int .u8 0, .int .u8 0, .int .u8 0, .int .u8 0, .int .u8 0, .int .u8 0, .int .u8 0, .int .u8 0, .int .u8 0, .int .u8 0, .int .u8 0, .int .u8 0, .int .i64 0]) (m := ([] : List Tk).length) (k := i) (.tmp 26) (.tmp 32) (.slice (some ⟨b18, 0, none⟩) 0 0) (.slice A i cap) (some 33) (by kernel_rfl) (by kernel_rfl) (by kernel_rfl) (by kernel_rfl) (by kernel_rfl) (by kernel_rfl) (by kernel_rfl) (by kernel_rfl) (SlT.slr (slt_blk (xs := ([] : List Tk)) (f := Tk.cells) (sz := 36) hb18 Tk.len rfl)) hy21 (fun u hu => by obtain ⟨z, _, hz⟩ := List.mem_flatMap.1 hu; exact Tk.one z u hz) (by first | omega | ((repeat first | rw [List.length_append] | rw [List.length_cons] | rw [List.length_nil] | rw [List.length_take] | rw [List.length_drop]) <;> omega)) (by omega) (by first | omega | ((repeat first | rw [List.length_append] | rw [List.length_cons] | rw [List.length_nil] | rw [List.length_take] | rw [List.length_drop]) <;> omega)) (by omega) ?_
      intro vv9 w21 hap
      obtain ⟨A21, cap21, rfl, hA21, hk21, own21x⟩ := app_many (f := Tk.cells) (xs := ([] : List Tk)) (ys := (ts.take i)) (A := (some ⟨b18, 0, none⟩)) (cap := 0) hap hl21 Tk.len
      replace hk21 : Keep (only b18) w18 w21 := hk21.mono (fun i _ h => inA_some h)
      have own21 : ∀ q, inA A21 q → w.heap.size ≤ q := fun q hq => by rcases own21x q hq with h | h; (have h9 := inA_some h; show w.heap.size ≤ q; omega); (show w.heap.size ≤ q; omega)
      refine ⟨Keep.fresh K19 hk21 (by intro i hi hs; have hs2 : i = b18 := hs; show i ≠ g; omega), ?_⟩
      have K22 := Keep.fresh K19 hk21 (by intro i hi hs; have hs2 : i = b18 := hs; show i ≠ g; omega)
      rw [List.nil_append] at hA21
      have hsz23 := Keep.size hk21
      replace hg := hg.keep hk21 (by show ¬ (_ = _); omega)
      have hglt := hg.lt
      replace hA := SlT.keep hA hk21 (fun q hq hs => by have hs : q = b18 := hs; have g0 := hAg q hq; have g1 := hltA q hq; omega)
      replace hK0 := Keep.fresh hK0 hk21 (by intro i hi hs; have hs2 : i = b18 := hs; first | (exfalso; omega) | (rw [hs2]; exact hFg)); have hzhK0 := Keep.size hK0
      have lt21 := SlT.lt hA21
      have hcap21 := SlT.cap_le hA21
      refine GI_static [12, 13, 14, 15, 16, 0, 17, 18, 19] [(0, .pointer (some ⟨g, 0, none⟩)), (5, .int .i64 ((i : Nat) : Int)), (33, .slice A21 ((ts.take i).length) cap21), (36, .pointer (some ⟨g, 0, none⟩))] (by kernel_rfl) ?_
      refine GI_cell 31 (.tmp 36) 0 (.slice A ts.length cap) (some 37) (by kernel_rfl) (by kernel_rfl) (by kernel_rfl) qhg (by show ¬ (g ≠ g); omega) (m := 1) (by kernel_rfl) rfl ?_
      have hw24 : IntKind.i64.wrap (((i : Nat) : Int) + 1) = ((i + 1 : Nat) : Int) := (wrap64_id (by omega) (by omega)).trans (by omega)
      refine GI_static [15, 16, 0, 17, 18, 19] [(0, .pointer (some ⟨g, 0, none⟩)), (33, .slice A21 ((ts.take i).length) cap21), (37, .slice A ts.length cap), (39, .int .i64 (IntKind.i64.wrap (((i : Nat) : Int) + 1)))] (by kernel_rfl) ?_
      refine GI_eq [(0, .pointer (some ⟨g, 0, none⟩)), (33, .slice A21 ((ts.take i).length) cap21), (37, .slice A ts.length cap), (39, .int .i64 ((i + 1 : Nat) : Int))] (by rw [hw24]) ?_
      refine GI_pure (some 40) ((Op.slice 31 (Operand.tmp 37) (some (Operand.tmp 39)) none none)) (by kernel_rfl) (by kernel_rfl) (pure_sliceSuf (E := 28) (sz := 36) (by_ := 64) (A := A) (len := ts.length) (cap := cap) (l := i + 1) (kd := .i64) (by kernel_rfl) (by kernel_rfl) (by kernel_rfl) (by omega) (by omega)) ?_
      have hl25 : (ts.drop (i + 1)).length = ts.length - (i + 1) := List.length_drop
      have hy25 := (SlT.from_ hA (i := i + 1) (by omega)).slr
      rw [hl25] at hy25
      refine GI_append (t := 31) (at2 := 31) (E := 28) (E2 := 28) (sz := 36) (by_ := 64) (zv := .agg #[.int .i64 0, .int .i64 0, .int .i64 0, .int .u8 0, .int .u8 0, .int .u8 0, .int .u8 0, .int .u8 0, .int .u8 0, .int .u8 0, .int .u8 0, .int .u8 0, .int .u8 0, .int .u8 0, .int .u8 0, .int .u8 0, .int .u8 0, .int .u8 0, .int .u8 0, .int .u8 0, .int .u8 0, .int .u8 0, .int .u8 0, .int .u8 0, .int .u8 0, .int .u8 0, .int .u8 0, .int .u8 0, .int .u8 0, .int .u8 0, .int .u8 0, .int .u8 0, .int .u8 0, .int .u8 0, .int .u8 0, .int .i64 0]) (m := (ts.take i).length) (k := ts.length - (i + 1)) (.tmp 33) (.tmp 40) (.slice A21 ((ts.take i).length) cap21) (.slice (sufA A cap (i + 1) 36) (ts.length - (i + 1)) (cap - (i + 1))) (some 41) (by kernel_rfl) (by kernel_rfl) (by kernel_rfl) (by kernel_rfl) (by kernel_rfl) (by kernel_rfl) (by kernel_rfl) (by kernel_rfl) (SlT.slr hA21) hy25 (fun u hu => by obtain ⟨z, _, hz⟩ := List.mem_flatMap.1 hu; exact Tk.one z u hz) (by first | omega | ((repeat first | rw [List.length_append] | rw [List.length_cons] | rw [List.length_nil] | rw [List.length_take] | rw [List.length_drop]) <;> omega)) (by omega) (by first | omega | ((repeat first | rw [List.length_append] | rw [List.length_cons] | rw [List.length_nil] | rw [List.length_take] | rw [List.length_drop]) <;> omega)) (by omega) ?_
      intro vv9 w25 hap
      obtain ⟨A25, cap25, rfl, hA25, hk25, own25x⟩ := app_many (f := Tk.cells) (xs := (ts.take i)) (ys := (ts.drop (i + 1))) (A := A21) (cap := cap21) hap hl25 Tk.len
      have own25 : ∀ q, inA A25 q → w.heap.size ≤ q := fun q hq => by rcases own25x q hq with h | h; (have h8 := own21 q h; have h9 := lt21 q h; show w.heap.size ≤ q; omega); (show w.heap.size ≤ q; omega)
      refine ⟨Keep.fresh K22 hk25 (by intro i hi hs; have h1 := own21 i hs; have h2 := lt21 i hs; show i ≠ g; omega), ?_⟩
      have K26 := Keep.fresh K22 hk25 (by intro i hi hs; have h1 := own21 i hs; have h2 := lt21 i hs; show i ≠ g; omega)
      have hsz27 := Keep.size hk25
      replace hg := hg.keep hk25 (fun hs => by have h1 := own21 _ hs; have h2 := lt21 _ hs; omega)
      have hglt := hg.lt
      replace hA := SlT.keep hA hk25 (fun q hq hs => by have g0 := hAg q hq; have g1 := hltA q hq; have h1 := own21 q hs; have h2 := lt21 q hs; omega)
      replace hK0 := Keep.fresh hK0 hk25 (by intro i hi hs; first | exact hs | (exfalso; have h1 := own21 i hs; have h2 := lt21 i hs; omega) | (have h1 := own21 i hs; have h2 := lt21 i hs; show _ ∨ _; omega)); have hzhK0 := Keep.size hK0
      have lt25 := SlT.lt hA25
      have hcap25 := SlT.cap_le hA25
      refine GI_static [19] [(41, .slice A25 (((ts.take i) ++ (ts.drop (i + 1))).length) cap25), (43, .pointer (some ⟨g, 0, none⟩))] (by kernel_rfl) ?_
      refine GI_final 19 (by kernel_rfl) (by kernel_rfl) ?_
      refine OI_set (m := 1) (kd := false) 31 (.tmp 43) (.tmp 41) 0 (.slice A25 (((ts.take i) ++ (ts.drop (i + 1))).length) cap25) [.slice A25 (((ts.take i) ++ (ts.drop (i + 1))).length) cap25] none (by kernel_rfl) (by kernel_rfl) (by kernel_rfl) hg (by kernel_rfl) (by kernel_rfl) (by kernel_rfl) (Nat.le_of_ble_eq_true (by kernel_rfl)) (by simp [Value.oneCell']) ?_
      intro w28 hg_31 hk29 hz30
      replace hg_31 : Blk w28 g [.slice A25 (((ts.take i) ++ (ts.drop (i + 1))).length) cap25] 46 := hg_31
      have hsz32 := Keep.size hk29
      replace hA := SlT.keep hA hk29 (fun q hq hs => by have hs : q = g := hs; have g0 := hAg q hq; have g1 := hltA q hq; omega)
      replace hA25 := SlT.keep hA25 hk29 (fun q hq hs => by have hs : q = g := hs; have g0 := own25 q hq; have g1 := lt25 q hq; omega)
      replace hK0 := Keep.fresh hK0 hk29 (by intro i hi hs; have hs2 : i = g := hs; first | (exfalso; omega) | (rw [hs2]; exact hFg)); have hzhK0 := Keep.size hK0
      refine OI_end rfl ?_
      refine X_then ?_
      refine V_seq ?_
      refine V_region ?_
      refine OI_static 1 [(4, .bool true)] (by kernel_rfl) ?_
      refine OI_end rfl ?_
      refine X_then ?_
      refine V_ret ?_
      refine X_ret_block ?_
      refine X_ret_then ?_
      refine X_ret_then ?_
      refine X_ret_block ?_
      refine X_ret_then ?_
      obtain ⟨ha, hd⟩ := del_first nm ts i _ hx10 (by assumption) hbef
      have hdl := del_len nm ts
      have hE : ((ts.take i) ++ (ts.drop (i + 1))) = del nm ts := hd
      rw [hE] at hA25
      rw [ha]
      exact X_return (.bool true) rfl ⟨rfl, ⟨moreT F w w28, ⟨by omega, .inl hFg, (fun q hq => by rcases hq with hq | hq; (have h9 := hFlt q hq; omega); exact hq.2), A25, cap25, ⟨by have h9 := hg_31; rw [hE] at h9; exact h9, hA25, fun hh => by have h9 := own25 g hh; omega⟩, fun q hq => .inr ⟨by have h9 := own25 q hq; omega, by have h9 := lt25 q hq; omega⟩⟩, fun q hq => hq.imp id (·.1)⟩, hK0⟩
    · skip
      refine V_skip ?_
      refine X_block ?_
      refine X_then ?_
      refine V_region ?_
      have hw33 : IntKind.i64.wrap (((i : Nat) : Int) + 1) = ((i + 1 : Nat) : Int) := (wrap64_id (by omega) (by omega)).trans (by omega)
      refine OI_static 2 [(0, .pointer (some ⟨g, 0, none⟩)), (1, .int .i64 nm), (14, .int .i64 (IntKind.i64.wrap (((i : Nat) : Int) + 1)))] (by kernel_rfl) ?_
      refine OI_eq [(0, .pointer (some ⟨g, 0, none⟩)), (1, .int .i64 nm), (14, .int .i64 ((i + 1 : Nat) : Int))] (by rw [hw33]) ?_
      refine OI_static 3 [(0, .pointer (some ⟨g, 0, none⟩)), (1, .int .i64 nm), (5, .int .i64 ((i + 1 : Nat) : Int))] (by kernel_rfl) ?_
      refine OI_end rfl ?_
      exact V_again (k2 - 1) (by omega) [(0, .pointer (some ⟨g, 0, none⟩)), (1, .int .i64 nm), (5, .int .i64 ((i + 1 : Nat) : Int))] rfl ⟨i + 1, by omega, fun j y hj hy => by rcases Nat.lt_or_ge j i with h9 | h9; exact hbef j y h9 hy; (obtain rfl : j = i := by omega); rw [hx10] at hy; cases hy; assumption, hk3, rfl⟩
  · skip
    refine V_exit ?_
    refine X_exit_then ?_
    refine X_exit_then ?_
    refine X_exit_here ?_
    refine X_then ?_
    refine V_seq ?_
    refine V_region ?_
    refine OI_static 1 [(4, .bool false)] (by kernel_rfl) ?_
    refine OI_end rfl ?_
    refine X_then ?_
    refine V_ret ?_
    obtain ⟨ha, hd⟩ := del_none nm ts (fun j y hj hy => hbef j y (by omega) hy)
    rw [ha, hd]
    exact X_return (.bool false) rfl ⟨rfl, ⟨F, ⟨hlen, hFg, (fun q hq => Nat.lt_of_lt_of_le (hFlt q hq) (by omega)), A, cap, ⟨hg, hA, hgA⟩, hAF⟩, fun q h => .inl h⟩, hK0⟩
end Go.Al

