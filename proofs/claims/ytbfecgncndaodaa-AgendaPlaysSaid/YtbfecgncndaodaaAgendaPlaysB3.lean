/-
  Put together out of 6 texts: Walks of the document's agenda: Due. Walks of the document's agenda: Put. The laws of the agenda: acts. The rest of a division by what is not nought. Walks of the laws of the agenda: whatever is played. The laws of the agenda: whatever is played, of what is read.
-/
import Derived.Test.YtbfecgncndaodaaAgendaPlaysB2
namespace Go.Al
open Go Go.RowKit Go.Proofs
set_option maxRecDepth 10000 in
theorem rdue_spec (F : Nat → Prop) (g : Nat) (ts : List Tk) (now most : Int) (w : World) (h : Rf F w g ts) : Calls Try.prog 21 #[.pointer (some ⟨g, 0, none⟩), .int .i64 now, .int .i64 most] w fun e w' => ∃ A' cap', e = .returned (.slice A' (ts.take (dueN now most ts)).length cap') ∧ SlT w' 36 Tk.cells A' cap' (ts.take (dueN now most ts)) ∧ (∃ F', Rf F' w' g (ts.drop (dueN now most ts)) ∧ (∀ q, F' q → F q ∨ w.heap.size ≤ q)) ∧ Keep F w w' ∧ (∀ q, inA A' q → w.heap.size ≤ q) := by
  obtain ⟨hlen, hFg, hFlt, A, cap, h, hAF⟩ := h
  have hgA := h.off
  have hg := h.blk
  have hA := h.sl
  have hglt := hg.lt
  have hltA := SlT.lt hA
  have hAg : ∀ q, inA A q → q ≠ g := fun q hq he => hgA (he ▸ hq)
  have hcapA := SlT.cap_le hA
  have hK0 : Keep F w w := Keep.refl _ _
  have hzhK0 := Keep.size hK0
  refine enterV Try.func21 rfl [.pointer (some ⟨g, 0, none⟩), .int .i64 now, .int .i64 most] 55 rfl rfl rfl ?_
  refine V_pick [(0, .pointer (some ⟨g, 0, none⟩)), (1, .int .i64 now), (2, .int .i64 most)] rfl ?_
  refine V_seq ?_
  refine V_region ?_
  refine OI_static 1 [(0, .pointer (some ⟨g, 0, none⟩)), (1, .int .i64 now), (2, .int .i64 most)] (by kernel_rfl) ?_
  refine OI_end rfl ?_
  refine X_then ?_
  refine V_seq ?_
  refine V_region ?_
  refine OI_static 1 [(0, .pointer (some ⟨g, 0, none⟩)), (1, .int .i64 now), (2, .int .i64 most), (7, .int .i64 0)] (by kernel_rfl) ?_
  refine OI_end rfl ?_
  refine X_then ?_
  refine V_seq ?_
  refine V_block ?_
  refine V_pick [(0, .pointer (some ⟨g, 0, none⟩)), (1, .int .i64 now), (2, .int .i64 most), (7, .int .i64 0)] rfl ?_
  refine V_loop (fun k wI e => ∃ n : Nat, (k + n = ts.length) ∧ (n = 0 ∨ (n : Int) ≤ most) ∧ (∀ (j : Nat) y, j < n → ts[j]? = some y → y.at_ ≤ now) ∧ Keep none_ w wI ∧ e = [(0, .pointer (some ⟨g, 0, none⟩)), (1, .int .i64 now), (2, .int .i64 most), (7, .int .i64 ((n : Nat) : Int))]) ts.length ⟨0, rfl, .inl rfl, fun j y hj => absurd hj (Nat.not_lt_zero _), Keep.refl _ _, rfl⟩ ?_
  rintro k2 w1 _ ⟨n, hkn, hmost, hbef, hk3, rfl⟩
  have hsz4 := Keep.size hk3
  replace hg := hg.keep hk3 (fun f => f)
  have hglt := hg.lt
  replace hA := SlT.keep0 hA hk3
  replace hK0 := Keep.tr hK0 (Keep.ofNone hk3); have hzhK0 := Keep.size hK0
  have hzhk3 := Keep.size hk3
  refine V_seq ?_
  refine V_seq ?_
  refine V_region ?_
  refine OI_static 4 [(0, .pointer (some ⟨g, 0, none⟩)), (1, .int .i64 now), (2, .int .i64 most), (7, .int .i64 ((n : Nat) : Int)), (9, .int .i64 ((n : Nat) : Int)), (12, .pointer (some ⟨g, 0, none⟩))] (by kernel_rfl) ?_
  refine OI_cell 31 (.tmp 12) 0 (.slice A ts.length cap) (some 13) (by kernel_rfl) (by kernel_rfl) hg (m := 1) (by kernel_rfl) rfl ?_
  refine OI_static 8 [(0, .pointer (some ⟨g, 0, none⟩)), (1, .int .i64 now), (2, .int .i64 most), (7, .int .i64 ((n : Nat) : Int)), (16, .bool (decide (((n : Nat) : Int) < ((ts.length : Nat) : Int))))] (by kernel_rfl) ?_
  by_cases hg5 : ((n : Nat) : Int) < ((ts.length : Nat) : Int)
  · skip
    refine OI_eq [(0, .pointer (some ⟨g, 0, none⟩)), (1, .int .i64 now), (2, .int .i64 most), (7, .int .i64 ((n : Nat) : Int)), (16, .bool true)] (by first | simp [hg5] | rfl) ?_
    refine OI_static 13 [(0, .pointer (some ⟨g, 0, none⟩)), (1, .int .i64 now), (2, .int .i64 most), (7, .int .i64 ((n : Nat) : Int)), (17, .int .i64 ((n : Nat) : Int)), (18, .int .i64 most), (19, .bool (decide (((n : Nat) : Int) < most))), (21, .bool (decide (((n : Nat) : Int) < most)))] (by kernel_rfl) ?_
    by_cases hg6 : ((n : Nat) : Int) < most
    · skip
      refine OI_eq [(0, .pointer (some ⟨g, 0, none⟩)), (1, .int .i64 now), (2, .int .i64 most), (7, .int .i64 ((n : Nat) : Int)), (17, .int .i64 ((n : Nat) : Int)), (18, .int .i64 most), (19, .bool (decide (((n : Nat) : Int) < most))), (21, .bool true)] (by first | simp [hg6] | rfl) ?_
      refine OI_static 16 [(0, .pointer (some ⟨g, 0, none⟩)), (1, .int .i64 now), (2, .int .i64 most), (7, .int .i64 ((n : Nat) : Int)), (17, .int .i64 ((n : Nat) : Int)), (18, .int .i64 most), (19, .bool (decide (((n : Nat) : Int) < most))), (21, .bool true), (22, .pointer (some ⟨g, 0, none⟩)), (23, .pointer (some ⟨g, 0, none⟩)), (24, .pointer (some ⟨g, 0, none⟩))] (by kernel_rfl) ?_
      refine OI_cell 31 (.tmp 24) 0 (.slice A ts.length cap) (some 25) (by kernel_rfl) (by kernel_rfl) hg (m := 1) (by kernel_rfl) rfl ?_
      refine OI_static 18 [(0, .pointer (some ⟨g, 0, none⟩)), (1, .int .i64 now), (2, .int .i64 most), (7, .int .i64 ((n : Nat) : Int)), (17, .int .i64 ((n : Nat) : Int)), (18, .int .i64 most), (19, .bool (decide (((n : Nat) : Int) < most))), (21, .bool true), (22, .pointer (some ⟨g, 0, none⟩)), (23, .pointer (some ⟨g, 0, none⟩)), (24, .pointer (some ⟨g, 0, none⟩)), (25, .slice A ts.length cap), (26, .int .i64 ((n : Nat) : Int))] (by kernel_rfl) ?_
      obtain ⟨b7, o7, L7, T7, rfl, hat7⟩ := SlT.open_ hA (by first | omega | (simp only [List.length_map]; omega) | (simp; done) | (simp; omega))
      have hb7lt := hat7.blk.lt
      have hob8 := hAg b7 ⟨_, rfl, rfl⟩
      have hob9 := hltA b7 ⟨_, rfl, rfl⟩
      refine OI_pure (some 27) (.indexAddr 31 (.tmp 25) (.tmp 26)) (by kernel_rfl) (pure_idxN (b := b7) (o := o7) (len := ts.length) (cap := cap) (kd := .i64) (j := n) (E := 28) (sz := 36) (by_ := 64) (by kernel_rfl) (by kernel_rfl) (by kernel_rfl) (by omega)) ?_
      refine OI_static 20 [(0, .pointer (some ⟨g, 0, none⟩)), (1, .int .i64 now), (2, .int .i64 most), (7, .int .i64 ((n : Nat) : Int)), (17, .int .i64 ((n : Nat) : Int)), (18, .int .i64 most), (19, .bool (decide (((n : Nat) : Int) < most))), (21, .bool true), (22, .pointer (some ⟨g, 0, none⟩)), (23, .pointer (some ⟨g, 0, none⟩)), (24, .pointer (some ⟨g, 0, none⟩)), (25, .slice (some ⟨b7, o7, none⟩) ts.length cap), (26, .int .i64 ((n : Nat) : Int)), (27, .pointer (some ⟨b7, o7 + n * 36, none⟩)), (28, .pointer (some ⟨b7, o7 + n * 36 + 1, none⟩))] (by kernel_rfl) ?_
      obtain ⟨x10, hx11⟩ : ∃ x, ts[n]? = some x := ⟨_, List.getElem?_eq_getElem (by first | omega | (simp only [List.length_map]; omega))⟩
      refine OI_cell 3 (.tmp 28) (o7 + n * 36 + 1) (.int .i64 x10.at_) (some 29) (by kernel_rfl) (by kernel_rfl) hat7.blk (m := 1) (by kernel_rfl) (At.cell hat7 (es_at hx11) rfl) ?_
      refine OI_static 24 [(0, .pointer (some ⟨g, 0, none⟩)), (1, .int .i64 now), (2, .int .i64 most), (7, .int .i64 ((n : Nat) : Int)), (17, .int .i64 ((n : Nat) : Int)), (18, .int .i64 most), (19, .bool (decide (((n : Nat) : Int) < most))), (22, .pointer (some ⟨g, 0, none⟩)), (23, .pointer (some ⟨g, 0, none⟩)), (24, .pointer (some ⟨g, 0, none⟩)), (25, .slice (some ⟨b7, o7, none⟩) ts.length cap), (26, .int .i64 ((n : Nat) : Int)), (27, .pointer (some ⟨b7, o7 + n * 36, none⟩)), (28, .pointer (some ⟨b7, o7 + n * 36 + 1, none⟩)), (29, .int .i64 x10.at_), (30, .int .i64 now), (31, .bool (decide (x10.at_ ≤ now))), (32, .bool (decide (x10.at_ ≤ now)))] (by kernel_rfl) ?_
      refine OI_end rfl ?_
      refine X_then ?_
      refine V_if (x10.at_ ≤ now) (by kernel_rfl) (fun hc12 => ?_) (fun hc12 => ?_)
      · skip
        refine V_skip ?_
        refine X_then ?_
        refine V_block ?_
        refine V_region ?_
        have hw13 : IntKind.i64.wrap (((n : Nat) : Int) + 1) = ((n + 1 : Nat) : Int) := (wrap64_id (by omega) (by omega)).trans (by omega)
        refine OI_static 2 [(0, .pointer (some ⟨g, 0, none⟩)), (1, .int .i64 now), (2, .int .i64 most), (17, .int .i64 ((n : Nat) : Int)), (18, .int .i64 most), (19, .bool (decide (((n : Nat) : Int) < most))), (22, .pointer (some ⟨g, 0, none⟩)), (23, .pointer (some ⟨g, 0, none⟩)), (24, .pointer (some ⟨g, 0, none⟩)), (25, .slice (some ⟨b7, o7, none⟩) ts.length cap), (26, .int .i64 ((n : Nat) : Int)), (27, .pointer (some ⟨b7, o7 + n * 36, none⟩)), (28, .pointer (some ⟨b7, o7 + n * 36 + 1, none⟩)), (29, .int .i64 x10.at_), (30, .int .i64 now), (31, .bool (decide (x10.at_ ≤ now))), (34, .int .i64 (IntKind.i64.wrap (((n : Nat) : Int) + 1)))] (by kernel_rfl) ?_
        refine OI_eq [(0, .pointer (some ⟨g, 0, none⟩)), (1, .int .i64 now), (2, .int .i64 most), (17, .int .i64 ((n : Nat) : Int)), (18, .int .i64 most), (19, .bool (decide (((n : Nat) : Int) < most))), (22, .pointer (some ⟨g, 0, none⟩)), (23, .pointer (some ⟨g, 0, none⟩)), (24, .pointer (some ⟨g, 0, none⟩)), (25, .slice (some ⟨b7, o7, none⟩) ts.length cap), (26, .int .i64 ((n : Nat) : Int)), (27, .pointer (some ⟨b7, o7 + n * 36, none⟩)), (28, .pointer (some ⟨b7, o7 + n * 36 + 1, none⟩)), (29, .int .i64 x10.at_), (30, .int .i64 now), (31, .bool (decide (x10.at_ ≤ now))), (34, .int .i64 ((n + 1 : Nat) : Int))] (by rw [hw13]) ?_
        refine OI_static 3 [(0, .pointer (some ⟨g, 0, none⟩)), (1, .int .i64 now), (2, .int .i64 most), (7, .int .i64 ((n + 1 : Nat) : Int)), (17, .int .i64 ((n : Nat) : Int)), (18, .int .i64 most), (19, .bool (decide (((n : Nat) : Int) < most))), (22, .pointer (some ⟨g, 0, none⟩)), (23, .pointer (some ⟨g, 0, none⟩)), (24, .pointer (some ⟨g, 0, none⟩)), (25, .slice (some ⟨b7, o7, none⟩) ts.length cap), (26, .int .i64 ((n : Nat) : Int)), (27, .pointer (some ⟨b7, o7 + n * 36, none⟩)), (28, .pointer (some ⟨b7, o7 + n * 36 + 1, none⟩)), (29, .int .i64 x10.at_), (30, .int .i64 now), (31, .bool (decide (x10.at_ ≤ now)))] (by kernel_rfl) ?_
        refine OI_end rfl ?_
        refine X_block ?_
        exact V_again (k2 - 1) (by omega) [(0, .pointer (some ⟨g, 0, none⟩)), (1, .int .i64 now), (2, .int .i64 most), (7, .int .i64 ((n + 1 : Nat) : Int))] rfl ⟨n + 1, by omega, .inr (by omega), fun j y hj hy => by rcases Nat.lt_or_ge j n with h | h; exact hbef j y h hy; (obtain rfl : j = n := by omega); rw [hx11] at hy; cases hy; assumption, hk3, rfl⟩
      · skip
        have hend : n = ts.length ∨ most ≤ n ∨ ∃ y, ts[n]? = some y ∧ now < y.at_ := .inr (.inr ⟨_, hx11, by omega⟩)
        generalize hAe : (some (Addr.mk b7 o7 none) : Option Addr) = A at *
        refine V_exit ?_
        refine X_exit_then ?_
        refine X_exit_then ?_
        refine X_exit_here ?_
        refine X_then ?_
        refine V_seq ?_
        refine V_region ?_
        refine OI_slit (E := 28) (zv := .agg #[.int .i64 0, .int .i64 0, .int .i64 0, .int .u8 0, .int .u8 0, .int .u8 0, .int .u8 0, .int .u8 0, .int .u8 0, .int .u8 0, .int .u8 0, .int .u8 0, .int .u8 0, .int .u8 0, .int .u8 0, .int .u8 0, .int .u8 0, .int .u8 0, .int .u8 0, .int .u8 0, .int .u8 0, .int .u8 0, .int .u8 0, .int .u8 0, .int .u8 0, .int .u8 0, .int .u8 0, .int .u8 0, .int .u8 0, .int .u8 0, .int .u8 0, .int .u8 0, .int .u8 0, .int .u8 0, .int .u8 0, .int .i64 0]) (sz := 36) (by_ := 64) 31 0 #[] [] [] (some 35) (by kernel_rfl) (by kernel_rfl) (by kernel_rfl) (by omega) rfl (by omega) (by intro v hv; cases hv) (by kernel_rfl) rfl ?_
        intro b14 w14 e14 hb14 k14 z14
        have hsz15 := Keep.size k14
        replace hg := hg.keep k14 (fun f => f)
        have hglt := hg.lt
        replace hA := SlT.keep0 hA k14
        replace hK0 := Keep.tr hK0 (Keep.ofNone k14); have hzhK0 := Keep.size hK0
        have hb14lt := hb14.lt
        refine OI_static 4 [(0, .pointer (some ⟨g, 0, none⟩)), (7, .int .i64 ((n : Nat) : Int)), (35, .slice (some ⟨b14, 0, none⟩) 0 0), (38, .pointer (some ⟨g, 0, none⟩))] (by kernel_rfl) ?_
        refine OI_cell 31 (.tmp 38) 0 (.slice A ts.length cap) (some 39) (by kernel_rfl) (by kernel_rfl) hg (m := 1) (by kernel_rfl) rfl ?_
        refine OI_static 6 [(0, .pointer (some ⟨g, 0, none⟩)), (7, .int .i64 ((n : Nat) : Int)), (35, .slice (some ⟨b14, 0, none⟩) 0 0), (39, .slice A ts.length cap), (40, .int .i64 ((n : Nat) : Int))] (by kernel_rfl) ?_
        refine OI_pure (some 41) ((Op.slice 31 (Operand.tmp 39) none (some (Operand.tmp 40)) none)) (by kernel_rfl) (pure_sliceTo (E := 28) (sz := 36) (by_ := 64) (base := A) (len := ts.length) (cap := cap) (h := n) (kd := .i64) (by kernel_rfl) (by kernel_rfl) (by kernel_rfl) (by omega)) ?_
        have hl16 : (ts.take n).length = n := by rw [List.length_take]; omega
        have hy16 := (SlT.to hA (i := n) (by omega)).slr
        rw [hl16] at hy16
        refine OI_append (t := 31) (at2 := 31) (E := 28) (E2 := 28) (sz := 36) (by_ := 64) (zv := .agg #[.int .i64 0, .int .i64 0, .int .i64 0, .int .u8 0, .int .u8 0, .int .u8 0, .int .u8 0, .int .u8 0, .int .u8 0, .int .u8 0, .int .u8 0, .int .u8 0, .int .u8 0, .int .u8 0, .int .u8 0, .int .u8 0, .int .u8 0, .int .u8 0, .int .u8 0, .int .u8 0, .int .u8 0, .int .u8 0, .int .u8 0, .int .u8 0, .int .u8 0, .int .u8 0, .int .u8 0, .int .u8 0, .int .u8 0, .int .u8 0, .int .u8 0, .int .u8 0, .int .u8 0, .int .u8 0, .int .u8 0, .int .i64 0]) (m := ([] : List Tk).length) (k := n) (.tmp 35) (.tmp 41) (.slice (some ⟨b14, 0, none⟩) 0 0) (.slice A n cap) (some 42) (by kernel_rfl) (by kernel_rfl) (by kernel_rfl) (by kernel_rfl) (by kernel_rfl) (by kernel_rfl) (by kernel_rfl) (SlT.slr (slt_blk (xs := ([] : List Tk)) (f := Tk.cells) (sz := 36) hb14 Tk.len rfl)) hy16 (fun u hu => by obtain ⟨z, _, hz⟩ := List.mem_flatMap.1 hu; exact Tk.one z u hz) (by first | omega | ((repeat first | rw [List.length_append] | rw [List.length_cons] | rw [List.length_nil] | rw [List.length_take] | rw [List.length_drop]) <;> omega)) (by omega) (by first | omega | ((repeat first | rw [List.length_append] | rw [List.length_cons] | rw [List.length_nil] | rw [List.length_take] | rw [List.length_drop]) <;> omega)) (by omega) ?_
        intro vv9 w16 hap
        obtain ⟨A16, cap16, rfl, hA16, hk16, own16x⟩ := app_many (f := Tk.cells) (xs := ([] : List Tk)) (ys := (ts.take n)) (A := (some ⟨b14, 0, none⟩)) (cap := 0) hap hl16 Tk.len
        replace hk16 : Keep (only b14) w14 w16 := hk16.mono (fun i _ h => inA_some h)
        have own16 : ∀ q, inA A16 q → w.heap.size ≤ q := fun q hq => by rcases own16x q hq with h | h; (have h9 := inA_some h; show w.heap.size ≤ q; omega); (show w.heap.size ≤ q; omega)
        rw [List.nil_append] at hA16
        have hsz17 := Keep.size hk16
        replace hg := hg.keep hk16 (by show ¬ (_ = _); omega)
        have hglt := hg.lt
        replace hA := SlT.keep hA hk16 (fun q hq hs => by have hs : q = b14 := hs; have g0 := hAg q hq; have g1 := hltA q hq; omega)
        replace hK0 := Keep.fresh hK0 hk16 (by intro i hi hs; have hs2 : i = b14 := hs; first | (exfalso; omega) | (rw [hs2]; exact hFg)); have hzhK0 := Keep.size hK0
        have lt16 := SlT.lt hA16
        have hcap16 := SlT.cap_le hA16
        refine OI_static 9 [(0, .pointer (some ⟨g, 0, none⟩)), (7, .int .i64 ((n : Nat) : Int)), (8, .slice A16 ((ts.take n).length) cap16)] (by kernel_rfl) ?_
        refine OI_end rfl ?_
        refine X_then ?_
        refine V_seq ?_
        refine V_region ?_
        refine OI_static 1 [(0, .pointer (some ⟨g, 0, none⟩)), (7, .int .i64 ((n : Nat) : Int)), (8, .slice A16 ((ts.take n).length) cap16), (43, .pointer (some ⟨g, 0, none⟩))] (by kernel_rfl) ?_
        refine OI_slit (E := 28) (zv := .agg #[.int .i64 0, .int .i64 0, .int .i64 0, .int .u8 0, .int .u8 0, .int .u8 0, .int .u8 0, .int .u8 0, .int .u8 0, .int .u8 0, .int .u8 0, .int .u8 0, .int .u8 0, .int .u8 0, .int .u8 0, .int .u8 0, .int .u8 0, .int .u8 0, .int .u8 0, .int .u8 0, .int .u8 0, .int .u8 0, .int .u8 0, .int .u8 0, .int .u8 0, .int .u8 0, .int .u8 0, .int .u8 0, .int .u8 0, .int .u8 0, .int .u8 0, .int .u8 0, .int .u8 0, .int .u8 0, .int .u8 0, .int .i64 0]) (sz := 36) (by_ := 64) 31 0 #[] [] [] (some 44) (by kernel_rfl) (by kernel_rfl) (by kernel_rfl) (by omega) rfl (by omega) (by intro v hv; cases hv) (by kernel_rfl) rfl ?_
        intro b18 w18 e18 hb18 k18 z18
        have hsz19 := Keep.size k18
        replace hg := hg.keep k18 (fun f => f)
        have hglt := hg.lt
        replace hA := SlT.keep0 hA k18
        replace hA16 := SlT.keep0 hA16 k18
        replace hK0 := Keep.tr hK0 (Keep.ofNone k18); have hzhK0 := Keep.size hK0
        have hb18lt := hb18.lt
        refine OI_static 5 [(7, .int .i64 ((n : Nat) : Int)), (8, .slice A16 ((ts.take n).length) cap16), (43, .pointer (some ⟨g, 0, none⟩)), (44, .slice (some ⟨b18, 0, none⟩) 0 0), (47, .pointer (some ⟨g, 0, none⟩))] (by kernel_rfl) ?_
        refine OI_cell 31 (.tmp 47) 0 (.slice A ts.length cap) (some 48) (by kernel_rfl) (by kernel_rfl) hg (m := 1) (by kernel_rfl) rfl ?_
        refine OI_static 7 [(8, .slice A16 ((ts.take n).length) cap16), (43, .pointer (some ⟨g, 0, none⟩)), (44, .slice (some ⟨b18, 0, none⟩) 0 0), (48, .slice A ts.length cap), (49, .int .i64 ((n : Nat) : Int))] (by kernel_rfl) ?_
        refine OI_pure (some 50) ((Op.slice 31 (Operand.tmp 48) (some (Operand.tmp 49)) none none)) (by kernel_rfl) (pure_sliceSuf (E := 28) (sz := 36) (by_ := 64) (A := A) (len := ts.length) (cap := cap) (l := n) (kd := .i64) (by kernel_rfl) (by kernel_rfl) (by kernel_rfl) (by omega) (by omega)) ?_
        have hl20 : (ts.drop n).length = ts.length - n := List.length_drop
        have hy20 := (SlT.from_ hA (i := n) (by omega)).slr
        rw [hl20] at hy20
        refine OI_append (t := 31) (at2 := 31) (E := 28) (E2 := 28) (sz := 36) (by_ := 64) (zv := .agg #[.int .i64 0, .int .i64 0, .int .i64 0, .int .u8 0, .int .u8 0, .int .u8 0, .int .u8 0, .int .u8 0, .int .u8 0, .int .u8 0, .int .u8 0, .int .u8 0, .int .u8 0, .int .u8 0, .int .u8 0, .int .u8 0, .int .u8 0, .int .u8 0, .int .u8 0, .int .u8 0, .int .u8 0, .int .u8 0, .int .u8 0, .int .u8 0, .int .u8 0, .int .u8 0, .int .u8 0, .int .u8 0, .int .u8 0, .int .u8 0, .int .u8 0, .int .u8 0, .int .u8 0, .int .u8 0, .int .u8 0, .int .i64 0]) (m := ([] : List Tk).length) (k := ts.length - n) (.tmp 44) (.tmp 50) (.slice (some ⟨b18, 0, none⟩) 0 0) (.slice (sufA A cap n 36) (ts.length - n) (cap - n)) (some 51) (by kernel_rfl) (by kernel_rfl) (by kernel_rfl) (by kernel_rfl) (by kernel_rfl) (by kernel_rfl) (by kernel_rfl) (SlT.slr (slt_blk (xs := ([] : List Tk)) (f := Tk.cells) (sz := 36) hb18 Tk.len rfl)) hy20 (fun u hu => by obtain ⟨z, _, hz⟩ := List.mem_flatMap.1 hu; exact Tk.one z u hz) (by first | omega | ((repeat first | rw [List.length_append] | rw [List.length_cons] | rw [List.length_nil] | rw [List.length_take] | rw [List.length_drop]) <;> omega)) (by omega) (by first | omega | ((repeat first | rw [List.length_append] | rw [List.length_cons] | rw [List.length_nil] | rw [List.length_take] | rw [List.length_drop]) <;> omega)) (by omega) ?_
        intro vv9 w20 hap
        obtain ⟨A20, cap20, rfl, hA20, hk20, own20x⟩ := app_many (f := Tk.cells) (xs := ([] : List Tk)) (ys := (ts.drop n)) (A := (some ⟨b18, 0, none⟩)) (cap := 0) hap hl20 Tk.len
        replace hk20 : Keep (only b18) w18 w20 := hk20.mono (fun i _ h => inA_some h)
        have own20 : ∀ q, inA A20 q → w.heap.size ≤ q := fun q hq => by rcases own20x q hq with h | h; (have h9 := inA_some h; show w.heap.size ≤ q; omega); (show w.heap.size ≤ q; omega)
        rw [List.nil_append] at hA20
        have hsz21 := Keep.size hk20
        replace hg := hg.keep hk20 (by show ¬ (_ = _); omega)
        have hglt := hg.lt
        replace hA := SlT.keep hA hk20 (fun q hq hs => by have hs : q = b18 := hs; have g0 := hAg q hq; have g1 := hltA q hq; omega)
        replace hA16 := SlT.keep hA16 hk20 (fun q hq hs => by have hs : q = b18 := hs; have g0 := own16 q hq; have g1 := lt16 q hq; omega)
        replace hK0 := Keep.fresh hK0 hk20 (by intro i hi hs; have hs2 : i = b18 := hs; first | (exfalso; omega) | (rw [hs2]; exact hFg)); have hzhK0 := Keep.size hK0
        have lt20 := SlT.lt hA20
        have hcap20 := SlT.cap_le hA20
        refine OI_static 11 [(8, .slice A16 ((ts.take n).length) cap16), (51, .slice A20 ((ts.drop n).length) cap20), (53, .pointer (some ⟨g, 0, none⟩))] (by kernel_rfl) ?_
        refine OI_set (m := 1) (kd := false) 31 (.tmp 53) (.tmp 51) 0 (.slice A20 ((ts.drop n).length) cap20) [.slice A20 ((ts.drop n).length) cap20] none (by kernel_rfl) (by kernel_rfl) (by kernel_rfl) hg (by kernel_rfl) (by kernel_rfl) (by kernel_rfl) (Nat.le_of_ble_eq_true (by kernel_rfl)) (by simp [Value.oneCell']) ?_
        intro w22 hg_25 hk23 hz24
        replace hg_25 : Blk w22 g [.slice A20 ((ts.drop n).length) cap20] 46 := hg_25
        have hsz26 := Keep.size hk23
        replace hA := SlT.keep hA hk23 (fun q hq hs => by have hs : q = g := hs; have g0 := hAg q hq; have g1 := hltA q hq; omega)
        replace hA16 := SlT.keep hA16 hk23 (fun q hq hs => by have hs : q = g := hs; have g0 := own16 q hq; have g1 := lt16 q hq; omega)
        replace hA20 := SlT.keep hA20 hk23 (fun q hq hs => by have hs : q = g := hs; have g0 := own20 q hq; have g1 := lt20 q hq; omega)
        replace hK0 := Keep.fresh hK0 hk23 (by intro i hi hs; have hs2 : i = g := hs; first | (exfalso; omega) | (rw [hs2]; exact hFg)); have hzhK0 := Keep.size hK0
        refine OI_end rfl ?_
        refine X_then ?_
        refine V_seq ?_
        refine V_region ?_
        refine OI_static 2 [(6, .slice A16 ((ts.take n).length) cap16)] (by kernel_rfl) ?_
        refine OI_end rfl ?_
        refine X_then ?_
        refine V_ret ?_
        have he := dueN_at ts most n (by omega) hmost hbef hend
        rw [← he]
        have hE : (ts.drop n) = ts.drop n := rfl
        rw [hE] at hA20
        have hE1 : (ts.take n) = ts.take n := rfl
        exact X_return (.slice A16 ((ts.take n).length) cap16) rfl ⟨A16, cap16, rfl, hA16, ⟨moreT F w w22, ⟨by rw [List.length_drop]; omega, .inl hFg, (fun q hq => by rcases hq with hq | hq; (have h9 := hFlt q hq; omega); exact hq.2), A20, cap20, ⟨by have h9 := hg_25; rw [hE] at h9; exact h9, hA20, fun hh => by have h9 := own20 g hh; omega⟩, fun q hq => .inr ⟨by have h9 := own20 q hq; omega, by have h9 := lt20 q hq; omega⟩⟩, fun q hq => hq.imp id (·.1)⟩, hK0, fun q hq => by have h9 := own16 q hq; omega⟩
    · skip
      have hend : n = ts.length ∨ most ≤ n ∨ ∃ y, ts[n]? = some y ∧ now < y.at_ := .inr (.inl (by omega))
      refine OI_eq [(0, .pointer (some ⟨g, 0, none⟩)), (1, .int .i64 now), (2, .int .i64 most), (7, .int .i64 ((n : Nat) : Int)), (17, .int .i64 ((n : Nat) : Int)), (18, .int .i64 most), (19, .bool (decide (((n : Nat) : Int) < most))), (21, .bool false)] (by first | simp [hg6] | rfl) ?_
      refine OI_static 24 [(0, .pointer (some ⟨g, 0, none⟩)), (1, .int .i64 now), (2, .int .i64 most), (7, .int .i64 ((n : Nat) : Int)), (17, .int .i64 ((n : Nat) : Int)), (18, .int .i64 most), (19, .bool (decide (((n : Nat) : Int) < most))), (22, undef), (23, undef), (24, undef), (25, undef), (26, undef), (27, undef), (28, undef), (29, undef), (30, undef), (31, undef), (32, .bool false)] (by kernel_rfl) ?_
      refine OI_end rfl ?_
      refine X_then ?_
      refine V_false rfl ?_
      refine V_exit ?_
      refine X_exit_then ?_
      refine X_exit_then ?_
      refine X_exit_here ?_
      refine X_then ?_
      refine V_seq ?_
      refine V_region ?_
      refine OI_slit (E := 28) (zv := .agg #[.int .i64 0, .int .i64 0, .int .i64 0, .int .u8 0, .int .u8 0, .int .u8 0, .int .u8 0, .int .u8 0, .int .u8 0, .int .u8 0, .int .u8 0, .int .u8 0, .int .u8 0, .int .u8 0, .int .u8 0, .int .u8 0, .int .u8 0, .int .u8 0, .int .u8 0, .int .u8 0, .int .u8 0, .int .u8 0, .int .u8 0, .int .u8 0, .int .u8 0, .int .u8 0, .int .u8 0, .int .u8 0, .int .u8 0, .int .u8 0, .int .u8 0, .int .u8 0, .int .u8 0, .int .u8 0, .int .u8 0, .int .i64 0]) (sz := 36) (by_ := 64) 31 0 #[] [] [] (some 35) (by kernel_rfl) (by kernel_rfl) (by kernel_rfl) (by omega) rfl (by omega) (by intro v hv; cases hv) (by kernel_rfl) rfl ?_
      intro b27 w27 e27 hb27 k27 z27
      have hsz28 := Keep.size k27
      replace hg := hg.keep k27 (fun f => f)
      have hglt := hg.lt
      replace hA := SlT.keep0 hA k27
      replace hK0 := Keep.tr hK0 (Keep.ofNone k27); have hzhK0 := Keep.size hK0
      have hb27lt := hb27.lt
      refine OI_static 4 [(0, .pointer (some ⟨g, 0, none⟩)), (7, .int .i64 ((n : Nat) : Int)), (35, .slice (some ⟨b27, 0, none⟩) 0 0), (38, .pointer (some ⟨g, 0, none⟩))] (by kernel_rfl) ?_
      refine OI_cell 31 (.tmp 38) 0 (.slice A ts.length cap) (some 39) (by kernel_rfl) (by kernel_rfl) hg (m := 1) (by kernel_rfl) rfl ?_
      refine OI_static 6 [(0, .pointer (some ⟨g, 0, none⟩)), (7, .int .i64 ((n : Nat) : Int)), (35, .slice (some ⟨b27, 0, none⟩) 0 0), (39, .slice A ts.length cap), (40, .int .i64 ((n : Nat) : Int))] (by kernel_rfl) ?_
      refine OI_pure (some 41) ((Op.slice 31 (Operand.tmp 39) none (some (Operand.tmp 40)) none)) (by kernel_rfl) (pure_sliceTo (E := 28) (sz := 36) (by_ := 64) (base := A) (len := ts.length) (cap := cap) (h := n) (kd := .i64) (by kernel_rfl) (by kernel_rfl) (by kernel_rfl) (by omega)) ?_
      have hl29 : (ts.take n).length = n := by rw [List.length_take]; omega
      have hy29 := (SlT.to hA (i := n) (by omega)).slr
      rw [hl29] at hy29
      refine OI_append (t := 31) (at2 := 31) (E := 28) (E2 := 28) (sz := 36) (by_ := 64) (zv := .agg #[.int .i64 0, .int .i64 0, .int .i64 0, .int .u8 0, .int .u8 0, .int .u8 0, .int .u8 0, .int .u8 0, .int .u8 0, .int .u8 0, .int .u8 0, .int .u8 0, .int .u8 0, .int .u8 0, .int .u8 0, .int .u8 0, .int .u8 0, .int .u8 0, .int .u8 0, .int .u8 0, .int .u8 0, .int .u8 0, .int .u8 0, .int .u8 0, .int .u8 0, .int .u8 0, .int .u8 0, .int .u8 0, .int .u8 0, .int .u8 0, .int .u8 0, .int .u8 0, .int .u8 0, .int .u8 0, .int .u8 0, .int .i64 0]) (m := ([] : List Tk).length) (k := n) (.tmp 35) (.tmp 41) (.slice (some ⟨b27, 0, none⟩) 0 0) (.slice A n cap) (some 42) (by kernel_rfl) (by kernel_rfl) (by kernel_rfl) (by kernel_rfl) (by kernel_rfl) (by kernel_rfl) (by kernel_rfl) (SlT.slr (slt_blk (xs := ([] : List Tk)) (f := Tk.cells) (sz := 36) hb27 Tk.len rfl)) hy29 (fun u hu => by obtain ⟨z, _, hz⟩ := List.mem_flatMap.1 hu; exact Tk.one z u hz) (by first | omega | ((repeat first | rw [List.length_append] | rw [List.length_cons] | rw [List.length_nil] | rw [List.length_take] | rw [List.length_drop]) <;> omega)) (by omega) (by first | omega | ((repeat first | rw [List.length_append] | rw [List.length_cons] | rw [List.length_nil] | rw [List.length_take] | rw [List.length_drop]) <;> omega)) (by omega) ?_
      intro vv9 w29 hap
      obtain ⟨A29, cap29, rfl, hA29, hk29, own29x⟩ := app_many (f := Tk.cells) (xs := ([] : List Tk)) (ys := (ts.take n)) (A := (some ⟨b27, 0, none⟩)) (cap := 0) hap hl29 Tk.len
      replace hk29 : Keep (only b27) w27 w29 := hk29.mono (fun i _ h => inA_some h)
      have own29 : ∀ q, inA A29 q → w.heap.size ≤ q := fun q hq => by rcases own29x q hq with h | h; (have h9 := inA_some h; show w.heap.size ≤ q; omega); (show w.heap.size ≤ q; omega)
      rw [List.nil_append] at hA29
      have hsz30 := Keep.size hk29
      replace hg := hg.keep hk29 (by show ¬ (_ = _); omega)
      have hglt := hg.lt
      replace hA := SlT.keep hA hk29 (fun q hq hs => by have hs : q = b27 := hs; have g0 := hAg q hq; have g1 := hltA q hq; omega)
      replace hK0 := Keep.fresh hK0 hk29 (by intro i hi hs; have hs2 : i = b27 := hs; first | (exfalso; omega) | (rw [hs2]; exact hFg)); have hzhK0 := Keep.size hK0
      have lt29 := SlT.lt hA29
      have hcap29 := SlT.cap_le hA29
      refine OI_static 9 [(0, .pointer (some ⟨g, 0, none⟩)), (7, .int .i64 ((n : Nat) : Int)), (8, .slice A29 ((ts.take n).length) cap29)] (by kernel_rfl) ?_
      refine OI_end rfl ?_
      refine X_then ?_
      refine V_seq ?_
      refine V_region ?_
      refine OI_static 1 [(0, .pointer (some ⟨g, 0, none⟩)), (7, .int .i64 ((n : Nat) : Int)), (8, .slice A29 ((ts.take n).length) cap29), (43, .pointer (some ⟨g, 0, none⟩))] (by kernel_rfl) ?_
      refine OI_slit (E := 28) (zv := .agg #[.int .i64 0, .int .i64 0, .int .i64 0, .int .u8 0, .int .u8 0, .int .u8 0, .int .u8 0, .int .u8 0, .int .u8 0, .int .u8 0, .int .u8 0, .int .u8 0, .int .u8 0, .int .u8 0, .int .u8 0, .int .u8 0, .int .u8 0, .int .u8 0, .int .u8 0, .int .u8 0, .int .u8 0, .int .u8 0, .int .u8 0, .int .u8 0, .int .u8 0, .int .u8 0, .int .u8 0, .int .u8 0, .int .u8 0, .int .u8 0, .int .u8 0, .int .u8 0, .int .u8 0, .int .u8 0, .int .u8 0, .int .i64 0]) (sz := 36) (by_ := 64) 31 0 #[] [] [] (some 44) (by kernel_rfl) (by kernel_rfl) (by kernel_rfl) (by omega) rfl (by omega) (by intro v hv; cases hv) (by kernel_rfl) rfl ?_
      intro b31 w31 e31 hb31 k31 z31
      have hsz32 := Keep.size k31
      replace hg := hg.keep k31 (fun f => f)
      have hglt := hg.lt
      replace hA := SlT.keep0 hA k31
      replace hA29 := SlT.keep0 hA29 k31
      replace hK0 := Keep.tr hK0 (Keep.ofNone k31); have hzhK0 := Keep.size hK0
      have hb31lt := hb31.lt
      refine OI_static 5 [(7, .int .i64 ((n : Nat) : Int)), (8, .slice A29 ((ts.take n).length) cap29), (43, .pointer (some ⟨g, 0, none⟩)), (44, .slice (some ⟨b31, 0, none⟩) 0 0), (47, .pointer (some ⟨g, 0, none⟩))] (by kernel_rfl) ?_
      refine OI_cell 31 (.tmp 47) 0 (.slice A ts.length cap) (some 48) (by kernel_rfl) (by kernel_rfl) hg (m := 1) (by kernel_rfl) rfl ?_
      refine OI_static 7 [(8, .slice A29 ((ts.take n).length) cap29), (43, .pointer (some ⟨g, 0, none⟩)), (44, .slice (some ⟨b31, 0, none⟩) 0 0), (48, .slice A ts.length cap), (49, .int .i64 ((n : Nat) : Int))] (by kernel_rfl) ?_
      refine OI_pure (some 50) ((Op.slice 31 (Operand.tmp 48) (some (Operand.tmp 49)) none none)) (by kernel_rfl) (pure_sliceSuf (E := 28) (sz := 36) (by_ := 64) (A := A) (len := ts.length) (cap := cap) (l := n) (kd := .i64) (by kernel_rfl) (by kernel_rfl) (by kernel_rfl) (by omega) (by omega)) ?_
      have hl33 : (ts.drop n).length = ts.length - n := List.length_drop
      have hy33 := (SlT.from_ hA (i := n) (by omega)).slr
      rw [hl33] at hy33
      refine OI_append (t := 31) (at2 := 31) (E := 28) (E2 := 28) (sz := 36) (by_ := 64) (zv := .agg #[.int .i64 0, .int .i64 0, .int .i64 0, .int .u8 0, .int .u8 0, .int .u8 0, .int .u8 0, .int .u8 0, .int .u8 0, .int .u8 0, .int .u8 0, .int .u8 0, .int .u8 0, .int .u8 0, .int .u8 0, .int .u8 0, .int .u8 0, .int .u8 0, .int .u8 0, .int .u8 0, .int .u8 0, .int .u8 0, .int .u8 0, .int .u8 0, .int .u8 0, .int .u8 0, .int .u8 0, .int .u8 0, .int .u8 0, .int .u8 0, .int .u8 0, .int .u8 0, .int .u8 0, .int .u8 0, .int .u8 0, .int .i64 0]) (m := ([] : List Tk).length) (k := ts.length - n) (.tmp 44) (.tmp 50) (.slice (some ⟨b31, 0, none⟩) 0 0) (.slice (sufA A cap n 36) (ts.length - n) (cap - n)) (some 51) (by kernel_rfl) (by kernel_rfl) (by kernel_rfl) (by kernel_rfl) (by kernel_rfl) (by kernel_rfl) (by kernel_rfl) (SlT.slr (slt_blk (xs := ([] : List Tk)) (f := Tk.cells) (sz := 36) hb31 Tk.len rfl)) hy33 (fun u hu => by obtain ⟨z, _, hz⟩ := List.mem_flatMap.1 hu; exact Tk.one z u hz) (by first | omega | ((repeat first | rw [List.length_append] | rw [List.length_cons] | rw [List.length_nil] | rw [List.length_take] | rw [List.length_drop]) <;> omega)) (by omega) (by first | omega | ((repeat first | rw [List.length_append] | rw [List.length_cons] | rw [List.length_nil] | rw [List.length_take] | rw [List.length_drop]) <;> omega)) (by omega) ?_
      intro vv9 w33 hap
      obtain ⟨A33, cap33, rfl, hA33, hk33, own33x⟩ := app_many (f := Tk.cells) (xs := ([] : List Tk)) (ys := (ts.drop n)) (A := (some ⟨b31, 0, none⟩)) (cap := 0) hap hl33 Tk.len
      replace hk33 : Keep (only b31) w31 w33 := hk33.mono (fun i _ h => inA_some h)
      have own33 : ∀ q, inA A33 q → w.heap.size ≤ q := fun q hq => by rcases own33x q hq with h | h; (have h9 := inA_some h; show w.heap.size ≤ q; omega); (show w.heap.size ≤ q; omega)
      rw [List.nil_append] at hA33
      have hsz34 := Keep.size hk33
      replace hg := hg.keep hk33 (by show ¬ (_ = _); omega)
      have hglt := hg.lt
      replace hA := SlT.keep hA hk33 (fun q hq hs => by have hs : q = b31 := hs; have g0 := hAg q hq; have g1 := hltA q hq; omega)
      replace hA29 := SlT.keep hA29 hk33 (fun q hq hs => by have hs : q = b31 := hs; have g0 := own29 q hq; have g1 := lt29 q hq; omega)
      replace hK0 := Keep.fresh hK0 hk33 (by intro i hi hs; have hs2 : i = b31 := hs; first | (exfalso; omega) | (rw [hs2]; exact hFg)); have hzhK0 := Keep.size hK0
      have lt33 := SlT.lt hA33
      have hcap33 := SlT.cap_le hA33
      refine OI_static 11 [(8, .slice A29 ((ts.take n).length) cap29), (51, .slice A33 ((ts.drop n).length) cap33), (53, .pointer (some ⟨g, 0, none⟩))] (by kernel_rfl) ?_
      refine OI_set (m := 1) (kd := false) 31 (.tmp 53) (.tmp 51) 0 (.slice A33 ((ts.drop n).length) cap33) [.slice A33 ((ts.drop n).length) cap33] none (by kernel_rfl) (by kernel_rfl) (by kernel_rfl) hg (by kernel_rfl) (by kernel_rfl) (by kernel_rfl) (Nat.le_of_ble_eq_true (by kernel_rfl)) (by simp [Value.oneCell']) ?_
      intro w35 hg_38 hk36 hz37
      replace hg_38 : Blk w35 g [.slice A33 ((ts.drop n).length) cap33] 46 := hg_38
      have hsz39 := Keep.size hk36
      replace hA := SlT.keep hA hk36 (fun q hq hs => by have hs : q = g := hs; have g0 := hAg q hq; have g1 := hltA q hq; omega)
      replace hA29 := SlT.keep hA29 hk36 (fun q hq hs => by have hs : q = g := hs; have g0 := own29 q hq; have g1 := lt29 q hq; omega)
      replace hA33 := SlT.keep hA33 hk36 (fun q hq hs => by have hs : q = g := hs; have g0 := own33 q hq; have g1 := lt33 q hq; omega)
      replace hK0 := Keep.fresh hK0 hk36 (by intro i hi hs; have hs2 : i = g := hs; first | (exfalso; omega) | (rw [hs2]; exact hFg)); have hzhK0 := Keep.size hK0
      refine OI_end rfl ?_
      refine X_then ?_
      refine V_seq ?_
      refine V_region ?_
      refine OI_static 2 [(6, .slice A29 ((ts.take n).length) cap29)] (by kernel_rfl) ?_
      refine OI_end rfl ?_
      refine X_then ?_
      refine V_ret ?_
      have he := dueN_at ts most n (by omega) hmost hbef hend
      rw [← he]
      have hE : (ts.drop n) = ts.drop n := rfl
      rw [hE] at hA33
      have hE1 : (ts.take n) = ts.take n := rfl
      exact X_return (.slice A29 ((ts.take n).length) cap29) rfl ⟨A29, cap29, rfl, hA29, ⟨moreT F w w35, ⟨by rw [List.length_drop]; omega, .inl hFg, (fun q hq => by rcases hq with hq | hq; (have h9 := hFlt q hq; omega); exact hq.2), A33, cap33, ⟨by have h9 := hg_38; rw [hE] at h9; exact h9, hA33, fun hh => by have h9 := own33 g hh; omega⟩, fun q hq => .inr ⟨by have h9 := own33 q hq; omega, by have h9 := lt33 q hq; omega⟩⟩, fun q hq => hq.imp id (·.1)⟩, hK0, fun q hq => by have h9 := own29 q hq; omega⟩
  · skip
    have hend : n = ts.length ∨ most ≤ n ∨ ∃ y, ts[n]? = some y ∧ now < y.at_ := .inl (by omega)
    refine OI_eq [(0, .pointer (some ⟨g, 0, none⟩)), (1, .int .i64 now), (2, .int .i64 most), (7, .int .i64 ((n : Nat) : Int)), (16, .bool false)] (by first | simp [hg5] | rfl) ?_
    refine OI_static 24 [(0, .pointer (some ⟨g, 0, none⟩)), (1, .int .i64 now), (2, .int .i64 most), (7, .int .i64 ((n : Nat) : Int)), (17, undef), (18, undef), (19, undef), (22, undef), (23, undef), (24, undef), (25, undef), (26, undef), (27, undef), (28, undef), (29, undef), (30, undef), (31, undef), (32, .bool false)] (by kernel_rfl) ?_
    refine OI_end rfl ?_
    refine X_then ?_
    refine V_false rfl ?_
    refine V_exit ?_
    refine X_exit_then ?_
    refine X_exit_then ?_
    refine X_exit_here ?_
    refine X_then ?_
    refine V_seq ?_
    refine V_region ?_
    refine OI_slit (E := 28) (zv := .agg #[.int .i64 0, .int .i64 0, .int .i64 0, .int .u8 0, .int .u8 0, .int .u8 0, .int .u8 0, .int .u8 0, .int .u8 0, .int .u8 0, .int .u8 0, .int .u8 0, .int .u8 0, .int .u8 0, .int .u8 0, .int .u8 0, .int .u8 0, .int .u8 0, .int .u8 0, .int .u8 0, .int .u8 0, .int .u8 0, .int .u8 0, .int .u8 0, .int .u8 0, .int .u8 0, .int .u8 0, .int .u8 0, .int .u8 0, .int .u8 0, .int .u8 0, .int .u8 0, .int .u8 0, .int .u8 0, .int .u8 0, .int .i64 0]) (sz := 36) (by_ := 64) 31 0 #[] [] [] (some 35) (by kernel_rfl) (by kernel_rfl) (by kernel_rfl) (by omega) rfl (by omega) (by intro v hv; cases hv) (by kernel_rfl) rfl ?_
    intro b40 w40 e40 hb40 k40 z40
    have hsz41 := Keep.size k40
    replace hg := hg.keep k40 (fun f => f)
    have hglt := hg.lt
    replace hA := SlT.keep0 hA k40
    replace hK0 := Keep.tr hK0 (Keep.ofNone k40); have hzhK0 := Keep.size hK0
    have hb40lt := hb40.lt
    refine OI_static 4 [(0, .pointer (some ⟨g, 0, none⟩)), (7, .int .i64 ((n : Nat) : Int)), (35, .slice (some ⟨b40, 0, none⟩) 0 0), (38, .pointer (some ⟨g, 0, none⟩))] (by kernel_rfl) ?_
    refine OI_cell 31 (.tmp 38) 0 (.slice A ts.length cap) (some 39) (by kernel_rfl) (by kernel_rfl) hg (m := 1) (by kernel_rfl) rfl ?_
    refine OI_static 6 [(0, .pointer (some ⟨g, 0, none⟩)), (7, .int .i64 ((n : Nat) : Int)), (35, .slice (some ⟨b40, 0, none⟩) 0 0), (39, .slice A ts.length cap), (40, .int .i64 ((n : Nat) : Int))] (by kernel_rfl) ?_
    refine OI_pure (some 41) ((Op.slice 31 (Operand.tmp 39) none (some (Operand.tmp 40)) none)) (by kernel_rfl) (pure_sliceTo (E := 28) (sz := 36) (by_ := 64) (base := A) (len := ts.length) (cap := cap) (h := n) (kd := .i64) (by kernel_rfl) (by kernel_rfl) (by kernel_rfl) (by omega)) ?_
    have hl42 : (ts.take n).length = n := by rw [List.length_take]; omega
    have hy42 := (SlT.to hA (i := n) (by omega)).slr
    rw [hl42] at hy42
    refine OI_append (t := 31) (at2 := 31) (E := 28) (E2 := 28) (sz := 36) (by_ := 64) (zv := .agg #[.int .i64 0, .int .i64 0, .int .i64 0, .int .u8 0, .int .u8 0, .int .u8 0, .int .u8 0, .int .u8 0, .int .u8 0, .int .u8 0, .int .u8 0, .int .u8 0, .int .u8 0, .int .u8 0, .int .u8 0, .int .u8 0, .int .u8 0, .int .u8 0, .int .u8 0, .int .u8 0, .int .u8 0, .int .u8 0, .int .u8 0, .int .u8 0, .int .u8 0, .int .u8 0, .int .u8 0, .int .u8 0, .int .u8 0, .int .u8 0, .int .u8 0, .int .u8 0, .int .u8 0, .int .u8 0, .int .u8 0, .int .i64 0]) (m := ([] : List Tk).length) (k := n) (.tmp 35) (.tmp 41) (.slice (some ⟨b40, 0, none⟩) 0 0) (.slice A n cap) (some 42) (by kernel_rfl) (by kernel_rfl) (by kernel_rfl) (by kernel_rfl) (by kernel_rfl) (by kernel_rfl) (by kernel_rfl) (SlT.slr (slt_blk (xs := ([] : List Tk)) (f := Tk.cells) (sz := 36) hb40 Tk.len rfl)) hy42 (fun u hu => by obtain ⟨z, _, hz⟩ := List.mem_flatMap.1 hu; exact Tk.one z u hz) (by first | omega | ((repeat first | rw [List.length_append] | rw [List.length_cons] | rw [List.length_nil] | rw [List.length_take] | rw [List.length_drop]) <;> omega)) (by omega) (by first | omega | ((repeat first | rw [List.length_append] | rw [List.length_cons] | rw [List.length_nil] | rw [List.length_take] | rw [List.length_drop]) <;> omega)) (by omega) ?_
    intro vv9 w42 hap
    obtain ⟨A42, cap42, rfl, hA42, hk42, own42x⟩ := app_many (f := Tk.cells) (xs := ([] : List Tk)) (ys := (ts.take n)) (A := (some ⟨b40, 0, none⟩)) (cap := 0) hap hl42 Tk.len
    replace hk42 : Keep (only b40) w40 w42 := hk42.mono (fun i _ h => inA_some h)
    have own42 : ∀ q, inA A42 q → w.heap.size ≤ q := fun q hq => by rcases own42x q hq with h | h; (have h9 := inA_some h; show w.heap.size ≤ q; omega); (show w.heap.size ≤ q; omega)
    rw [List.nil_append] at hA42
    have hsz43 := Keep.size hk42
    replace hg := hg.keep hk42 (by show ¬ (_ = _); omega)
    have hglt := hg.lt
    replace hA := SlT.keep hA hk42 (fun q hq hs => by have hs : q = b40 := hs; have g0 := hAg q hq; have g1 := hltA q hq; omega)
    replace hK0 := Keep.fresh hK0 hk42 (by intro i hi hs; have hs2 : i = b40 := hs; first | (exfalso; omega) | (rw [hs2]; exact hFg)); have hzhK0 := Keep.size hK0
    have lt42 := SlT.lt hA42
    have hcap42 := SlT.cap_le hA42
    refine OI_static 9 [(0, .pointer (some ⟨g, 0, none⟩)), (7, .int .i64 ((n : Nat) : Int)), (8, .slice A42 ((ts.take n).length) cap42)] (by kernel_rfl) ?_
    refine OI_end rfl ?_
    refine X_then ?_
    refine V_seq ?_
    refine V_region ?_
    refine OI_static 1 [(0, .pointer (some ⟨g, 0, none⟩)), (7, .int .i64 ((n : Nat) : Int)), (8, .slice A42 ((ts.take n).length) cap42), (43, .pointer (some ⟨g, 0, none⟩))] (by kernel_rfl) ?_
    refine OI_slit (E := 28) (zv := .agg #[.int .i64 0, .int .i64 0, .int .i64 0, .int .u8 0, .int .u8 0, .int .u8 0, .int .u8 0, .int .u8 0, .int .u8 0, .int .u8 0, .int .u8 0, .int .u8 0, .int .u8 0, .int .u8 0, .int .u8 0, .int .u8 0, .int .u8 0, .int .u8 0, .int .u8 0, .int .u8 0, .int .u8 0, .int .u8 0, .int .u8 0, .int .u8 0, .int .u8 0, .int .u8 0, .int .u8 0, .int .u8 0, .int .u8 0, .int .u8 0, .int .u8 0, .int .u8 0, .int .u8 0, .int .u8 0, .int .u8 0, .int .i64 0]) (sz := 36) (by_ := 64) 31 0 #[] [] [] (some 44) (by kernel_rfl) (by kernel_rfl) (by kernel_rfl) (by omega) rfl (by omega) (by intro v hv; cases hv) (by kernel_rfl) rfl ?_
    intro b44 w44 e44 hb44 k44 z44
    have hsz45 := Keep.size k44
    replace hg := hg.keep k44 (fun f => f)
    have hglt := hg.lt
    replace hA := SlT.keep0 hA k44
    replace hA42 := SlT.keep0 hA42 k44
    replace hK0 := Keep.tr hK0 (Keep.ofNone k44); have hzhK0 := Keep.size hK0
    have hb44lt := hb44.lt
    refine OI_static 5 [(7, .int .i64 ((n : Nat) : Int)), (8, .slice A42 ((ts.take n).length) cap42), (43, .pointer (some ⟨g, 0, none⟩)), (44, .slice (some ⟨b44, 0, none⟩) 0 0), (47, .pointer (some ⟨g, 0, none⟩))] (by kernel_rfl) ?_
    refine OI_cell 31 (.tmp 47) 0 (.slice A ts.length cap) (some 48) (by kernel_rfl) (by kernel_rfl) hg (m := 1) (by kernel_rfl) rfl ?_
    refine OI_static 7 [(8, .slice A42 ((ts.take n).length) cap42), (43, .pointer (some ⟨g, 0, none⟩)), (44, .slice (some ⟨b44, 0, none⟩) 0 0), (48, .slice A ts.length cap), (49, .int .i64 ((n : Nat) : Int))] (by kernel_rfl) ?_
    refine OI_pure (some 50) ((Op.slice 31 (Operand.tmp 48) (some (Operand.tmp 49)) none none)) (by kernel_rfl) (pure_sliceSuf (E := 28) (sz := 36) (by_ := 64) (A := A) (len := ts.length) (cap := cap) (l := n) (kd := .i64) (by kernel_rfl) (by kernel_rfl) (by kernel_rfl) (by omega) (by omega)) ?_
    have hl46 : (ts.drop n).length = ts.length - n := List.length_drop
    have hy46 := (SlT.from_ hA (i := n) (by omega)).slr
    rw [hl46] at hy46
    refine OI_append (t := 31) (at2 := 31) (E := 28) (E2 := 28) (sz := 36) (by_ := 64) (zv := .agg #[.int .i64 0, .int .i64 0, .int .i64 0, .int .u8 0, .int .u8 0, .int .u8 0, .int .u8 0, .int .u8 0, .int .u8 0, .int .u8 0, .int .u8 0, .int .u8 0, .int .u8 0, .int .u8 0, .int .u8 0, .int .u8 0, .int .u8 0, .int .u8 0, .int .u8 0, .int .u8 0, .int .u8 0, .int .u8 0, .int .u8 0, .int .u8 0, .int .u8 0, .int .u8 0, .int .u8 0, .int .u8 0, .int .u8 0, .int .u8 0, .int .u8 0, .int .u8 0, .int .u8 0, .int .u8 0, .int .u8 0, .int .i64 0]) (m := ([] : List Tk).length) (k := ts.length - n) (.tmp 44) (.tmp 50) (.slice (some ⟨b44, 0, none⟩) 0 0) (.slice (sufA A cap n 36) (ts.length - n) (cap - n)) (some 51) (by kernel_rfl) (by kernel_rfl) (by kernel_rfl) (by kernel_rfl) (by kernel_rfl) (by kernel_rfl) (by kernel_rfl) (SlT.slr (slt_blk (xs := ([] : List Tk)) (f := Tk.cells) (sz := 36) hb44 Tk.len rfl)) hy46 (fun u hu => by obtain ⟨z, _, hz⟩ := List.mem_flatMap.1 hu; exact Tk.one z u hz) (by first | omega | ((repeat first | rw [List.length_append] | rw [List.length_cons] | rw [List.length_nil] | rw [List.length_take] | rw [List.length_drop]) <;> omega)) (by omega) (by first | omega | ((repeat first | rw [List.length_append] | rw [List.length_cons] | rw [List.length_nil] | rw [List.length_take] | rw [List.length_drop]) <;> omega)) (by omega) ?_
    intro vv9 w46 hap
    obtain ⟨A46, cap46, rfl, hA46, hk46, own46x⟩ := app_many (f := Tk.cells) (xs := ([] : List Tk)) (ys := (ts.drop n)) (A := (some ⟨b44, 0, none⟩)) (cap := 0) hap hl46 Tk.len
    replace hk46 : Keep (only b44) w44 w46 := hk46.mono (fun i _ h => inA_some h)
    have own46 : ∀ q, inA A46 q → w.heap.size ≤ q := fun q hq => by rcases own46x q hq with h | h; (have h9 := inA_some h; show w.heap.size ≤ q; omega); (show w.heap.size ≤ q; omega)
    rw [List.nil_append] at hA46
    have hsz47 := Keep.size hk46
    replace hg := hg.keep hk46 (by show ¬ (_ = _); omega)
    have hglt := hg.lt
    replace hA := SlT.keep hA hk46 (fun q hq hs => by have hs : q = b44 := hs; have g0 := hAg q hq; have g1 := hltA q hq; omega)
    replace hA42 := SlT.keep hA42 hk46 (fun q hq hs => by have hs : q = b44 := hs; have g0 := own42 q hq; have g1 := lt42 q hq; omega)
    replace hK0 := Keep.fresh hK0 hk46 (by intro i hi hs; have hs2 : i = b44 := hs; first | (exfalso; omega) | (rw [hs2]; exact hFg)); have hzhK0 := Keep.size hK0
    have lt46 := SlT.lt hA46
    have hcap46 := SlT.cap_le hA46
    refine OI_static 11 [(8, .slice A42 ((ts.take n).length) cap42), (51, .slice A46 ((ts.drop n).length) cap46), (53, .pointer (some ⟨g, 0, none⟩))] (by kernel_rfl) ?_
    refine OI_set (m := 1) (kd := false) 31 (.tmp 53) (.tmp 51) 0 (.slice A46 ((ts.drop n).length) cap46) [.slice A46 ((ts.drop n).length) cap46] none (by kernel_rfl) (by kernel_rfl) (by kernel_rfl) hg (by kernel_rfl) (by kernel_rfl) (by kernel_rfl) (Nat.le_of_ble_eq_true (by kernel_rfl)) (by simp [Value.oneCell']) ?_
    intro w48 hg_51 hk49 hz50
    replace hg_51 : Blk w48 g [.slice A46 ((ts.drop n).length) cap46] 46 := hg_51
    have hsz52 := Keep.size hk49
    replace hA := SlT.keep hA hk49 (fun q hq hs => by have hs : q = g := hs; have g0 := hAg q hq; have g1 := hltA q hq; omega)
    replace hA42 := SlT.keep hA42 hk49 (fun q hq hs => by have hs : q = g := hs; have g0 := own42 q hq; have g1 := lt42 q hq; omega)
    replace hA46 := SlT.keep hA46 hk49 (fun q hq hs => by have hs : q = g := hs; have g0 := own46 q hq; have g1 := lt46 q hq; omega)
    replace hK0 := Keep.fresh hK0 hk49 (by intro i hi hs; have hs2 : i = g := hs; first | (exfalso; omega) | (rw [hs2]; exact hFg)); have hzhK0 := Keep.size hK0
    refine OI_end rfl ?_
    refine X_then ?_
    refine V_seq ?_
    refine V_region ?_
    refine OI_static 2 [(6, .slice A42 ((ts.take n).length) cap42)] (by kernel_rfl) ?_
    refine OI_end rfl ?_
    refine X_then ?_
    refine V_ret ?_
    have he := dueN_at ts most n (by omega) hmost hbef hend
    rw [← he]
    have hE : (ts.drop n) = ts.drop n := rfl
    rw [hE] at hA46
    have hE1 : (ts.take n) = ts.take n := rfl
    exact X_return (.slice A42 ((ts.take n).length) cap42) rfl ⟨A42, cap42, rfl, hA42, ⟨moreT F w w48, ⟨by rw [List.length_drop]; omega, .inl hFg, (fun q hq => by rcases hq with hq | hq; (have h9 := hFlt q hq; omega); exact hq.2), A46, cap46, ⟨by have h9 := hg_51; rw [hE] at h9; exact h9, hA46, fun hh => by have h9 := own46 g hh; omega⟩, fun q hq => .inr ⟨by have h9 := own46 q hq; omega, by have h9 := lt46 q hq; omega⟩⟩, fun q hq => hq.imp id (·.1)⟩, hK0, fun q hq => by have h9 := own42 q hq; omega⟩
end Go.Al


namespace Go.Al
open Go Go.RowKit Go.Proofs
set_option maxRecDepth 10000 in
set_option maxHeartbeats 1000000 in
theorem rput_spec (F : Nat → Prop) (g : Nat) (ts : List Tk) (t : Tk) (w : World) (h : Rf F w g ts) : Calls Try.prog 19 #[.pointer (some ⟨g, 0, none⟩), .agg t.cells.toArray] w fun e w' => e = .returned (.int .i64 (putR t ts).1) ∧ (∃ F', Rf F' w' g (putR t ts).2 ∧ (∀ q, F' q → F q ∨ w.heap.size ≤ q)) ∧ Keep F w w' := by
  obtain ⟨hlen, hFg, hFlt, A, cap, h, hAF⟩ := h
  have hgA := h.off
  have hg := h.blk
  have hA := h.sl
  have hglt := hg.lt
  have hltA := SlT.lt hA
  have hAg : ∀ q, inA A q → q ≠ g := fun q hq he => hgA (he ▸ hq)
  have hcapA := SlT.cap_le hA
  have hK0 : Keep F w w := Keep.refl _ _
  have hzhK0 := Keep.size hK0
  refine enterV Try.func19 rfl [.pointer (some ⟨g, 0, none⟩), .agg (Tk.cells t).toArray] 89 rfl rfl rfl ?_
  refine V_pick [(0, .pointer (some ⟨g, 0, none⟩)), (1, .agg (Tk.cells t).toArray)] rfl ?_
  refine V_seq ?_
  refine V_region ?_
  refine OI_box 28 (.tmp 1) (.agg (Tk.cells t).toArray) (Tk.cells t) (some 3) (by kernel_rfl) (by kernel_rfl) rfl ?_
  intro b1 w1 e1 hb1 k1 z1
  have hsz2 := Keep.size k1
  replace hg := hg.keep k1 (fun f => f)
  have hglt := hg.lt
  replace hA := SlT.keep0 hA k1
  replace hK0 := Keep.tr hK0 (Keep.ofNone k1); have hzhK0 := Keep.size hK0
  have hb1lt := hb1.lt
  refine OI_static 2 [(0, .pointer (some ⟨g, 0, none⟩)), (3, .pointer (some ⟨b1, 0, none⟩))] (by kernel_rfl) ?_
  refine OI_end rfl ?_
  refine X_then ?_
  refine V_seq ?_
  refine V_seq ?_
  refine V_region ?_
  refine OI_static 1 [(0, .pointer (some ⟨g, 0, none⟩)), (3, .pointer (some ⟨b1, 0, none⟩)), (8, .pointer (some ⟨b1, 0, none⟩))] (by kernel_rfl) ?_
  refine OI_cell 3 (.tmp 8) 0 (.int .i64 t.name) (some 9) (by kernel_rfl) (by kernel_rfl) hb1 (m := 1) (by kernel_rfl) rfl ?_
  refine OI_static 4 [(0, .pointer (some ⟨g, 0, none⟩)), (3, .pointer (some ⟨b1, 0, none⟩)), (11, .bool (decide (t.name < 0)))] (by kernel_rfl) ?_
  by_cases hg3 : t.name < 0
  · skip
    refine OI_eq [(0, .pointer (some ⟨g, 0, none⟩)), (3, .pointer (some ⟨b1, 0, none⟩)), (11, .bool true)] (by first | simp [hg3] | rfl) ?_
    refine OI_static 13 [(0, .pointer (some ⟨g, 0, none⟩)), (3, .pointer (some ⟨b1, 0, none⟩)), (20, .bool true)] (by kernel_rfl) ?_
    refine OI_end rfl ?_
    refine X_then ?_
    refine V_true rfl ?_
    refine V_seq ?_
    refine V_region ?_
    refine OI_static 1 [(4, .int .i64 1)] (by kernel_rfl) ?_
    refine OI_end rfl ?_
    refine X_then ?_
    refine V_ret ?_
    refine X_ret_then ?_
    have hp : putR t ts = (1, ts) := if_pos (by omega)
    rw [hp]
    exact X_return (.int .i64 1) rfl ⟨rfl, ⟨F, ⟨hlen, hFg, (fun q hq => Nat.lt_of_lt_of_le (hFlt q hq) (by omega)), A, cap, ⟨hg, hA, hgA⟩, hAF⟩, fun q h => .inl h⟩, hK0⟩
  · skip
    refine OI_eq [(0, .pointer (some ⟨g, 0, none⟩)), (3, .pointer (some ⟨b1, 0, none⟩)), (11, .bool false)] (by first | simp [hg3] | rfl) ?_
    refine OI_static 5 [(0, .pointer (some ⟨g, 0, none⟩)), (3, .pointer (some ⟨b1, 0, none⟩)), (11, .bool false), (12, .pointer (some ⟨b1, 1, none⟩))] (by kernel_rfl) ?_
    refine OI_cell 3 (.tmp 12) 1 (.int .i64 t.at_) (some 13) (by kernel_rfl) (by kernel_rfl) hb1 (m := 1) (by kernel_rfl) rfl ?_
    refine OI_static 9 [(0, .pointer (some ⟨g, 0, none⟩)), (3, .pointer (some ⟨b1, 0, none⟩)), (16, .bool (decide (t.at_ < 0)))] (by kernel_rfl) ?_
    by_cases hg4 : t.at_ < 0
    · skip
      refine OI_eq [(0, .pointer (some ⟨g, 0, none⟩)), (3, .pointer (some ⟨b1, 0, none⟩)), (16, .bool true)] (by first | simp [hg4] | rfl) ?_
      refine OI_static 13 [(0, .pointer (some ⟨g, 0, none⟩)), (3, .pointer (some ⟨b1, 0, none⟩)), (20, .bool true)] (by kernel_rfl) ?_
      refine OI_end rfl ?_
      refine X_then ?_
      refine V_true rfl ?_
      refine V_seq ?_
      refine V_region ?_
      refine OI_static 1 [(4, .int .i64 1)] (by kernel_rfl) ?_
      refine OI_end rfl ?_
      refine X_then ?_
      refine V_ret ?_
      refine X_ret_then ?_
      have hp : putR t ts = (1, ts) := if_pos (by omega)
      rw [hp]
      exact X_return (.int .i64 1) rfl ⟨rfl, ⟨F, ⟨hlen, hFg, (fun q hq => Nat.lt_of_lt_of_le (hFlt q hq) (by omega)), A, cap, ⟨hg, hA, hgA⟩, hAF⟩, fun q h => .inl h⟩, hK0⟩
    · skip
      refine OI_eq [(0, .pointer (some ⟨g, 0, none⟩)), (3, .pointer (some ⟨b1, 0, none⟩)), (16, .bool false)] (by first | simp [hg4] | rfl) ?_
      refine OI_static 10 [(0, .pointer (some ⟨g, 0, none⟩)), (3, .pointer (some ⟨b1, 0, none⟩)), (16, .bool false), (17, .pointer (some ⟨b1, 2, none⟩))] (by kernel_rfl) ?_
      refine OI_cell 3 (.tmp 17) 2 (.int .i64 t.pr) (some 18) (by kernel_rfl) (by kernel_rfl) hb1 (m := 1) (by kernel_rfl) rfl ?_
      refine OI_static 13 [(0, .pointer (some ⟨g, 0, none⟩)), (3, .pointer (some ⟨b1, 0, none⟩)), (20, .bool (decide (t.pr < 0)))] (by kernel_rfl) ?_
      refine OI_end rfl ?_
      refine X_then ?_
      refine V_if (t.pr < 0) (by kernel_rfl) (fun hc5 => ?_) (fun hc5 => ?_)
      · skip
        refine V_seq ?_
        refine V_region ?_
        refine OI_static 1 [(4, .int .i64 1)] (by kernel_rfl) ?_
        refine OI_end rfl ?_
        refine X_then ?_
        refine V_ret ?_
        refine X_ret_then ?_
        have hp : putR t ts = (1, ts) := if_pos (by omega)
        rw [hp]
        exact X_return (.int .i64 1) rfl ⟨rfl, ⟨F, ⟨hlen, hFg, (fun q hq => Nat.lt_of_lt_of_le (hFlt q hq) (by omega)), A, cap, ⟨hg, hA, hgA⟩, hAF⟩, fun q h => .inl h⟩, hK0⟩
      · skip
        refine V_skip ?_
        refine X_then ?_
        refine V_seq ?_
        refine V_seq ?_
        refine V_region ?_
        refine OI_static 1 [(0, .pointer (some ⟨g, 0, none⟩)), (3, .pointer (some ⟨b1, 0, none⟩)), (5, .int .i64 0)] (by kernel_rfl) ?_
        refine OI_end rfl ?_
        refine X_then ?_
        refine V_block ?_
        refine V_pick [(0, .pointer (some ⟨g, 0, none⟩)), (3, .pointer (some ⟨b1, 0, none⟩)), (5, .int .i64 0)] rfl ?_
        refine V_loop (fun k wI e => ∃ i : Nat, (k + i = ts.length) ∧ (∀ (j : Nat) y, j < i → ts[j]? = some y → ¬ y.name = t.name) ∧ Keep none_ w1 wI ∧ e = [(0, .pointer (some ⟨g, 0, none⟩)), (3, .pointer (some ⟨b1, 0, none⟩)), (5, .int .i64 ((i : Nat) : Int))]) ts.length ⟨0, by omega, fun j y hj => absurd hj (Nat.not_lt_zero _), Keep.refl _ _, rfl⟩ ?_
        rintro k7 w6 _ ⟨i, hki, hbef, hk8, rfl⟩
        have hsz9 := Keep.size hk8
        replace hg := hg.keep hk8 (fun f => f)
        have hglt := hg.lt
        replace hb1 := hb1.keep hk8 (fun f => f)
        have hb1lt := hb1.lt
        replace hA := SlT.keep0 hA hk8
        replace hK0 := Keep.tr hK0 (Keep.ofNone hk8); have hzhK0 := Keep.size hK0
        have hzhk8 := Keep.size hk8
        refine V_seq ?_
        refine V_seq ?_
        refine V_region ?_
        refine OI_static 4 [(0, .pointer (some ⟨g, 0, none⟩)), (3, .pointer (some ⟨b1, 0, none⟩)), (5, .int .i64 ((i : Nat) : Int)), (21, .int .i64 ((i : Nat) : Int)), (24, .pointer (some ⟨g, 0, none⟩))] (by kernel_rfl) ?_
        refine OI_cell 31 (.tmp 24) 0 (.slice A ts.length cap) (some 25) (by kernel_rfl) (by kernel_rfl) hg (m := 1) (by kernel_rfl) rfl ?_
        refine OI_static 7 [(0, .pointer (some ⟨g, 0, none⟩)), (3, .pointer (some ⟨b1, 0, none⟩)), (5, .int .i64 ((i : Nat) : Int)), (27, .bool (decide (((i : Nat) : Int) < ((ts.length : Nat) : Int))))] (by kernel_rfl) ?_
        refine OI_end rfl ?_
        refine X_then ?_
        refine V_if (((i : Nat) : Int) < ((ts.length : Nat) : Int)) (by kernel_rfl) (fun hc10 => ?_) (fun hc10 => ?_)
        · skip
          refine V_skip ?_
          refine X_then ?_
          refine V_seq ?_
          refine V_block ?_
          refine V_seq ?_
          refine V_draws (acts []) none_ [[0, 1, 2, 3, 4, 5, 6, 7, 8, 9, 10]] (by kernel_rfl) (by repeat first | exact sure_body (by rintro _ _ ⟨h, _⟩; exact ⟨_, h⟩) | refine sure_then ?_ | refine sure_block ?_ | refine sure_join ?_) (by kernel_rfl) ?_
          intro w12 hk11 he13 L hL14
          have hsz15 := Keep.size hk11
          replace hg := hg.keep hk11 (fun f => f)
          have hglt := hg.lt
          replace hb1 := hb1.keep hk11 (fun f => f)
          have hb1lt := hb1.lt
          replace hA := SlT.keep0 hA hk11
          replace hK0 := Keep.tr hK0 (Keep.ofNone hk11); have hzhK0 := Keep.size hK0
          replace hk8 := Keep.tr hk8 (Keep.ofNone hk11); have hzhk8 := Keep.size hk8
          have qhg := hg
          have qhb1 := hb1
          have K16 : Keep none_ w12 w12 := Keep.refl _ _
          obtain rfl := List.mem_singleton.1 hL14
          refine GI_static [3, 4, 5, 6, 7, 8, 9, 10] [(0, .pointer (some ⟨g, 0, none⟩)), (3, .pointer (some ⟨b1, 0, none⟩)), (5, .int .i64 ((i : Nat) : Int)), (32, .pointer (some ⟨g, 0, none⟩))] (by kernel_rfl) ?_
          refine GI_cell 31 (.tmp 32) 0 (.slice A ts.length cap) (some 33) (by kernel_rfl) (by kernel_rfl) (by kernel_rfl) qhg (fun f => f) (m := 1) (by kernel_rfl) rfl ?_
          refine GI_static [5, 6, 7, 8, 9, 10] [(0, .pointer (some ⟨g, 0, none⟩)), (3, .pointer (some ⟨b1, 0, none⟩)), (5, .int .i64 ((i : Nat) : Int)), (33, .slice A ts.length cap), (34, .int .i64 ((i : Nat) : Int))] (by kernel_rfl) ?_
          obtain ⟨b17, o17, L17, T17, rfl, hat17⟩ := SlT.open_ hA (by first | omega | (simp only [List.length_map]; omega) | (simp; done) | (simp; omega))
          have hb17lt := hat17.blk.lt
          have hob18 := hAg b17 ⟨_, rfl, rfl⟩
          have hob19 := hltA b17 ⟨_, rfl, rfl⟩
          refine GI_pure (some 35) (.indexAddr 31 (.tmp 33) (.tmp 34)) (by kernel_rfl) (by kernel_rfl) (pure_idxN (b := b17) (o := o17) (len := ts.length) (cap := cap) (kd := .i64) (j := i) (E := 28) (sz := 36) (by_ := 64) (by kernel_rfl) (by kernel_rfl) (by kernel_rfl) (by omega)) ?_
          refine GI_static [7, 8, 9, 10] [(0, .pointer (some ⟨g, 0, none⟩)), (3, .pointer (some ⟨b1, 0, none⟩)), (5, .int .i64 ((i : Nat) : Int)), (36, .pointer (some ⟨b17, o17 + i * 36, none⟩))] (by kernel_rfl) ?_
          obtain ⟨x20, hx21⟩ : ∃ x, ts[i]? = some x := ⟨_, List.getElem?_eq_getElem (by first | omega | (simp only [List.length_map]; omega))⟩
          refine GI_cell 3 (.tmp 36) (o17 + i * 36) (.int .i64 x20.name) (some 37) (by kernel_rfl) (by kernel_rfl) (by kernel_rfl) hat17.blk (fun f => f) (m := 1) (by kernel_rfl) (At.cell0 hat17 (es_at hx21) rfl) ?_
          refine GI_static [9, 10] [(0, .pointer (some ⟨g, 0, none⟩)), (3, .pointer (some ⟨b1, 0, none⟩)), (5, .int .i64 ((i : Nat) : Int)), (37, .int .i64 x20.name), (38, .pointer (some ⟨b1, 0, none⟩))] (by kernel_rfl) ?_
          refine GI_cell 3 (.tmp 38) 0 (.int .i64 t.name) (some 39) (by kernel_rfl) (by kernel_rfl) (by kernel_rfl) qhb1 (fun f => f) (m := 1) (by kernel_rfl) rfl ?_
          refine GI_static [] [(0, .pointer (some ⟨g, 0, none⟩)), (3, .pointer (some ⟨b1, 0, none⟩)), (5, .int .i64 ((i : Nat) : Int)), (40, .bool (decide (x20.name = t.name)))] (by kernel_rfl) ?_
          refine GI_end ?_
          refine X_then ?_
          refine V_if (x20.name = t.name) (by kernel_rfl) (fun hc22 => ?_) (fun hc22 => ?_)
          · skip
            refine V_seq ?_
            refine V_region ?_
            refine OI_static 1 [(4, .int .i64 5)] (by kernel_rfl) ?_
            refine OI_end rfl ?_
            refine X_then ?_
            refine V_ret ?_
            refine X_ret_block ?_
            refine X_ret_then ?_
            refine X_ret_then ?_
            refine X_ret_block ?_
            refine X_ret_then ?_
            have hp0 : ¬ (t.name < 0 ∨ t.at_ < 0 ∨ t.pr < 0) := by omega
            generalize hAe : (some (Addr.mk b17 o17 none) : Option Addr) = A at *
            obtain ⟨hany, _⟩ := del_first t.name ts i _ hx21 (by assumption) hbef
            have hp : putR t ts = (5, ts) := by unfold putR; rw [if_neg hp0, if_pos hany]
            rw [hp]
            exact X_return (.int .i64 5) rfl ⟨rfl, ⟨F, ⟨hlen, hFg, (fun q hq => Nat.lt_of_lt_of_le (hFlt q hq) (by omega)), A, cap, ⟨hg, hA, hgA⟩, hAF⟩, fun q h => .inl h⟩, hK0⟩
          · skip
            refine V_skip ?_
            refine X_block ?_
            refine X_then ?_
            refine V_region ?_
            have hw23 : IntKind.i64.wrap (((i : Nat) : Int) + 1) = ((i + 1 : Nat) : Int) := (wrap64_id (by omega) (by omega)).trans (by omega)
            refine OI_static 2 [(0, .pointer (some ⟨g, 0, none⟩)), (3, .pointer (some ⟨b1, 0, none⟩)), (29, .int .i64 (IntKind.i64.wrap (((i : Nat) : Int) + 1)))] (by kernel_rfl) ?_
            refine OI_eq [(0, .pointer (some ⟨g, 0, none⟩)), (3, .pointer (some ⟨b1, 0, none⟩)), (29, .int .i64 ((i + 1 : Nat) : Int))] (by rw [hw23]) ?_
            refine OI_static 3 [(0, .pointer (some ⟨g, 0, none⟩)), (3, .pointer (some ⟨b1, 0, none⟩)), (5, .int .i64 ((i + 1 : Nat) : Int))] (by kernel_rfl) ?_
            refine OI_end rfl ?_
            exact V_again (k7 - 1) (by omega) [(0, .pointer (some ⟨g, 0, none⟩)), (3, .pointer (some ⟨b1, 0, none⟩)), (5, .int .i64 ((i + 1 : Nat) : Int))] rfl ⟨i + 1, by omega, fun j y hj hy => by rcases Nat.lt_or_ge j i with h9 | h9; exact hbef j y h9 hy; (obtain rfl : j = i := by omega); rw [hx21] at hy; cases hy; assumption, hk8, rfl⟩
        · skip
          obtain ⟨hany, _⟩ := del_none t.name ts (fun j y hj hy => hbef j y (by omega) hy)
          refine V_exit ?_
          refine X_exit_then ?_
          refine X_exit_then ?_
          refine X_exit_here ?_
          refine X_then ?_
          refine V_seq ?_
          refine V_seq ?_
          refine V_region ?_
          refine OI_static 3 [(0, .pointer (some ⟨g, 0, none⟩)), (3, .pointer (some ⟨b1, 0, none⟩)), (43, .pointer (some ⟨g, 0, none⟩))] (by kernel_rfl) ?_
          refine OI_cell 31 (.tmp 43) 0 (.slice A ts.length cap) (some 44) (by kernel_rfl) (by kernel_rfl) hg (m := 1) (by kernel_rfl) rfl ?_
          refine OI_static 6 [(0, .pointer (some ⟨g, 0, none⟩)), (3, .pointer (some ⟨b1, 0, none⟩)), (46, .bool (decide (((ts.length : Nat) : Int) ≥ 12)))] (by kernel_rfl) ?_
          refine OI_end rfl ?_
          refine X_then ?_
          refine V_if (((ts.length : Nat) : Int) ≥ 12) (by kernel_rfl) (fun hc24 => ?_) (fun hc24 => ?_)
          · skip
            refine V_seq ?_
            refine V_region ?_
            refine OI_static 1 [(4, .int .i64 3)] (by kernel_rfl) ?_
            refine OI_end rfl ?_
            refine X_then ?_
            refine V_ret ?_
            refine X_ret_then ?_
            have hp0 : ¬ (t.name < 0 ∨ t.at_ < 0 ∨ t.pr < 0) := by omega
            have hany2 : ¬ ts.any (named t.name) = true := by rw [hany]; decide
            have hp : putR t ts = (3, ts) := by unfold putR; rw [if_neg hp0, if_neg hany2, if_pos (by omega)]
            rw [hp]
            exact X_return (.int .i64 3) rfl ⟨rfl, ⟨F, ⟨hlen, hFg, (fun q hq => Nat.lt_of_lt_of_le (hFlt q hq) (by omega)), A, cap, ⟨hg, hA, hgA⟩, hAF⟩, fun q h => .inl h⟩, hK0⟩
          · skip
            refine V_skip ?_
            refine X_then ?_
            refine V_seq ?_
            refine V_region ?_
            refine OI_static 1 [(0, .pointer (some ⟨g, 0, none⟩)), (3, .pointer (some ⟨b1, 0, none⟩)), (6, .int .i64 0)] (by kernel_rfl) ?_
            refine OI_end rfl ?_
            refine X_then ?_
            refine V_seq ?_
            refine V_block ?_
            refine V_pick [(0, .pointer (some ⟨g, 0, none⟩)), (3, .pointer (some ⟨b1, 0, none⟩)), (6, .int .i64 0)] rfl ?_
            refine V_loop (fun k wI e => ∃ j : Nat, (k + j = ts.length) ∧ (∀ (m : Nat) y, m < j → ts[m]? = some y → ltT y t) ∧ Keep none_ w6 wI ∧ e = [(0, .pointer (some ⟨g, 0, none⟩)), (3, .pointer (some ⟨b1, 0, none⟩)), (6, .int .i64 ((j : Nat) : Int))]) ts.length ⟨0, by omega, fun j y hj => absurd hj (Nat.not_lt_zero _), Keep.refl _ _, rfl⟩ ?_
            rintro k26 w25 _ ⟨j, hkj, hlo, hk27, rfl⟩
            have hsz28 := Keep.size hk27
            replace hg := hg.keep hk27 (fun f => f)
            have hglt := hg.lt
            replace hb1 := hb1.keep hk27 (fun f => f)
            have hb1lt := hb1.lt
            replace hA := SlT.keep0 hA hk27
            replace hK0 := Keep.tr hK0 (Keep.ofNone hk27); have hzhK0 := Keep.size hK0
            have hzhk27 := Keep.size hk27
            refine V_seq ?_
            refine V_seq ?_
            refine V_draws (acts [16]) none_ [[0, 1, 2, 3, 4, 5, 6, 7, 8, 9, 10, 11, 12, 13, 14, 15, 16, 17]] (by kernel_rfl) (by repeat first | exact sure_body (by rintro _ _ ⟨h, _⟩; exact ⟨_, h⟩) | refine sure_then ?_ | refine sure_block ?_ | refine sure_join ?_) (by kernel_rfl) ?_
            intro w30 hk29 he31 L hL32
            have hsz33 := Keep.size hk29
            replace hg := hg.keep hk29 (fun f => f)
            have hglt := hg.lt
            replace hb1 := hb1.keep hk29 (fun f => f)
            have hb1lt := hb1.lt
            replace hA := SlT.keep0 hA hk29
            replace hK0 := Keep.tr hK0 (Keep.ofNone hk29); have hzhK0 := Keep.size hK0
            replace hk27 := Keep.tr hk27 (Keep.ofNone hk29); have hzhk27 := Keep.size hk27
            have qhg := hg
            have qhb1 := hb1
            have K34 : Keep none_ w30 w30 := Keep.refl _ _
            obtain rfl := List.mem_singleton.1 hL32
            refine GI_static [4, 5, 6, 7, 8, 9, 10, 11, 12, 13, 14, 15, 16, 17] [(0, .pointer (some ⟨g, 0, none⟩)), (3, .pointer (some ⟨b1, 0, none⟩)), (6, .int .i64 ((j : Nat) : Int)), (47, .int .i64 ((j : Nat) : Int)), (50, .pointer (some ⟨g, 0, none⟩))] (by kernel_rfl) ?_
            refine GI_cell 31 (.tmp 50) 0 (.slice A ts.length cap) (some 51) (by kernel_rfl) (by kernel_rfl) (by kernel_rfl) qhg (fun f => f) (m := 1) (by kernel_rfl) rfl ?_
            refine GI_static [8, 9, 10, 11, 12, 13, 14, 15, 16, 17] [(0, .pointer (some ⟨g, 0, none⟩)), (3, .pointer (some ⟨b1, 0, none⟩)), (6, .int .i64 ((j : Nat) : Int)), (54, .bool (decide (((j : Nat) : Int) < ((ts.length : Nat) : Int))))] (by kernel_rfl) ?_
            by_cases hg35 : ((j : Nat) : Int) < ((ts.length : Nat) : Int)
            · skip
              refine GI_eq [(0, .pointer (some ⟨g, 0, none⟩)), (3, .pointer (some ⟨b1, 0, none⟩)), (6, .int .i64 ((j : Nat) : Int)), (54, .bool true)] (by first | simp [hg35] | rfl) ?_
              refine GI_static [11, 12, 13, 14, 15, 16, 17] [(0, .pointer (some ⟨g, 0, none⟩)), (3, .pointer (some ⟨b1, 0, none⟩)), (6, .int .i64 ((j : Nat) : Int)), (54, .bool true), (55, .pointer (some ⟨g, 0, none⟩)), (56, .pointer (some ⟨g, 0, none⟩)), (57, .pointer (some ⟨g, 0, none⟩))] (by kernel_rfl) ?_
              refine GI_cell 31 (.tmp 57) 0 (.slice A ts.length cap) (some 58) (by kernel_rfl) (by kernel_rfl) (by kernel_rfl) qhg (fun f => f) (m := 1) (by kernel_rfl) rfl ?_
              refine GI_static [13, 14, 15, 16, 17] [(0, .pointer (some ⟨g, 0, none⟩)), (3, .pointer (some ⟨b1, 0, none⟩)), (6, .int .i64 ((j : Nat) : Int)), (54, .bool true), (55, .pointer (some ⟨g, 0, none⟩)), (56, .pointer (some ⟨g, 0, none⟩)), (57, .pointer (some ⟨g, 0, none⟩)), (58, .slice A ts.length cap), (59, .int .i64 ((j : Nat) : Int))] (by kernel_rfl) ?_
              obtain ⟨b36, o36, L36, T36, rfl, hat36⟩ := SlT.open_ hA (by first | omega | (simp only [List.length_map]; omega) | (simp; done) | (simp; omega))
              have hb36lt := hat36.blk.lt
              have hob37 := hAg b36 ⟨_, rfl, rfl⟩
              have hob38 := hltA b36 ⟨_, rfl, rfl⟩
              refine GI_pure (some 60) (.indexAddr 31 (.tmp 58) (.tmp 59)) (by kernel_rfl) (by kernel_rfl) (pure_idxN (b := b36) (o := o36) (len := ts.length) (cap := cap) (kd := .i64) (j := j) (E := 28) (sz := 36) (by_ := 64) (by kernel_rfl) (by kernel_rfl) (by kernel_rfl) (by omega)) ?_
              obtain ⟨x39, hx40⟩ : ∃ x, ts[j]? = some x := ⟨_, List.getElem?_eq_getElem (by first | omega | (simp only [List.length_map]; omega))⟩
              refine GI_agg 28 (.tmp 60) (o36 + j * 36) (Tk.cells x39) (some 61) (by kernel_rfl) (by kernel_rfl) (by kernel_rfl) hat36.blk (fun f => f) (m := 36) (by kernel_rfl) (At.elem' hat36 (es_at hx40)) (At.len hat36 (es_at hx40)) ?_
              refine GI_agg 28 (.tmp 3) 0 (Tk.cells t) (some 62) (by kernel_rfl) (by kernel_rfl) (by kernel_rfl) qhb1 (fun f => f) (m := 36) (by kernel_rfl) (take_all (Tk.len _)) (Tk.len _) ?_
              refine GI_call0 { callee := (Callee.value (Operand.func 29)), args := #[(Operand.tmp 61), (Operand.tmp 62)], argTypes := #[28, 28] } 29 #[.agg (Tk.cells x39).toArray, .agg (Tk.cells t).toArray] (some 63) (by kernel_rfl) (by kernel_rfl) (by kernel_rfl) (by kernel_rfl) (by kernel_rfl) (ahead_spec x39 t _) ?_
              rintro _ w41 ⟨rfl, hk42⟩
              refine ⟨_, rfl, ?_⟩
              have hsz43 := Keep.size hk42
              replace hg := hg.keep hk42 (fun f => f)
              have hglt := hg.lt
              replace hb1 := hb1.keep hk42 (fun f => f)
              have hb1lt := hb1.lt
              replace hat36 := hat36.keep hk42 (fun f => f)
              have hb36lt := hat36.blk.lt
              replace hA := SlT.keep0 hA hk42
              replace hK0 := Keep.tr hK0 (Keep.ofNone hk42); have hzhK0 := Keep.size hK0
              replace hk27 := Keep.tr hk27 (Keep.ofNone hk42); have hzhk27 := Keep.size hk27
              refine GI_static [] [(0, .pointer (some ⟨g, 0, none⟩)), (3, .pointer (some ⟨b1, 0, none⟩)), (6, .int .i64 ((j : Nat) : Int)), (55, .pointer (some ⟨g, 0, none⟩)), (56, .pointer (some ⟨g, 0, none⟩)), (57, .pointer (some ⟨g, 0, none⟩)), (58, .slice (some ⟨b36, o36, none⟩) ts.length cap), (59, .int .i64 ((j : Nat) : Int)), (60, .pointer (some ⟨b36, o36 + j * 36, none⟩)), (61, .agg (Tk.cells x39).toArray), (62, .agg (Tk.cells t).toArray), (63, .bool (decide (ltT x39 t))), (64, .bool (decide (ltT x39 t)))] (by kernel_rfl) ?_
              refine GI_end ?_
              refine X_then ?_
              refine V_if (ltT x39 t) (by kernel_rfl) (fun hc44 => ?_) (fun hc44 => ?_)
              · skip
                refine V_skip ?_
                refine X_then ?_
                refine V_block ?_
                refine V_region ?_
                have hw45 : IntKind.i64.wrap (((j : Nat) : Int) + 1) = ((j + 1 : Nat) : Int) := (wrap64_id (by omega) (by omega)).trans (by omega)
                refine OI_static 2 [(0, .pointer (some ⟨g, 0, none⟩)), (3, .pointer (some ⟨b1, 0, none⟩)), (55, .pointer (some ⟨g, 0, none⟩)), (56, .pointer (some ⟨g, 0, none⟩)), (57, .pointer (some ⟨g, 0, none⟩)), (58, .slice (some ⟨b36, o36, none⟩) ts.length cap), (59, .int .i64 ((j : Nat) : Int)), (60, .pointer (some ⟨b36, o36 + j * 36, none⟩)), (61, .agg (Tk.cells x39).toArray), (62, .agg (Tk.cells t).toArray), (63, .bool (decide (ltT x39 t))), (66, .int .i64 (IntKind.i64.wrap (((j : Nat) : Int) + 1)))] (by kernel_rfl) ?_
                refine OI_eq [(0, .pointer (some ⟨g, 0, none⟩)), (3, .pointer (some ⟨b1, 0, none⟩)), (55, .pointer (some ⟨g, 0, none⟩)), (56, .pointer (some ⟨g, 0, none⟩)), (57, .pointer (some ⟨g, 0, none⟩)), (58, .slice (some ⟨b36, o36, none⟩) ts.length cap), (59, .int .i64 ((j : Nat) : Int)), (60, .pointer (some ⟨b36, o36 + j * 36, none⟩)), (61, .agg (Tk.cells x39).toArray), (62, .agg (Tk.cells t).toArray), (63, .bool (decide (ltT x39 t))), (66, .int .i64 ((j + 1 : Nat) : Int))] (by rw [hw45]) ?_
                refine OI_static 3 [(0, .pointer (some ⟨g, 0, none⟩)), (3, .pointer (some ⟨b1, 0, none⟩)), (6, .int .i64 ((j + 1 : Nat) : Int)), (55, .pointer (some ⟨g, 0, none⟩)), (56, .pointer (some ⟨g, 0, none⟩)), (57, .pointer (some ⟨g, 0, none⟩)), (58, .slice (some ⟨b36, o36, none⟩) ts.length cap), (59, .int .i64 ((j : Nat) : Int)), (60, .pointer (some ⟨b36, o36 + j * 36, none⟩)), (61, .agg (Tk.cells x39).toArray), (62, .agg (Tk.cells t).toArray), (63, .bool (decide (ltT x39 t)))] (by kernel_rfl) ?_
                refine OI_end rfl ?_
                refine X_block ?_
                exact V_again (k26 - 1) (by omega) [(0, .pointer (some ⟨g, 0, none⟩)), (3, .pointer (some ⟨b1, 0, none⟩)), (6, .int .i64 ((j + 1 : Nat) : Int))] rfl ⟨j + 1, by omega, fun m y hj hy => by rcases Nat.lt_or_ge m j with h9 | h9; exact hlo m y h9 hy; (obtain rfl : m = j := by omega); rw [hx40] at hy; cases hy; assumption, hk27, rfl⟩
              · skip
                have hend : ∀ y, ts[j]? = some y → ¬ ltT y t := fun y hy => by rw [hx40] at hy; cases hy; exact hc44
                generalize hAe : (some (Addr.mk b36 o36 none) : Option Addr) = A at *
                refine V_exit ?_
                refine X_exit_then ?_
                refine X_exit_then ?_
                refine X_exit_here ?_
                refine X_then ?_
                refine V_seq ?_
                refine V_draws (acts [0, 7, 9, 10]) (fun q => q ≠ g ∧ q ≠ b1) [[0, 1, 2, 3, 4, 5, 6, 7, 8, 9, 10, 11], [0, 8, 9, 1, 2, 3, 4, 5, 6, 7, 10, 11], [8, 9, 0, 1, 2, 3, 4, 5, 6, 7, 10, 11]] (by kernel_rfl) (by repeat first | exact sure_body (by rintro _ _ ⟨h, _⟩; exact ⟨_, h⟩) | refine sure_then ?_ | refine sure_block ?_ | refine sure_join ?_) (by kernel_rfl) ?_
                intro w47 hk46 he48 L hL49
                have hsz50 := Keep.size hk46
                replace hg := hg.keep hk46 (fun f => f)
                have hglt := hg.lt
                replace hb1 := hb1.keep hk46 (fun f => f)
                have hb1lt := hb1.lt
                replace hA := SlT.keep0 hA hk46
                replace hK0 := Keep.tr hK0 (Keep.ofNone hk46); have hzhK0 := Keep.size hK0
                have qhg := hg
                have qhb1 := hb1
                have K51 : Keep (fun q => q ≠ g ∧ q ≠ b1) w47 w47 := Keep.refl _ _
                simp only [List.mem_cons, List.not_mem_nil, or_false] at hL49
                rcases hL49 with rfl | rfl | rfl
                · skip
                  refine GI_slit (E := 28) (zv := .agg #[.int .i64 0, .int .i64 0, .int .i64 0, .int .u8 0, .int .u8 0, .int .u8 0, .int .u8 0, .int .u8 0, .int .u8 0, .int .u8 0, .int .u8 0, .int .u8 0, .int .u8 0, .int .u8 0, .int .u8 0, .int .u8 0, .int .u8 0, .int .u8 0, .int .u8 0, .int .u8 0, .int .u8 0, .int .u8 0, .int .u8 0, .int .u8 0, .int .u8 0, .int .u8 0, .int .u8 0, .int .u8 0, .int .u8 0, .int .u8 0, .int .u8 0, .int .u8 0, .int .u8 0, .int .u8 0, .int .u8 0, .int .i64 0]) (sz := 36) (by_ := 64) 31 0 #[] [] [] (some 67) (by kernel_rfl) (by kernel_rfl) K51 (by kernel_rfl) (by kernel_rfl) (by omega) rfl (by omega) (by intro v hv; cases hv) (by kernel_rfl) rfl ?_
                  intro b52 w52 e52 hb52 k52 z52 K53
                  have hsz54 := Keep.size k52
                  replace hg := hg.keep k52 (fun f => f)
                  have hglt := hg.lt
                  replace hb1 := hb1.keep k52 (fun f => f)
                  have hb1lt := hb1.lt
                  replace hA := SlT.keep0 hA k52
                  replace hK0 := Keep.tr hK0 (Keep.ofNone k52); have hzhK0 := Keep.size hK0
                  have hb52lt := hb52.lt
                  refine GI_static [4, 5, 6, 7, 8, 9, 10, 11] [(0, .pointer (some ⟨g, 0, none⟩)), (3, .pointer (some ⟨b1, 0, none⟩)), (6, .int .i64 ((j : Nat) : Int)), (67, .slice (some ⟨b52, 0, none⟩) 0 0), (70, .pointer (some ⟨g, 0, none⟩))] (by kernel_rfl) ?_
                  refine GI_cell 31 (.tmp 70) 0 (.slice A ts.length cap) (some 71) (by kernel_rfl) (by kernel_rfl) (by kernel_rfl) qhg (by show ¬ (g ≠ g ∧ g ≠ b1); omega) (m := 1) (by kernel_rfl) rfl ?_
                  refine GI_static [6, 7, 8, 9, 10, 11] [(0, .pointer (some ⟨g, 0, none⟩)), (3, .pointer (some ⟨b1, 0, none⟩)), (6, .int .i64 ((j : Nat) : Int)), (67, .slice (some ⟨b52, 0, none⟩) 0 0), (71, .slice A ts.length cap), (72, .int .i64 ((j : Nat) : Int))] (by kernel_rfl) ?_
                  refine GI_pure (some 73) ((Op.slice 31 (Operand.tmp 71) none (some (Operand.tmp 72)) none)) (by kernel_rfl) (by kernel_rfl) (pure_sliceTo (E := 28) (sz := 36) (by_ := 64) (base := A) (len := ts.length) (cap := cap) (h := j) (kd := .i64) (by kernel_rfl) (by kernel_rfl) (by kernel_rfl) (by omega)) ?_
                  have hl55 : (ts.take j).length = j := by rw [List.length_take]; omega
                  have hy55 := (SlT.to hA (i := j) (by omega)).slr
                  rw [hl55] at hy55
                  refine GI_append (t := 31) (at2 := 31) (E := 28) (E2 := 28) (sz := 36) (by_ := 64) (zv := .agg #[.int .i64 0, .int .i64 0, .int .i64 0, .int .u8 0, .int .u8 0, .int .u8 0, .int .u8 0, .int .u8 0, .int .u8 0, .int .u8 0, .int .u8 0, .int .u8 0, .int .u8 0, .int .u8 0, .int .u8 0, .int .u8 0, .int .u8 0, .int .u8 0, .int .u8 0, .int .u8 0, .int .u8 0, .int .u8 0, .int .u8 0, .int .u8 0, .int .u8 0, .int .u8 0, .int .u8 0, .int .u8 0, .int .u8 0, .int .u8 0, .int .u8 0, .int .u8 0, .int .u8 0, .int .u8 0, .int .u8 0, .int .i64 0]) (m := ([] : List Tk).length) (k := j) (.tmp 67) (.tmp 73) (.slice (some ⟨b52, 0, none⟩) 0 0) (.slice A j cap) (some 74) (by kernel_rfl) (by kernel_rfl) (by kernel_rfl) (by kernel_rfl) (by kernel_rfl) (by kernel_rfl) (by kernel_rfl) (by kernel_rfl) (SlT.slr (slt_blk (xs := ([] : List Tk)) (f := Tk.cells) (sz := 36) hb52 Tk.len rfl)) hy55 (fun u hu => by obtain ⟨z, _, hz⟩ := List.mem_flatMap.1 hu; exact Tk.one z u hz) (by first | omega | ((repeat first | rw [List.length_append] | rw [List.length_cons] | rw [List.length_nil] | rw [List.length_take] | rw [List.length_drop]) <;> omega)) (by omega) (by first | omega | ((repeat first | rw [List.length_append] | rw [List.length_cons] | rw [List.length_nil] | rw [List.length_take] | rw [List.length_drop]) <;> omega)) (by omega) ?_
                  intro vv9 w55 hap
                  obtain ⟨A55, cap55, rfl, hA55, hk55, own55x⟩ := app_many (f := Tk.cells) (xs := ([] : List Tk)) (ys := (ts.take j)) (A := (some ⟨b52, 0, none⟩)) (cap := 0) hap hl55 Tk.len
                  replace hk55 : Keep (only b52) w52 w55 := hk55.mono (fun i _ h => inA_some h)
                  have own55 : ∀ q, inA A55 q → w.heap.size ≤ q ∧ q ≠ b1 := fun q hq => by rcases own55x q hq with h | h; (have h9 := inA_some h; show w.heap.size ≤ q ∧ q ≠ b1; omega); (show w.heap.size ≤ q ∧ q ≠ b1; omega)
                  refine ⟨Keep.fresh K53 hk55 (by intro i hi hs; have hs2 : i = b52 := hs; show i ≠ g ∧ i ≠ b1; omega), ?_⟩
                  have K56 := Keep.fresh K53 hk55 (by intro i hi hs; have hs2 : i = b52 := hs; show i ≠ g ∧ i ≠ b1; omega)
                  rw [List.nil_append] at hA55
                  have hsz57 := Keep.size hk55
                  replace hg := hg.keep hk55 (by show ¬ (_ = _); omega)
                  have hglt := hg.lt
                  replace hb1 := hb1.keep hk55 (by show ¬ (_ = _); omega)
                  have hb1lt := hb1.lt
                  replace hA := SlT.keep hA hk55 (fun q hq hs => by have hs : q = b52 := hs; have g0 := hAg q hq; have g1 := hltA q hq; omega)
                  replace hK0 := Keep.fresh hK0 hk55 (by intro i hi hs; have hs2 : i = b52 := hs; first | (exfalso; omega) | (rw [hs2]; exact hFg)); have hzhK0 := Keep.size hK0
                  have lt55 := SlT.lt hA55
                  have hcap55 := SlT.cap_le hA55
                  refine GI_agg 28 (.tmp 3) 0 (Tk.cells t) (some 75) (by kernel_rfl) (by kernel_rfl) (by kernel_rfl) qhb1 (by show ¬ (b1 ≠ g ∧ b1 ≠ b1); omega) (m := 36) (by kernel_rfl) (take_all (Tk.len _)) (Tk.len _) ?_
                  refine GI_slit (E := 28) (zv := .agg #[.int .i64 0, .int .i64 0, .int .i64 0, .int .u8 0, .int .u8 0, .int .u8 0, .int .u8 0, .int .u8 0, .int .u8 0, .int .u8 0, .int .u8 0, .int .u8 0, .int .u8 0, .int .u8 0, .int .u8 0, .int .u8 0, .int .u8 0, .int .u8 0, .int .u8 0, .int .u8 0, .int .u8 0, .int .u8 0, .int .u8 0, .int .u8 0, .int .u8 0, .int .u8 0, .int .u8 0, .int .u8 0, .int .u8 0, .int .u8 0, .int .u8 0, .int .u8 0, .int .u8 0, .int .u8 0, .int .u8 0, .int .i64 0]) (sz := 36) (by_ := 64) 31 1 #[(0, (Operand.tmp 75))] [.agg (Tk.cells t).toArray] (Tk.cells t) (some 76) (by kernel_rfl) (by kernel_rfl) K56 (by kernel_rfl) (by kernel_rfl) (by omega) rfl (by omega) (by intro v hv; obtain rfl := List.mem_singleton.1 hv; show (Tk.cells t).toArray.size = 36; simp [Tk.len]) (by kernel_rfl) (by show (Tk.cells t).toArray.toList ++ [] = _; simp) ?_
                  intro b58 w58 e58 hb58 k58 z58 K59
                  have hsz60 := Keep.size k58
                  replace hg := hg.keep k58 (fun f => f)
                  have hglt := hg.lt
                  replace hb1 := hb1.keep k58 (fun f => f)
                  have hb1lt := hb1.lt
                  replace hA := SlT.keep0 hA k58
                  replace hA55 := SlT.keep0 hA55 k58
                  replace hK0 := Keep.tr hK0 (Keep.ofNone k58); have hzhK0 := Keep.size hK0
                  have hb58lt := hb58.lt
                  refine GI_append (t := 31) (at2 := 31) (E := 28) (E2 := 28) (sz := 36) (by_ := 64) (zv := .agg #[.int .i64 0, .int .i64 0, .int .i64 0, .int .u8 0, .int .u8 0, .int .u8 0, .int .u8 0, .int .u8 0, .int .u8 0, .int .u8 0, .int .u8 0, .int .u8 0, .int .u8 0, .int .u8 0, .int .u8 0, .int .u8 0, .int .u8 0, .int .u8 0, .int .u8 0, .int .u8 0, .int .u8 0, .int .u8 0, .int .u8 0, .int .u8 0, .int .u8 0, .int .u8 0, .int .u8 0, .int .u8 0, .int .u8 0, .int .u8 0, .int .u8 0, .int .u8 0, .int .u8 0, .int .u8 0, .int .u8 0, .int .i64 0]) (m := (ts.take j).length) (k := 1) (.tmp 74) (.tmp 76) (.slice A55 ((ts.take j).length) cap55) (.slice (some ⟨b58, 0, none⟩) 1 1) (some 77) (by kernel_rfl) (by kernel_rfl) (by kernel_rfl) (by kernel_rfl) (by kernel_rfl) (by kernel_rfl) (by kernel_rfl) (by kernel_rfl) (SlT.slr hA55) (slr_one hb58 (Tk.len t)) (Tk.one t) (by first | omega | (simp only [List.length_nil]; omega)) (by omega) (by first | omega | (simp only [List.length_nil]; omega)) (by omega) ?_
                  intro vv9 w61 hap
                  obtain ⟨A61, cap61, rfl, hA61, hk61, own61x⟩ := app_one (f := Tk.cells) (xs := (ts.take j)) (x := t) (A := A55) (cap := cap55) hap (fun x _ => Tk.len x) (Tk.len _)
                  have own61 : ∀ q, inA A61 q → w.heap.size ≤ q ∧ q ≠ b1 := fun q hq => by rcases own61x q hq with h | h; exact own55 q h; (show w.heap.size ≤ q ∧ q ≠ b1; omega)
                  refine ⟨Keep.fresh K59 hk61 (by intro i hi hs; have h1 := own55 i hs; have h2 := lt55 i hs; show i ≠ g ∧ i ≠ b1; omega), ?_⟩
                  have K62 := Keep.fresh K59 hk61 (by intro i hi hs; have h1 := own55 i hs; have h2 := lt55 i hs; show i ≠ g ∧ i ≠ b1; omega)
                  have hsz63 := Keep.size hk61
                  replace hg := hg.keep hk61 (fun hs => by have h1 := own55 _ hs; have h2 := lt55 _ hs; omega)
                  have hglt := hg.lt
                  replace hb1 := hb1.keep hk61 (fun hs => by have h1 := own55 _ hs; have h2 := lt55 _ hs; omega)
                  have hb1lt := hb1.lt
                  replace hA := SlT.keep hA hk61 (fun q hq hs => by have g0 := hAg q hq; have g1 := hltA q hq; have h1 := own55 q hs; have h2 := lt55 q hs; omega)
                  replace hK0 := Keep.fresh hK0 hk61 (by intro i hi hs; first | exact hs | (exfalso; have h1 := own55 i hs; have h2 := lt55 i hs; omega) | (have h1 := own55 i hs; have h2 := lt55 i hs; show _ ∨ _; omega)); have hzhK0 := Keep.size hK0
                  have lt61 := SlT.lt hA61
                  refine GI_static [] [(0, .pointer (some ⟨g, 0, none⟩)), (6, .int .i64 ((j : Nat) : Int)), (7, .slice A61 (((ts.take j) ++ [t]).length) cap61)] (by kernel_rfl) ?_
                  refine GI_end ?_
                  refine X_then ?_
                  refine V_seq ?_
                  refine V_region ?_
                  refine OI_static 5 [(6, .int .i64 ((j : Nat) : Int)), (78, .pointer (some ⟨g, 0, none⟩)), (79, .slice A61 (((ts.take j) ++ [t]).length) cap61), (82, .pointer (some ⟨g, 0, none⟩))] (by kernel_rfl) ?_
                  refine OI_cell 31 (.tmp 82) 0 (.slice A ts.length cap) (some 83) (by kernel_rfl) (by kernel_rfl) hg (m := 1) (by kernel_rfl) rfl ?_
                  refine OI_static 7 [(78, .pointer (some ⟨g, 0, none⟩)), (79, .slice A61 (((ts.take j) ++ [t]).length) cap61), (83, .slice A ts.length cap), (84, .int .i64 ((j : Nat) : Int))] (by kernel_rfl) ?_
                  refine OI_pure (some 85) ((Op.slice 31 (Operand.tmp 83) (some (Operand.tmp 84)) none none)) (by kernel_rfl) (pure_sliceSuf (E := 28) (sz := 36) (by_ := 64) (A := A) (len := ts.length) (cap := cap) (l := j) (kd := .i64) (by kernel_rfl) (by kernel_rfl) (by kernel_rfl) (by omega) (by omega)) ?_
                  have hl64 : (ts.drop j).length = ts.length - j := List.length_drop
                  have hy64 := (SlT.from_ hA (i := j) (by omega)).slr
                  rw [hl64] at hy64
                  refine OI_append (t := 31) (at2 := 31) (E := 28) (E2 := 28) (sz := 36) (by_ := 64) (zv := .agg #[.int .i64 0, .int .i64 0, .int .i64 0, .int .u8 0, .int .u8 0, .int .u8 0, .int .u8 0, .int .u8 0, .int .u8 0, .int .u8 0, .int .u8 0, .int .u8 0, .int .u8 0, .int .u8 0, .int .u8 0, .int .u8 0, .int .u8 0, .int .u8 0, .int .u8 0, .int .u8 0, .int .u8 0, .int .u8 0, .int .u8 0, .int .u8 0, .int .u8 0, .int .u8 0, .int .u8 0, .int .u8 0, .int .u8 0, .int .u8 0, .int .u8 0, .int .u8 0, .int .u8 0, .int .u8 0, .int .u8 0, .int .i64 0]) (m := ((ts.take j) ++ [t]).length) (k := ts.length - j) (.tmp 79) (.tmp 85) (.slice A61 (((ts.take j) ++ [t]).length) cap61) (.slice (sufA A cap j 36) (ts.length - j) (cap - j)) (some 86) (by kernel_rfl) (by kernel_rfl) (by kernel_rfl) (by kernel_rfl) (by kernel_rfl) (by kernel_rfl) (by kernel_rfl) (SlT.slr hA61) hy64 (fun u hu => by obtain ⟨z, _, hz⟩ := List.mem_flatMap.1 hu; exact Tk.one z u hz) (by first | omega | ((repeat first | rw [List.length_append] | rw [List.length_cons] | rw [List.length_nil] | rw [List.length_take] | rw [List.length_drop]) <;> omega)) (by omega) (by first | omega | ((repeat first | rw [List.length_append] | rw [List.length_cons] | rw [List.length_nil] | rw [List.length_take] | rw [List.length_drop]) <;> omega)) (by omega) ?_
                  intro vv9 w64 hap
                  obtain ⟨A64, cap64, rfl, hA64, hk64, own64x⟩ := app_many (f := Tk.cells) (xs := ((ts.take j) ++ [t])) (ys := (ts.drop j)) (A := A61) (cap := cap61) hap hl64 Tk.len
                  have own64 : ∀ q, inA A64 q → w.heap.size ≤ q ∧ q ≠ b1 := fun q hq => by rcases own64x q hq with h | h; (have h8 := own61 q h; have h9 := lt61 q h; show w.heap.size ≤ q ∧ q ≠ b1; omega); (show w.heap.size ≤ q ∧ q ≠ b1; omega)
                  have hsz65 := Keep.size hk64
                  replace hg := hg.keep hk64 (fun hs => by have h1 := own61 _ hs; have h2 := lt61 _ hs; omega)
                  have hglt := hg.lt
                  replace hb1 := hb1.keep hk64 (fun hs => by have h1 := own61 _ hs; have h2 := lt61 _ hs; omega)
                  have hb1lt := hb1.lt
                  replace hA := SlT.keep hA hk64 (fun q hq hs => by have g0 := hAg q hq; have g1 := hltA q hq; have h1 := own61 q hs; have h2 := lt61 q hs; omega)
                  replace hK0 := Keep.fresh hK0 hk64 (by intro i hi hs; first | exact hs | (exfalso; have h1 := own61 i hs; have h2 := lt61 i hs; omega) | (have h1 := own61 i hs; have h2 := lt61 i hs; show _ ∨ _; omega)); have hzhK0 := Keep.size hK0
                  have lt64 := SlT.lt hA64
                  have hcap64 := SlT.cap_le hA64
                  refine OI_static 11 [(86, .slice A64 ((((ts.take j) ++ [t]) ++ (ts.drop j)).length) cap64), (88, .pointer (some ⟨g, 0, none⟩))] (by kernel_rfl) ?_
                  refine OI_set (m := 1) (kd := false) 31 (.tmp 88) (.tmp 86) 0 (.slice A64 ((((ts.take j) ++ [t]) ++ (ts.drop j)).length) cap64) [.slice A64 ((((ts.take j) ++ [t]) ++ (ts.drop j)).length) cap64] none (by kernel_rfl) (by kernel_rfl) (by kernel_rfl) hg (by kernel_rfl) (by kernel_rfl) (by kernel_rfl) (Nat.le_of_ble_eq_true (by kernel_rfl)) (by simp [Value.oneCell']) ?_
                  intro w66 hg_69 hk67 hz68
                  replace hg_69 : Blk w66 g [.slice A64 ((((ts.take j) ++ [t]) ++ (ts.drop j)).length) cap64] 46 := hg_69
                  have hsz70 := Keep.size hk67
                  replace hb1 := hb1.keep hk67 (by show ¬ (_ = _); omega)
                  have hb1lt := hb1.lt
                  replace hA := SlT.keep hA hk67 (fun q hq hs => by have hs : q = g := hs; have g0 := hAg q hq; have g1 := hltA q hq; omega)
                  replace hA64 := SlT.keep hA64 hk67 (fun q hq hs => by have hs : q = g := hs; have g0 := own64 q hq; have g1 := lt64 q hq; omega)
                  replace hK0 := Keep.fresh hK0 hk67 (by intro i hi hs; have hs2 : i = g := hs; first | (exfalso; omega) | (rw [hs2]; exact hFg)); have hzhK0 := Keep.size hK0
                  refine OI_end rfl ?_
                  refine X_then ?_
                  refine V_seq ?_
                  refine V_region ?_
                  refine OI_static 1 [(4, .int .i64 0)] (by kernel_rfl) ?_
                  refine OI_end rfl ?_
                  refine X_then ?_
                  refine V_ret ?_
                  have hp0 : ¬ (t.name < 0 ∨ t.at_ < 0 ∨ t.pr < 0) := by omega
                  have hany2 : ¬ ts.any (named t.name) = true := by rw [hany]; decide
                  have hp : putR t ts = (0, ins t ts) := by unfold putR; rw [if_neg hp0, if_neg hany2, if_neg (by omega)]
                  have hins := ins_first ts t j (by omega) hlo hend
                  have hE : (((ts.take j) ++ [t]) ++ (ts.drop j)) = ins t ts := by rw [← hins]; simp
                  rw [hE] at hA64
                  rw [hp]
                  exact X_return (.int .i64 0) rfl ⟨rfl, ⟨moreT F w w66, ⟨by rw [ins_len]; omega, .inl hFg, (fun q hq => by rcases hq with hq | hq; (have h9 := hFlt q hq; omega); exact hq.2), A64, cap64, ⟨by have h9 := hg_69; rw [hE] at h9; exact h9, hA64, fun hh => by have h9 := own64 g hh; omega⟩, fun q hq => .inr ⟨by have h9 := own64 q hq; omega, by have h9 := lt64 q hq; omega⟩⟩, fun q hq => hq.imp id (·.1)⟩, hK0⟩
                · skip
                  refine GI_slit (E := 28) (zv := .agg #[.int .i64 0, .int .i64 0, .int .i64 0, .int .u8 0, .int .u8 0, .int .u8 0, .int .u8 0, .int .u8 0, .int .u8 0, .int .u8 0, .int .u8 0, .int .u8 0, .int .u8 0, .int .u8 0, .int .u8 0, .int .u8 0, .int .u8 0, .int .u8 0, .int .u8 0, .int .u8 0, .int .u8 0, .int .u8 0, .int .u8 0, .int .u8 0, .int .u8 0, .int .u8 0, .int .u8 0, .int .u8 0, .int .u8 0, .int .u8 0, .int .u8 0, .int .u8 0, .int .u8 0, .int .u8 0, .int .u8 0, .int .i64 0]) (sz := 36) (by_ := 64) 31 0 #[] [] [] (some 67) (by kernel_rfl) (by kernel_rfl) K51 (by kernel_rfl) (by kernel_rfl) (by omega) rfl (by omega) (by intro v hv; cases hv) (by kernel_rfl) rfl ?_
                  intro b71 w71 e71 hb71 k71 z71 K72
                  have hsz73 := Keep.size k71
                  replace hg := hg.keep k71 (fun f => f)
                  have hglt := hg.lt
                  replace hb1 := hb1.keep k71 (fun f => f)
                  have hb1lt := hb1.lt
                  replace hA := SlT.keep0 hA k71
                  replace hK0 := Keep.tr hK0 (Keep.ofNone k71); have hzhK0 := Keep.size hK0
                  have hb71lt := hb71.lt
                  refine GI_agg 28 (.tmp 3) 0 (Tk.cells t) (some 75) (by kernel_rfl) (by kernel_rfl) (by kernel_rfl) qhb1 (by show ¬ (b1 ≠ g ∧ b1 ≠ b1); omega) (m := 36) (by kernel_rfl) (take_all (Tk.len _)) (Tk.len _) ?_
                  refine GI_slit (E := 28) (zv := .agg #[.int .i64 0, .int .i64 0, .int .i64 0, .int .u8 0, .int .u8 0, .int .u8 0, .int .u8 0, .int .u8 0, .int .u8 0, .int .u8 0, .int .u8 0, .int .u8 0, .int .u8 0, .int .u8 0, .int .u8 0, .int .u8 0, .int .u8 0, .int .u8 0, .int .u8 0, .int .u8 0, .int .u8 0, .int .u8 0, .int .u8 0, .int .u8 0, .int .u8 0, .int .u8 0, .int .u8 0, .int .u8 0, .int .u8 0, .int .u8 0, .int .u8 0, .int .u8 0, .int .u8 0, .int .u8 0, .int .u8 0, .int .i64 0]) (sz := 36) (by_ := 64) 31 1 #[(0, (Operand.tmp 75))] [.agg (Tk.cells t).toArray] (Tk.cells t) (some 76) (by kernel_rfl) (by kernel_rfl) K72 (by kernel_rfl) (by kernel_rfl) (by omega) rfl (by omega) (by intro v hv; obtain rfl := List.mem_singleton.1 hv; show (Tk.cells t).toArray.size = 36; simp [Tk.len]) (by kernel_rfl) (by show (Tk.cells t).toArray.toList ++ [] = _; simp) ?_
                  intro b74 w74 e74 hb74 k74 z74 K75
                  have hsz76 := Keep.size k74
                  replace hg := hg.keep k74 (fun f => f)
                  have hglt := hg.lt
                  replace hb1 := hb1.keep k74 (fun f => f)
                  have hb1lt := hb1.lt
                  replace hb71 := hb71.keep k74 (fun f => f)
                  have hb71lt := hb71.lt
                  replace hA := SlT.keep0 hA k74
                  replace hK0 := Keep.tr hK0 (Keep.ofNone k74); have hzhK0 := Keep.size hK0
                  have hb74lt := hb74.lt
                  refine GI_static [4, 5, 6, 7, 10, 11] [(0, .pointer (some ⟨g, 0, none⟩)), (6, .int .i64 ((j : Nat) : Int)), (67, .slice (some ⟨b71, 0, none⟩) 0 0), (70, .pointer (some ⟨g, 0, none⟩)), (76, .slice (some ⟨b74, 0, none⟩) 1 1)] (by kernel_rfl) ?_
                  refine GI_cell 31 (.tmp 70) 0 (.slice A ts.length cap) (some 71) (by kernel_rfl) (by kernel_rfl) (by kernel_rfl) qhg (by show ¬ (g ≠ g ∧ g ≠ b1); omega) (m := 1) (by kernel_rfl) rfl ?_
                  refine GI_static [6, 7, 10, 11] [(0, .pointer (some ⟨g, 0, none⟩)), (6, .int .i64 ((j : Nat) : Int)), (67, .slice (some ⟨b71, 0, none⟩) 0 0), (71, .slice A ts.length cap), (72, .int .i64 ((j : Nat) : Int)), (76, .slice (some ⟨b74, 0, none⟩) 1 1)] (by kernel_rfl) ?_
                  refine GI_pure (some 73) ((Op.slice 31 (Operand.tmp 71) none (some (Operand.tmp 72)) none)) (by kernel_rfl) (by kernel_rfl) (pure_sliceTo (E := 28) (sz := 36) (by_ := 64) (base := A) (len := ts.length) (cap := cap) (h := j) (kd := .i64) (by kernel_rfl) (by kernel_rfl) (by kernel_rfl) (by omega)) ?_
                  have hl77 : (ts.take j).length = j := by rw [List.length_take]; omega
                  have hy77 := (SlT.to hA (i := j) (by omega)).slr
                  rw [hl77] at hy77
                  refine GI_append (t := 31) (at2 := 31) (E := 28) (E2 := 28) (sz := 36) (by_ := 64) (zv := .agg #[.int .i64 0, .int .i64 0, .int .i64 0, .int .u8 0, .int .u8 0, .int .u8 0, .int .u8 0, .int .u8 0, .int .u8 0, .int .u8 0, .int .u8 0, .int .u8 0, .int .u8 0, .int .u8 0, .int .u8 0, .int .u8 0, .int .u8 0, .int .u8 0, .int .u8 0, .int .u8 0, .int .u8 0, .int .u8 0, .int .u8 0, .int .u8 0, .int .u8 0, .int .u8 0, .int .u8 0, .int .u8 0, .int .u8 0, .int .u8 0, .int .u8 0, .int .u8 0, .int .u8 0, .int .u8 0, .int .u8 0, .int .i64 0]) (m := ([] : List Tk).length) (k := j) (.tmp 67) (.tmp 73) (.slice (some ⟨b71, 0, none⟩) 0 0) (.slice A j cap) (some 74) (by kernel_rfl) (by kernel_rfl) (by kernel_rfl) (by kernel_rfl) (by kernel_rfl) (by kernel_rfl) (by kernel_rfl) (by kernel_rfl) (SlT.slr (slt_blk (xs := ([] : List Tk)) (f := Tk.cells) (sz := 36) hb71 Tk.len rfl)) hy77 (fun u hu => by obtain ⟨z, _, hz⟩ := List.mem_flatMap.1 hu; exact Tk.one z u hz) (by first | omega | ((repeat first | rw [List.length_append] | rw [List.length_cons] | rw [List.length_nil] | rw [List.length_take] | rw [List.length_drop]) <;> omega)) (by omega) (by first | omega | ((repeat first | rw [List.length_append] | rw [List.length_cons] | rw [List.length_nil] | rw [List.length_take] | rw [List.length_drop]) <;> omega)) (by omega) ?_
                  intro vv9 w77 hap
                  obtain ⟨A77, cap77, rfl, hA77, hk77, own77x⟩ := app_many (f := Tk.cells) (xs := ([] : List Tk)) (ys := (ts.take j)) (A := (some ⟨b71, 0, none⟩)) (cap := 0) hap hl77 Tk.len
                  replace hk77 : Keep (only b71) w74 w77 := hk77.mono (fun i _ h => inA_some h)
                  have own77 : ∀ q, inA A77 q → w.heap.size ≤ q ∧ q ≠ b1 := fun q hq => by rcases own77x q hq with h | h; (have h9 := inA_some h; show w.heap.size ≤ q ∧ q ≠ b1; omega); (show w.heap.size ≤ q ∧ q ≠ b1; omega)
                  refine ⟨Keep.fresh K75 hk77 (by intro i hi hs; have hs2 : i = b71 := hs; show i ≠ g ∧ i ≠ b1; omega), ?_⟩
                  have K78 := Keep.fresh K75 hk77 (by intro i hi hs; have hs2 : i = b71 := hs; show i ≠ g ∧ i ≠ b1; omega)
                  rw [List.nil_append] at hA77
                  have hsz79 := Keep.size hk77
                  replace hg := hg.keep hk77 (by show ¬ (_ = _); omega)
                  have hglt := hg.lt
                  replace hb1 := hb1.keep hk77 (by show ¬ (_ = _); omega)
                  have hb1lt := hb1.lt
                  replace hb74 := hb74.keep hk77 (by show ¬ (_ = _); omega)
                  have hb74lt := hb74.lt
                  replace hA := SlT.keep hA hk77 (fun q hq hs => by have hs : q = b71 := hs; have g0 := hAg q hq; have g1 := hltA q hq; omega)
                  replace hK0 := Keep.fresh hK0 hk77 (by intro i hi hs; have hs2 : i = b71 := hs; first | (exfalso; omega) | (rw [hs2]; exact hFg)); have hzhK0 := Keep.size hK0
                  have lt77 := SlT.lt hA77
                  have hcap77 := SlT.cap_le hA77
                  refine GI_append (t := 31) (at2 := 31) (E := 28) (E2 := 28) (sz := 36) (by_ := 64) (zv := .agg #[.int .i64 0, .int .i64 0, .int .i64 0, .int .u8 0, .int .u8 0, .int .u8 0, .int .u8 0, .int .u8 0, .int .u8 0, .int .u8 0, .int .u8 0, .int .u8 0, .int .u8 0, .int .u8 0, .int .u8 0, .int .u8 0, .int .u8 0, .int .u8 0, .int .u8 0, .int .u8 0, .int .u8 0, .int .u8 0, .int .u8 0, .int .u8 0, .int .u8 0, .int .u8 0, .int .u8 0, .int .u8 0, .int .u8 0, .int .u8 0, .int .u8 0, .int .u8 0, .int .u8 0, .int .u8 0, .int .u8 0, .int .i64 0]) (m := (ts.take j).length) (k := 1) (.tmp 74) (.tmp 76) (.slice A77 ((ts.take j).length) cap77) (.slice (some ⟨b74, 0, none⟩) 1 1) (some 77) (by kernel_rfl) (by kernel_rfl) (by kernel_rfl) (by kernel_rfl) (by kernel_rfl) (by kernel_rfl) (by kernel_rfl) (by kernel_rfl) (SlT.slr hA77) (slr_one hb74 (Tk.len t)) (Tk.one t) (by first | omega | (simp only [List.length_nil]; omega)) (by omega) (by first | omega | (simp only [List.length_nil]; omega)) (by omega) ?_
                  intro vv9 w80 hap
                  obtain ⟨A80, cap80, rfl, hA80, hk80, own80x⟩ := app_one (f := Tk.cells) (xs := (ts.take j)) (x := t) (A := A77) (cap := cap77) hap (fun x _ => Tk.len x) (Tk.len _)
                  have own80 : ∀ q, inA A80 q → w.heap.size ≤ q ∧ q ≠ b1 := fun q hq => by rcases own80x q hq with h | h; exact own77 q h; (show w.heap.size ≤ q ∧ q ≠ b1; omega)
                  refine ⟨Keep.fresh K78 hk80 (by intro i hi hs; have h1 := own77 i hs; have h2 := lt77 i hs; show i ≠ g ∧ i ≠ b1; omega), ?_⟩
                  have K81 := Keep.fresh K78 hk80 (by intro i hi hs; have h1 := own77 i hs; have h2 := lt77 i hs; show i ≠ g ∧ i ≠ b1; omega)
                  have hsz82 := Keep.size hk80
                  replace hg := hg.keep hk80 (fun hs => by have h1 := own77 _ hs; have h2 := lt77 _ hs; omega)
                  have hglt := hg.lt
                  replace hb1 := hb1.keep hk80 (fun hs => by have h1 := own77 _ hs; have h2 := lt77 _ hs; omega)
                  have hb1lt := hb1.lt
                  replace hA := SlT.keep hA hk80 (fun q hq hs => by have g0 := hAg q hq; have g1 := hltA q hq; have h1 := own77 q hs; have h2 := lt77 q hs; omega)
                  replace hK0 := Keep.fresh hK0 hk80 (by intro i hi hs; first | exact hs | (exfalso; have h1 := own77 i hs; have h2 := lt77 i hs; omega) | (have h1 := own77 i hs; have h2 := lt77 i hs; show _ ∨ _; omega)); have hzhK0 := Keep.size hK0
                  have lt80 := SlT.lt hA80
                  refine GI_static [] [(0, .pointer (some ⟨g, 0, none⟩)), (6, .int .i64 ((j : Nat) : Int)), (7, .slice A80 (((ts.take j) ++ [t]).length) cap80)] (by kernel_rfl) ?_
                  refine GI_end ?_
                  refine X_then ?_
                  refine V_seq ?_
                  refine V_region ?_
                  refine OI_static 5 [(6, .int .i64 ((j : Nat) : Int)), (78, .pointer (some ⟨g, 0, none⟩)), (79, .slice A80 (((ts.take j) ++ [t]).length) cap80), (82, .pointer (some ⟨g, 0, none⟩))] (by kernel_rfl) ?_
                  refine OI_cell 31 (.tmp 82) 0 (.slice A ts.length cap) (some 83) (by kernel_rfl) (by kernel_rfl) hg (m := 1) (by kernel_rfl) rfl ?_
                  refine OI_static 7 [(78, .pointer (some ⟨g, 0, none⟩)), (79, .slice A80 (((ts.take j) ++ [t]).length) cap80), (83, .slice A ts.length cap), (84, .int .i64 ((j : Nat) : Int))] (by kernel_rfl) ?_
                  refine OI_pure (some 85) ((Op.slice 31 (Operand.tmp 83) (some (Operand.tmp 84)) none none)) (by kernel_rfl) (pure_sliceSuf (E := 28) (sz := 36) (by_ := 64) (A := A) (len := ts.length) (cap := cap) (l := j) (kd := .i64) (by kernel_rfl) (by kernel_rfl) (by kernel_rfl) (by omega) (by omega)) ?_
                  have hl83 : (ts.drop j).length = ts.length - j := List.length_drop
                  have hy83 := (SlT.from_ hA (i := j) (by omega)).slr
                  rw [hl83] at hy83
                  refine OI_append (t := 31) (at2 := 31) (E := 28) (E2 := 28) (sz := 36) (by_ := 64) (zv := .agg #[.int .i64 0, .int .i64 0, .int .i64 0, .int .u8 0, .int .u8 0, .int .u8 0, .int .u8 0, .int .u8 0, .int .u8 0, .int .u8 0, .int .u8 0, .int .u8 0, .int .u8 0, .int .u8 0, .int .u8 0, .int .u8 0, .int .u8 0, .int .u8 0, .int .u8 0, .int .u8 0, .int .u8 0, .int .u8 0, .int .u8 0, .int .u8 0, .int .u8 0, .int .u8 0, .int .u8 0, .int .u8 0, .int .u8 0, .int .u8 0, .int .u8 0, .int .u8 0, .int .u8 0, .int .u8 0, .int .u8 0, .int .i64 0]) (m := ((ts.take j) ++ [t]).length) (k := ts.length - j) (.tmp 79) (.tmp 85) (.slice A80 (((ts.take j) ++ [t]).length) cap80) (.slice (sufA A cap j 36) (ts.length - j) (cap - j)) (some 86) (by kernel_rfl) (by kernel_rfl) (by kernel_rfl) (by kernel_rfl) (by kernel_rfl) (by kernel_rfl) (by kernel_rfl) (SlT.slr hA80) hy83 (fun u hu => by obtain ⟨z, _, hz⟩ := List.mem_flatMap.1 hu; exact Tk.one z u hz) (by first | omega | ((repeat first | rw [List.length_append] | rw [List.length_cons] | rw [List.length_nil] | rw [List.length_take] | rw [List.length_drop]) <;> omega)) (by omega) (by first | omega | ((repeat first | rw [List.length_append] | rw [List.length_cons] | rw [List.length_nil] | rw [List.length_take] | rw [List.length_drop]) <;> omega)) (by omega) ?_
                  intro vv9 w83 hap
                  obtain ⟨A83, cap83, rfl, hA83, hk83, own83x⟩ := app_many (f := Tk.cells) (xs := ((ts.take j) ++ [t])) (ys := (ts.drop j)) (A := A80) (cap := cap80) hap hl83 Tk.len
                  have own83 : ∀ q, inA A83 q → w.heap.size ≤ q ∧ q ≠ b1 := fun q hq => by rcases own83x q hq with h | h; (have h8 := own80 q h; have h9 := lt80 q h; show w.heap.size ≤ q ∧ q ≠ b1; omega); (show w.heap.size ≤ q ∧ q ≠ b1; omega)
                  have hsz84 := Keep.size hk83
                  replace hg := hg.keep hk83 (fun hs => by have h1 := own80 _ hs; have h2 := lt80 _ hs; omega)
                  have hglt := hg.lt
                  replace hb1 := hb1.keep hk83 (fun hs => by have h1 := own80 _ hs; have h2 := lt80 _ hs; omega)
                  have hb1lt := hb1.lt
                  replace hA := SlT.keep hA hk83 (fun q hq hs => by have g0 := hAg q hq; have g1 := hltA q hq; have h1 := own80 q hs; have h2 := lt80 q hs; omega)
                  replace hK0 := Keep.fresh hK0 hk83 (by intro i hi hs; first | exact hs | (exfalso; have h1 := own80 i hs; have h2 := lt80 i hs; omega) | (have h1 := own80 i hs; have h2 := lt80 i hs; show _ ∨ _; omega)); have hzhK0 := Keep.size hK0
                  have lt83 := SlT.lt hA83
                  have hcap83 := SlT.cap_le hA83
                  refine OI_static 11 [(86, .slice A83 ((((ts.take j) ++ [t]) ++ (ts.drop j)).length) cap83), (88, .pointer (some ⟨g, 0, none⟩))] (by kernel_rfl) ?_
                  refine OI_set (m := 1) (kd := false) 31 (.tmp 88) (.tmp 86) 0 (.slice A83 ((((ts.take j) ++ [t]) ++ (ts.drop j)).length) cap83) [.slice A83 ((((ts.take j) ++ [t]) ++ (ts.drop j)).length) cap83] none (by kernel_rfl) (by kernel_rfl) (by kernel_rfl) hg (by kernel_rfl) (by kernel_rfl) (by kernel_rfl) (Nat.le_of_ble_eq_true (by kernel_rfl)) (by simp [Value.oneCell']) ?_
                  intro w85 hg_88 hk86 hz87
                  replace hg_88 : Blk w85 g [.slice A83 ((((ts.take j) ++ [t]) ++ (ts.drop j)).length) cap83] 46 := hg_88
                  have hsz89 := Keep.size hk86
                  replace hb1 := hb1.keep hk86 (by show ¬ (_ = _); omega)
                  have hb1lt := hb1.lt
                  replace hA := SlT.keep hA hk86 (fun q hq hs => by have hs : q = g := hs; have g0 := hAg q hq; have g1 := hltA q hq; omega)
                  replace hA83 := SlT.keep hA83 hk86 (fun q hq hs => by have hs : q = g := hs; have g0 := own83 q hq; have g1 := lt83 q hq; omega)
                  replace hK0 := Keep.fresh hK0 hk86 (by intro i hi hs; have hs2 : i = g := hs; first | (exfalso; omega) | (rw [hs2]; exact hFg)); have hzhK0 := Keep.size hK0
                  refine OI_end rfl ?_
                  refine X_then ?_
                  refine V_seq ?_
                  refine V_region ?_
                  refine OI_static 1 [(4, .int .i64 0)] (by kernel_rfl) ?_
                  refine OI_end rfl ?_
                  refine X_then ?_
                  refine V_ret ?_
                  have hp0 : ¬ (t.name < 0 ∨ t.at_ < 0 ∨ t.pr < 0) := by omega
                  have hany2 : ¬ ts.any (named t.name) = true := by rw [hany]; decide
                  have hp : putR t ts = (0, ins t ts) := by unfold putR; rw [if_neg hp0, if_neg hany2, if_neg (by omega)]
                  have hins := ins_first ts t j (by omega) hlo hend
                  have hE : (((ts.take j) ++ [t]) ++ (ts.drop j)) = ins t ts := by rw [← hins]; simp
                  rw [hE] at hA83
                  rw [hp]
                  exact X_return (.int .i64 0) rfl ⟨rfl, ⟨moreT F w w85, ⟨by rw [ins_len]; omega, .inl hFg, (fun q hq => by rcases hq with hq | hq; (have h9 := hFlt q hq; omega); exact hq.2), A83, cap83, ⟨by have h9 := hg_88; rw [hE] at h9; exact h9, hA83, fun hh => by have h9 := own83 g hh; omega⟩, fun q hq => .inr ⟨by have h9 := own83 q hq; omega, by have h9 := lt83 q hq; omega⟩⟩, fun q hq => hq.imp id (·.1)⟩, hK0⟩
                · skip
                  refine GI_agg 28 (.tmp 3) 0 (Tk.cells t) (some 75) (by kernel_rfl) (by kernel_rfl) (by kernel_rfl) qhb1 (by show ¬ (b1 ≠ g ∧ b1 ≠ b1); omega) (m := 36) (by kernel_rfl) (take_all (Tk.len _)) (Tk.len _) ?_
                  refine GI_slit (E := 28) (zv := .agg #[.int .i64 0, .int .i64 0, .int .i64 0, .int .u8 0, .int .u8 0, .int .u8 0, .int .u8 0, .int .u8 0, .int .u8 0, .int .u8 0, .int .u8 0, .int .u8 0, .int .u8 0, .int .u8 0, .int .u8 0, .int .u8 0, .int .u8 0, .int .u8 0, .int .u8 0, .int .u8 0, .int .u8 0, .int .u8 0, .int .u8 0, .int .u8 0, .int .u8 0, .int .u8 0, .int .u8 0, .int .u8 0, .int .u8 0, .int .u8 0, .int .u8 0, .int .u8 0, .int .u8 0, .int .u8 0, .int .u8 0, .int .i64 0]) (sz := 36) (by_ := 64) 31 1 #[(0, (Operand.tmp 75))] [.agg (Tk.cells t).toArray] (Tk.cells t) (some 76) (by kernel_rfl) (by kernel_rfl) K51 (by kernel_rfl) (by kernel_rfl) (by omega) rfl (by omega) (by intro v hv; obtain rfl := List.mem_singleton.1 hv; show (Tk.cells t).toArray.size = 36; simp [Tk.len]) (by kernel_rfl) (by show (Tk.cells t).toArray.toList ++ [] = _; simp) ?_
                  intro b90 w90 e90 hb90 k90 z90 K91
                  have hsz92 := Keep.size k90
                  replace hg := hg.keep k90 (fun f => f)
                  have hglt := hg.lt
                  replace hb1 := hb1.keep k90 (fun f => f)
                  have hb1lt := hb1.lt
                  replace hA := SlT.keep0 hA k90
                  replace hK0 := Keep.tr hK0 (Keep.ofNone k90); have hzhK0 := Keep.size hK0
                  have hb90lt := hb90.lt
                  refine GI_slit (E := 28) (zv := .agg #[.int .i64 0, .int .i64 0, .int .i64 0, .int .u8 0, .int .u8 0, .int .u8 0, .int .u8 0, .int .u8 0, .int .u8 0, .int .u8 0, .int .u8 0, .int .u8 0, .int .u8 0, .int .u8 0, .int .u8 0, .int .u8 0, .int .u8 0, .int .u8 0, .int .u8 0, .int .u8 0, .int .u8 0, .int .u8 0, .int .u8 0, .int .u8 0, .int .u8 0, .int .u8 0, .int .u8 0, .int .u8 0, .int .u8 0, .int .u8 0, .int .u8 0, .int .u8 0, .int .u8 0, .int .u8 0, .int .u8 0, .int .i64 0]) (sz := 36) (by_ := 64) 31 0 #[] [] [] (some 67) (by kernel_rfl) (by kernel_rfl) K91 (by kernel_rfl) (by kernel_rfl) (by omega) rfl (by omega) (by intro v hv; cases hv) (by kernel_rfl) rfl ?_
                  intro b93 w93 e93 hb93 k93 z93 K94
                  have hsz95 := Keep.size k93
                  replace hg := hg.keep k93 (fun f => f)
                  have hglt := hg.lt
                  replace hb1 := hb1.keep k93 (fun f => f)
                  have hb1lt := hb1.lt
                  replace hb90 := hb90.keep k93 (fun f => f)
                  have hb90lt := hb90.lt
                  replace hA := SlT.keep0 hA k93
                  replace hK0 := Keep.tr hK0 (Keep.ofNone k93); have hzhK0 := Keep.size hK0
                  have hb93lt := hb93.lt
                  refine GI_static [4, 5, 6, 7, 10, 11] [(0, .pointer (some ⟨g, 0, none⟩)), (6, .int .i64 ((j : Nat) : Int)), (67, .slice (some ⟨b93, 0, none⟩) 0 0), (70, .pointer (some ⟨g, 0, none⟩)), (76, .slice (some ⟨b90, 0, none⟩) 1 1)] (by kernel_rfl) ?_
                  refine GI_cell 31 (.tmp 70) 0 (.slice A ts.length cap) (some 71) (by kernel_rfl) (by kernel_rfl) (by kernel_rfl) qhg (by show ¬ (g ≠ g ∧ g ≠ b1); omega) (m := 1) (by kernel_rfl) rfl ?_
                  refine GI_static [6, 7, 10, 11] [(0, .pointer (some ⟨g, 0, none⟩)), (6, .int .i64 ((j : Nat) : Int)), (67, .slice (some ⟨b93, 0, none⟩) 0 0), (71, .slice A ts.length cap), (72, .int .i64 ((j : Nat) : Int)), (76, .slice (some ⟨b90, 0, none⟩) 1 1)] (by kernel_rfl) ?_
                  refine GI_pure (some 73) ((Op.slice 31 (Operand.tmp 71) none (some (Operand.tmp 72)) none)) (by kernel_rfl) (by kernel_rfl) (pure_sliceTo (E := 28) (sz := 36) (by_ := 64) (base := A) (len := ts.length) (cap := cap) (h := j) (kd := .i64) (by kernel_rfl) (by kernel_rfl) (by kernel_rfl) (by omega)) ?_
                  have hl96 : (ts.take j).length = j := by rw [List.length_take]; omega
                  have hy96 := (SlT.to hA (i := j) (by omega)).slr
                  rw [hl96] at hy96
                  refine GI_append (t := 31) (at2 := 31) (E := 28) (E2 := 28) (sz := 36) (by_ := 64) (zv := .agg #[.int .i64 0, .int .i64 0, .int .i64 0, .int .u8 0, .int .u8 0, .int .u8 0, .int .u8 0, .int .u8 0, .int .u8 0, .int .u8 0, .int .u8 0, .int .u8 0, .int .u8 0, .int .u8 0, .int .u8 0, .int .u8 0, .int .u8 0, .int .u8 0, .int .u8 0, .int .u8 0, .int .u8 0, .int .u8 0, .int .u8 0, .int .u8 0, .int .u8 0, .int .u8 0, .int .u8 0, .int .u8 0, .int .u8 0, .int .u8 0, .int .u8 0, .int .u8 0, .int .u8 0, .int .u8 0, .int .u8 0, .int .i64 0]) (m := ([] : List Tk).length) (k := j) (.tmp 67) (.tmp 73) (.slice (some ⟨b93, 0, none⟩) 0 0) (.slice A j cap) (some 74) (by kernel_rfl) (by kernel_rfl) (by kernel_rfl) (by kernel_rfl) (by kernel_rfl) (by kernel_rfl) (by kernel_rfl) (by kernel_rfl) (SlT.slr (slt_blk (xs := ([] : List Tk)) (f := Tk.cells) (sz := 36) hb93 Tk.len rfl)) hy96 (fun u hu => by obtain ⟨z, _, hz⟩ := List.mem_flatMap.1 hu; exact Tk.one z u hz) (by first | omega | ((repeat first | rw [List.length_append] | rw [List.length_cons] | rw [List.length_nil] | rw [List.length_take] | rw [List.length_drop]) <;> omega)) (by omega) (by first | omega | ((repeat first | rw [List.length_append] | rw [List.length_cons] | rw [List.length_nil] | rw [List.length_take] | rw [List.length_drop]) <;> omega)) (by omega) ?_
                  intro vv9 w96 hap
                  obtain ⟨A96, cap96, rfl, hA96, hk96, own96x⟩ := app_many (f := Tk.cells) (xs := ([] : List Tk)) (ys := (ts.take j)) (A := (some ⟨b93, 0, none⟩)) (cap := 0) hap hl96 Tk.len
                  replace hk96 : Keep (only b93) w93 w96 := hk96.mono (fun i _ h => inA_some h)
                  have own96 : ∀ q, inA A96 q → w.heap.size ≤ q ∧ q ≠ b1 := fun q hq => by rcases own96x q hq with h | h; (have h9 := inA_some h; show w.heap.size ≤ q ∧ q ≠ b1; omega); (show w.heap.size ≤ q ∧ q ≠ b1; omega)
                  refine ⟨Keep.fresh K94 hk96 (by intro i hi hs; have hs2 : i = b93 := hs; show i ≠ g ∧ i ≠ b1; omega), ?_⟩
                  have K97 := Keep.fresh K94 hk96 (by intro i hi hs; have hs2 : i = b93 := hs; show i ≠ g ∧ i ≠ b1; omega)
                  rw [List.nil_append] at hA96
                  have hsz98 := Keep.size hk96
                  replace hg := hg.keep hk96 (by show ¬ (_ = _); omega)
                  have hglt := hg.lt
                  replace hb1 := hb1.keep hk96 (by show ¬ (_ = _); omega)
                  have hb1lt := hb1.lt
                  replace hb90 := hb90.keep hk96 (by show ¬ (_ = _); omega)
                  have hb90lt := hb90.lt
                  replace hA := SlT.keep hA hk96 (fun q hq hs => by have hs : q = b93 := hs; have g0 := hAg q hq; have g1 := hltA q hq; omega)
                  replace hK0 := Keep.fresh hK0 hk96 (by intro i hi hs; have hs2 : i = b93 := hs; first | (exfalso; omega) | (rw [hs2]; exact hFg)); have hzhK0 := Keep.size hK0
                  have lt96 := SlT.lt hA96
                  have hcap96 := SlT.cap_le hA96
                  refine GI_append (t := 31) (at2 := 31) (E := 28) (E2 := 28) (sz := 36) (by_ := 64) (zv := .agg #[.int .i64 0, .int .i64 0, .int .i64 0, .int .u8 0, .int .u8 0, .int .u8 0, .int .u8 0, .int .u8 0, .int .u8 0, .int .u8 0, .int .u8 0, .int .u8 0, .int .u8 0, .int .u8 0, .int .u8 0, .int .u8 0, .int .u8 0, .int .u8 0, .int .u8 0, .int .u8 0, .int .u8 0, .int .u8 0, .int .u8 0, .int .u8 0, .int .u8 0, .int .u8 0, .int .u8 0, .int .u8 0, .int .u8 0, .int .u8 0, .int .u8 0, .int .u8 0, .int .u8 0, .int .u8 0, .int .u8 0, .int .i64 0]) (m := (ts.take j).length) (k := 1) (.tmp 74) (.tmp 76) (.slice A96 ((ts.take j).length) cap96) (.slice (some ⟨b90, 0, none⟩) 1 1) (some 77) (by kernel_rfl) (by kernel_rfl) (by kernel_rfl) (by kernel_rfl) (by kernel_rfl) (by kernel_rfl) (by kernel_rfl) (by kernel_rfl) (SlT.slr hA96) (slr_one hb90 (Tk.len t)) (Tk.one t) (by first | omega | (simp only [List.length_nil]; omega)) (by omega) (by first | omega | (simp only [List.length_nil]; omega)) (by omega) ?_
                  intro vv9 w99 hap
                  obtain ⟨A99, cap99, rfl, hA99, hk99, own99x⟩ := app_one (f := Tk.cells) (xs := (ts.take j)) (x := t) (A := A96) (cap := cap96) hap (fun x _ => Tk.len x) (Tk.len _)
                  have own99 : ∀ q, inA A99 q → w.heap.size ≤ q ∧ q ≠ b1 := fun q hq => by rcases own99x q hq with h | h; exact own96 q h; (show w.heap.size ≤ q ∧ q ≠ b1; omega)
                  refine ⟨Keep.fresh K97 hk99 (by intro i hi hs; have h1 := own96 i hs; have h2 := lt96 i hs; show i ≠ g ∧ i ≠ b1; omega), ?_⟩
                  have K100 := Keep.fresh K97 hk99 (by intro i hi hs; have h1 := own96 i hs; have h2 := lt96 i hs; show i ≠ g ∧ i ≠ b1; omega)
                  have hsz101 := Keep.size hk99
                  replace hg := hg.keep hk99 (fun hs => by have h1 := own96 _ hs; have h2 := lt96 _ hs; omega)
                  have hglt := hg.lt
                  replace hb1 := hb1.keep hk99 (fun hs => by have h1 := own96 _ hs; have h2 := lt96 _ hs; omega)
                  have hb1lt := hb1.lt
                  replace hA := SlT.keep hA hk99 (fun q hq hs => by have g0 := hAg q hq; have g1 := hltA q hq; have h1 := own96 q hs; have h2 := lt96 q hs; omega)
                  replace hK0 := Keep.fresh hK0 hk99 (by intro i hi hs; first | exact hs | (exfalso; have h1 := own96 i hs; have h2 := lt96 i hs; omega) | (have h1 := own96 i hs; have h2 := lt96 i hs; show _ ∨ _; omega)); have hzhK0 := Keep.size hK0
                  have lt99 := SlT.lt hA99
                  refine GI_static [] [(0, .pointer (some ⟨g, 0, none⟩)), (6, .int .i64 ((j : Nat) : Int)), (7, .slice A99 (((ts.take j) ++ [t]).length) cap99)] (by kernel_rfl) ?_
                  refine GI_end ?_
                  refine X_then ?_
                  refine V_seq ?_
                  refine V_region ?_
                  refine OI_static 5 [(6, .int .i64 ((j : Nat) : Int)), (78, .pointer (some ⟨g, 0, none⟩)), (79, .slice A99 (((ts.take j) ++ [t]).length) cap99), (82, .pointer (some ⟨g, 0, none⟩))] (by kernel_rfl) ?_
                  refine OI_cell 31 (.tmp 82) 0 (.slice A ts.length cap) (some 83) (by kernel_rfl) (by kernel_rfl) hg (m := 1) (by kernel_rfl) rfl ?_
                  refine OI_static 7 [(78, .pointer (some ⟨g, 0, none⟩)), (79, .slice A99 (((ts.take j) ++ [t]).length) cap99), (83, .slice A ts.length cap), (84, .int .i64 ((j : Nat) : Int))] (by kernel_rfl) ?_
                  refine OI_pure (some 85) ((Op.slice 31 (Operand.tmp 83) (some (Operand.tmp 84)) none none)) (by kernel_rfl) (pure_sliceSuf (E := 28) (sz := 36) (by_ := 64) (A := A) (len := ts.length) (cap := cap) (l := j) (kd := .i64) (by kernel_rfl) (by kernel_rfl) (by kernel_rfl) (by omega) (by omega)) ?_
                  have hl102 : (ts.drop j).length = ts.length - j := List.length_drop
                  have hy102 := (SlT.from_ hA (i := j) (by omega)).slr
                  rw [hl102] at hy102
                  refine OI_append (t := 31) (at2 := 31) (E := 28) (E2 := 28) (sz := 36) (by_ := 64) (zv := .agg #[.int .i64 0, .int .i64 0, .int .i64 0, .int .u8 0, .int .u8 0, .int .u8 0, .int .u8 0, .int .u8 0, .int .u8 0, .int .u8 0, .int .u8 0, .int .u8 0, .int .u8 0, .int .u8 0, .int .u8 0, .int .u8 0, .int .u8 0, .int .u8 0, .int .u8 0, .int .u8 0, .int .u8 0, .int .u8 0, .int .u8 0, .int .u8 0, .int .u8 0, .int .u8 0, .int .u8 0, .int .u8 0, .int .u8 0, .int .u8 0, .int .u8 0, .int .u8 0, .int .u8 0, .int .u8 0, .int .u8 0, .int .i64 0]) (m := ((ts.take j) ++ [t]).length) (k := ts.length - j) (.tmp 79) (.tmp 85) (.slice A99 (((ts.take j) ++ [t]).length) cap99) (.slice (sufA A cap j 36) (ts.length - j) (cap - j)) (some 86) (by kernel_rfl) (by kernel_rfl) (by kernel_rfl) (by kernel_rfl) (by kernel_rfl) (by kernel_rfl) (by kernel_rfl) (SlT.slr hA99) hy102 (fun u hu => by obtain ⟨z, _, hz⟩ := List.mem_flatMap.1 hu; exact Tk.one z u hz) (by first | omega | ((repeat first | rw [List.length_append] | rw [List.length_cons] | rw [List.length_nil] | rw [List.length_take] | rw [List.length_drop]) <;> omega)) (by omega) (by first | omega | ((repeat first | rw [List.length_append] | rw [List.length_cons] | rw [List.length_nil] | rw [List.length_take] | rw [List.length_drop]) <;> omega)) (by omega) ?_
                  intro vv9 w102 hap
                  obtain ⟨A102, cap102, rfl, hA102, hk102, own102x⟩ := app_many (f := Tk.cells) (xs := ((ts.take j) ++ [t])) (ys := (ts.drop j)) (A := A99) (cap := cap99) hap hl102 Tk.len
                  have own102 : ∀ q, inA A102 q → w.heap.size ≤ q ∧ q ≠ b1 := fun q hq => by rcases own102x q hq with h | h; (have h8 := own99 q h; have h9 := lt99 q h; show w.heap.size ≤ q ∧ q ≠ b1; omega); (show w.heap.size ≤ q ∧ q ≠ b1; omega)
                  have hsz103 := Keep.size hk102
                  replace hg := hg.keep hk102 (fun hs => by have h1 := own99 _ hs; have h2 := lt99 _ hs; omega)
                  have hglt := hg.lt
                  replace hb1 := hb1.keep hk102 (fun hs => by have h1 := own99 _ hs; have h2 := lt99 _ hs; omega)
                  have hb1lt := hb1.lt
                  replace hA := SlT.keep hA hk102 (fun q hq hs => by have g0 := hAg q hq; have g1 := hltA q hq; have h1 := own99 q hs; have h2 := lt99 q hs; omega)
                  replace hK0 := Keep.fresh hK0 hk102 (by intro i hi hs; first | exact hs | (exfalso; have h1 := own99 i hs; have h2 := lt99 i hs; omega) | (have h1 := own99 i hs; have h2 := lt99 i hs; show _ ∨ _; omega)); have hzhK0 := Keep.size hK0
                  have lt102 := SlT.lt hA102
                  have hcap102 := SlT.cap_le hA102
                  refine OI_static 11 [(86, .slice A102 ((((ts.take j) ++ [t]) ++ (ts.drop j)).length) cap102), (88, .pointer (some ⟨g, 0, none⟩))] (by kernel_rfl) ?_
                  refine OI_set (m := 1) (kd := false) 31 (.tmp 88) (.tmp 86) 0 (.slice A102 ((((ts.take j) ++ [t]) ++ (ts.drop j)).length) cap102) [.slice A102 ((((ts.take j) ++ [t]) ++ (ts.drop j)).length) cap102] none (by kernel_rfl) (by kernel_rfl) (by kernel_rfl) hg (by kernel_rfl) (by kernel_rfl) (by kernel_rfl) (Nat.le_of_ble_eq_true (by kernel_rfl)) (by simp [Value.oneCell']) ?_
                  intro w104 hg_107 hk105 hz106
                  replace hg_107 : Blk w104 g [.slice A102 ((((ts.take j) ++ [t]) ++ (ts.drop j)).length) cap102] 46 := hg_107
                  have hsz108 := Keep.size hk105
                  replace hb1 := hb1.keep hk105 (by show ¬ (_ = _); omega)
                  have hb1lt := hb1.lt
                  replace hA := SlT.keep hA hk105 (fun q hq hs => by have hs : q = g := hs; have g0 := hAg q hq; have g1 := hltA q hq; omega)
                  replace hA102 := SlT.keep hA102 hk105 (fun q hq hs => by have hs : q = g := hs; have g0 := own102 q hq; have g1 := lt102 q hq; omega)
                  replace hK0 := Keep.fresh hK0 hk105 (by intro i hi hs; have hs2 : i = g := hs; first | (exfalso; omega) | (rw [hs2]; exact hFg)); have hzhK0 := Keep.size hK0
                  refine OI_end rfl ?_
                  refine X_then ?_
                  refine V_seq ?_
                  refine V_region ?_
                  refine OI_static 1 [(4, .int .i64 0)] (by kernel_rfl) ?_
                  refine OI_end rfl ?_
                  refine X_then ?_
                  refine V_ret ?_
                  have hp0 : ¬ (t.name < 0 ∨ t.at_ < 0 ∨ t.pr < 0) := by omega
                  have hany2 : ¬ ts.any (named t.name) = true := by rw [hany]; decide
                  have hp : putR t ts = (0, ins t ts) := by unfold putR; rw [if_neg hp0, if_neg hany2, if_neg (by omega)]
                  have hins := ins_first ts t j (by omega) hlo hend
                  have hE : (((ts.take j) ++ [t]) ++ (ts.drop j)) = ins t ts := by rw [← hins]; simp
                  rw [hE] at hA102
                  rw [hp]
                  exact X_return (.int .i64 0) rfl ⟨rfl, ⟨moreT F w w104, ⟨by rw [ins_len]; omega, .inl hFg, (fun q hq => by rcases hq with hq | hq; (have h9 := hFlt q hq; omega); exact hq.2), A102, cap102, ⟨by have h9 := hg_107; rw [hE] at h9; exact h9, hA102, fun hh => by have h9 := own102 g hh; omega⟩, fun q hq => .inr ⟨by have h9 := own102 q hq; omega, by have h9 := lt102 q hq; omega⟩⟩, fun q hq => hq.imp id (·.1)⟩, hK0⟩
            · skip
              have hend : ∀ y, ts[j]? = some y → ¬ ltT y t := fun y hy => absurd (List.getElem?_eq_some_iff.1 hy).1 (by omega)
              refine GI_eq [(0, .pointer (some ⟨g, 0, none⟩)), (3, .pointer (some ⟨b1, 0, none⟩)), (6, .int .i64 ((j : Nat) : Int)), (54, .bool false)] (by first | simp [hg35] | rfl) ?_
              refine GI_static [] [(0, .pointer (some ⟨g, 0, none⟩)), (3, .pointer (some ⟨b1, 0, none⟩)), (6, .int .i64 ((j : Nat) : Int)), (55, undef), (56, undef), (57, undef), (58, undef), (59, undef), (60, undef), (61, undef), (62, undef), (63, undef), (64, .bool false)] (by kernel_rfl) ?_
              refine GI_end ?_
              refine X_then ?_
              refine V_false rfl ?_
              refine V_exit ?_
              refine X_exit_then ?_
              refine X_exit_then ?_
              refine X_exit_here ?_
              refine X_then ?_
              refine V_seq ?_
              refine V_draws (acts [0, 7, 9, 10]) (fun q => q ≠ g ∧ q ≠ b1) [[0, 1, 2, 3, 4, 5, 6, 7, 8, 9, 10, 11], [0, 8, 9, 1, 2, 3, 4, 5, 6, 7, 10, 11], [8, 9, 0, 1, 2, 3, 4, 5, 6, 7, 10, 11]] (by kernel_rfl) (by repeat first | exact sure_body (by rintro _ _ ⟨h, _⟩; exact ⟨_, h⟩) | refine sure_then ?_ | refine sure_block ?_ | refine sure_join ?_) (by kernel_rfl) ?_
              intro w110 hk109 he111 L hL112
              have hsz113 := Keep.size hk109
              replace hg := hg.keep hk109 (fun f => f)
              have hglt := hg.lt
              replace hb1 := hb1.keep hk109 (fun f => f)
              have hb1lt := hb1.lt
              replace hA := SlT.keep0 hA hk109
              replace hK0 := Keep.tr hK0 (Keep.ofNone hk109); have hzhK0 := Keep.size hK0
              have qhg := hg
              have qhb1 := hb1
              have K114 : Keep (fun q => q ≠ g ∧ q ≠ b1) w110 w110 := Keep.refl _ _
              simp only [List.mem_cons, List.not_mem_nil, or_false] at hL112
              rcases hL112 with rfl | rfl | rfl
              · skip
                refine GI_slit (E := 28) (zv := .agg #[.int .i64 0, .int .i64 0, .int .i64 0, .int .u8 0, .int .u8 0, .int .u8 0, .int .u8 0, .int .u8 0, .int .u8 0, .int .u8 0, .int .u8 0, .int .u8 0, .int .u8 0, .int .u8 0, .int .u8 0, .int .u8 0, .int .u8 0, .int .u8 0, .int .u8 0, .int .u8 0, .int .u8 0, .int .u8 0, .int .u8 0, .int .u8 0, .int .u8 0, .int .u8 0, .int .u8 0, .int .u8 0, .int .u8 0, .int .u8 0, .int .u8 0, .int .u8 0, .int .u8 0, .int .u8 0, .int .u8 0, .int .i64 0]) (sz := 36) (by_ := 64) 31 0 #[] [] [] (some 67) (by kernel_rfl) (by kernel_rfl) K114 (by kernel_rfl) (by kernel_rfl) (by omega) rfl (by omega) (by intro v hv; cases hv) (by kernel_rfl) rfl ?_
                intro b115 w115 e115 hb115 k115 z115 K116
                have hsz117 := Keep.size k115
                replace hg := hg.keep k115 (fun f => f)
                have hglt := hg.lt
                replace hb1 := hb1.keep k115 (fun f => f)
                have hb1lt := hb1.lt
                replace hA := SlT.keep0 hA k115
                replace hK0 := Keep.tr hK0 (Keep.ofNone k115); have hzhK0 := Keep.size hK0
                have hb115lt := hb115.lt
                refine GI_static [4, 5, 6, 7, 8, 9, 10, 11] [(0, .pointer (some ⟨g, 0, none⟩)), (3, .pointer (some ⟨b1, 0, none⟩)), (6, .int .i64 ((j : Nat) : Int)), (67, .slice (some ⟨b115, 0, none⟩) 0 0), (70, .pointer (some ⟨g, 0, none⟩))] (by kernel_rfl) ?_
                refine GI_cell 31 (.tmp 70) 0 (.slice A ts.length cap) (some 71) (by kernel_rfl) (by kernel_rfl) (by kernel_rfl) qhg (by show ¬ (g ≠ g ∧ g ≠ b1); omega) (m := 1) (by kernel_rfl) rfl ?_
                refine GI_static [6, 7, 8, 9, 10, 11] [(0, .pointer (some ⟨g, 0, none⟩)), (3, .pointer (some ⟨b1, 0, none⟩)), (6, .int .i64 ((j : Nat) : Int)), (67, .slice (some ⟨b115, 0, none⟩) 0 0), (71, .slice A ts.length cap), (72, .int .i64 ((j : Nat) : Int))] (by kernel_rfl) ?_
                refine GI_pure (some 73) ((Op.slice 31 (Operand.tmp 71) none (some (Operand.tmp 72)) none)) (by kernel_rfl) (by kernel_rfl) (pure_sliceTo (E := 28) (sz := 36) (by_ := 64) (base := A) (len := ts.length) (cap := cap) (h := j) (kd := .i64) (by kernel_rfl) (by kernel_rfl) (by kernel_rfl) (by omega)) ?_
                have hl118 : (ts.take j).length = j := by rw [List.length_take]; omega
                have hy118 := (SlT.to hA (i := j) (by omega)).slr
                rw [hl118] at hy118
                refine GI_append (t := 31) (at2 := 31) (E := 28) (E2 := 28) (sz := 36) (by_ := 64) (zv := .agg #[.int .i64 0, .int .i64 0, .int .i64 0, .int .u8 0, .int .u8 0, .int .u8 0, .int .u8 0, .int .u8 0, .int .u8 0, .int .u8 0, .int .u8 0, .int .u8 0, .int .u8 0, .int .u8 0, .int .u8 0, .int .u8 0, .int .u8 0, .int .u8 0, .int .u8 0, .int .u8 0, .int .u8 0, .int .u8 0, .int .u8 0, .int .u8 0, .int .u8 0, .int .u8 0, .int .u8 0, .int .u8 0, .int .u8 0, .int .u8 0, .int .u8 0, .int .u8 0, .int .u8 0, .int .u8 0, .int .u8 0, .int .i64 0]) (m := ([] : List Tk).length) (k := j) (.tmp 67) (.tmp 73) (.slice (some ⟨b115, 0, none⟩) 0 0) (.slice A j cap) (some 74) (by kernel_rfl) (by kernel_rfl) (by kernel_rfl) (by kernel_rfl) (by kernel_rfl) (by kernel_rfl) (by kernel_rfl) (by kernel_rfl) (SlT.slr (slt_blk (xs := ([] : List Tk)) (f := Tk.cells) (sz := 36) hb115 Tk.len rfl)) hy118 (fun u hu => by obtain ⟨z, _, hz⟩ := List.mem_flatMap.1 hu; exact Tk.one z u hz) (by first | omega | ((repeat first | rw [List.length_append] | rw [List.length_cons] | rw [List.length_nil] | rw [List.length_take] | rw [List.length_drop]) <;> omega)) (by omega) (by first | omega | ((repeat first | rw [List.length_append] | rw [List.length_cons] | rw [List.length_nil] | rw [List.length_take] | rw [List.length_drop]) <;> omega)) (by omega) ?_
                intro vv9 w118 hap
                obtain ⟨A118, cap118, rfl, hA118, hk118, own118x⟩ := app_many (f := Tk.cells) (xs := ([] : List Tk)) (ys := (ts.take j)) (A := (some ⟨b115, 0, none⟩)) (cap := 0) hap hl118 Tk.len
                replace hk118 : Keep (only b115) w115 w118 := hk118.mono (fun i _ h => inA_some h)
                have own118 : ∀ q, inA A118 q → w.heap.size ≤ q ∧ q ≠ b1 := fun q hq => by rcases own118x q hq with h | h; (have h9 := inA_some h; show w.heap.size ≤ q ∧ q ≠ b1; omega); (show w.heap.size ≤ q ∧ q ≠ b1; omega)
                refine ⟨Keep.fresh K116 hk118 (by intro i hi hs; have hs2 : i = b115 := hs; show i ≠ g ∧ i ≠ b1; omega), ?_⟩
                have K119 := Keep.fresh K116 hk118 (by intro i hi hs; have hs2 : i = b115 := hs; show i ≠ g ∧ i ≠ b1; omega)
                rw [List.nil_append] at hA118
                have hsz120 := Keep.size hk118
                replace hg := hg.keep hk118 (by show ¬ (_ = _); omega)
                have hglt := hg.lt
                replace hb1 := hb1.keep hk118 (by show ¬ (_ = _); omega)
                have hb1lt := hb1.lt
                replace hA := SlT.keep hA hk118 (fun q hq hs => by have hs : q = b115 := hs; have g0 := hAg q hq; have g1 := hltA q hq; omega)
                replace hK0 := Keep.fresh hK0 hk118 (by intro i hi hs; have hs2 : i = b115 := hs; first | (exfalso; omega) | (rw [hs2]; exact hFg)); have hzhK0 := Keep.size hK0
                have lt118 := SlT.lt hA118
                have hcap118 := SlT.cap_le hA118
                refine GI_agg 28 (.tmp 3) 0 (Tk.cells t) (some 75) (by kernel_rfl) (by kernel_rfl) (by kernel_rfl) qhb1 (by show ¬ (b1 ≠ g ∧ b1 ≠ b1); omega) (m := 36) (by kernel_rfl) (take_all (Tk.len _)) (Tk.len _) ?_
                refine GI_slit (E := 28) (zv := .agg #[.int .i64 0, .int .i64 0, .int .i64 0, .int .u8 0, .int .u8 0, .int .u8 0, .int .u8 0, .int .u8 0, .int .u8 0, .int .u8 0, .int .u8 0, .int .u8 0, .int .u8 0, .int .u8 0, .int .u8 0, .int .u8 0, .int .u8 0, .int .u8 0, .int .u8 0, .int .u8 0, .int .u8 0, .int .u8 0, .int .u8 0, .int .u8 0, .int .u8 0, .int .u8 0, .int .u8 0, .int .u8 0, .int .u8 0, .int .u8 0, .int .u8 0, .int .u8 0, .int .u8 0, .int .u8 0, .int .u8 0, .int .i64 0]) (sz := 36) (by_ := 64) 31 1 #[(0, (Operand.tmp 75))] [.agg (Tk.cells t).toArray] (Tk.cells t) (some 76) (by kernel_rfl) (by kernel_rfl) K119 (by kernel_rfl) (by kernel_rfl) (by omega) rfl (by omega) (by intro v hv; obtain rfl := List.mem_singleton.1 hv; show (Tk.cells t).toArray.size = 36; simp [Tk.len]) (by kernel_rfl) (by show (Tk.cells t).toArray.toList ++ [] = _; simp) ?_
                intro b121 w121 e121 hb121 k121 z121 K122
                have hsz123 := Keep.size k121
                replace hg := hg.keep k121 (fun f => f)
                have hglt := hg.lt
                replace hb1 := hb1.keep k121 (fun f => f)
                have hb1lt := hb1.lt
                replace hA := SlT.keep0 hA k121
                replace hA118 := SlT.keep0 hA118 k121
                replace hK0 := Keep.tr hK0 (Keep.ofNone k121); have hzhK0 := Keep.size hK0
                have hb121lt := hb121.lt
                refine GI_append (t := 31) (at2 := 31) (E := 28) (E2 := 28) (sz := 36) (by_ := 64) (zv := .agg #[.int .i64 0, .int .i64 0, .int .i64 0, .int .u8 0, .int .u8 0, .int .u8 0, .int .u8 0, .int .u8 0, .int .u8 0, .int .u8 0, .int .u8 0, .int .u8 0, .int .u8 0, .int .u8 0, .int .u8 0, .int .u8 0, .int .u8 0, .int .u8 0, .int .u8 0, .int .u8 0, .int .u8 0, .int .u8 0, .int .u8 0, .int .u8 0, .int .u8 0, .int .u8 0, .int .u8 0, .int .u8 0, .int .u8 0, .int .u8 0, .int .u8 0, .int .u8 0, .int .u8 0, .int .u8 0, .int .u8 0, .int .i64 0]) (m := (ts.take j).length) (k := 1) (.tmp 74) (.tmp 76) (.slice A118 ((ts.take j).length) cap118) (.slice (some ⟨b121, 0, none⟩) 1 1) (some 77) (by kernel_rfl) (by kernel_rfl) (by kernel_rfl) (by kernel_rfl) (by kernel_rfl) (by kernel_rfl) (by kernel_rfl) (by kernel_rfl) (SlT.slr hA118) (slr_one hb121 (Tk.len t)) (Tk.one t) (by first | omega | (simp only [List.length_nil]; omega)) (by omega) (by first | omega | (simp only [List.length_nil]; omega)) (by omega) ?_
                intro vv9 w124 hap
                obtain ⟨A124, cap124, rfl, hA124, hk124, own124x⟩ := app_one (f := Tk.cells) (xs := (ts.take j)) (x := t) (A := A118) (cap := cap118) hap (fun x _ => Tk.len x) (Tk.len _)
                have own124 : ∀ q, inA A124 q → w.heap.size ≤ q ∧ q ≠ b1 := fun q hq => by rcases own124x q hq with h | h; exact own118 q h; (show w.heap.size ≤ q ∧ q ≠ b1; omega)
                refine ⟨Keep.fresh K122 hk124 (by intro i hi hs; have h1 := own118 i hs; have h2 := lt118 i hs; show i ≠ g ∧ i ≠ b1; omega), ?_⟩
                have K125 := Keep.fresh K122 hk124 (by intro i hi hs; have h1 := own118 i hs; have h2 := lt118 i hs; show i ≠ g ∧ i ≠ b1; omega)
                have hsz126 := Keep.size hk124
                replace hg := hg.keep hk124 (fun hs => by have h1 := own118 _ hs; have h2 := lt118 _ hs; omega)
                have hglt := hg.lt
                replace hb1 := hb1.keep hk124 (fun hs => by have h1 := own118 _ hs; have h2 := lt118 _ hs; omega)
                have hb1lt := hb1.lt
                replace hA := SlT.keep hA hk124 (fun q hq hs => by have g0 := hAg q hq; have g1 := hltA q hq; have h1 := own118 q hs; have h2 := lt118 q hs; omega)
                replace hK0 := Keep.fresh hK0 hk124 (by intro i hi hs; first | exact hs | (exfalso; have h1 := own118 i hs; have h2 := lt118 i hs; omega) | (have h1 := own118 i hs; have h2 := lt118 i hs; show _ ∨ _; omega)); have hzhK0 := Keep.size hK0
                have lt124 := SlT.lt hA124
                refine GI_static [] [(0, .pointer (some ⟨g, 0, none⟩)), (6, .int .i64 ((j : Nat) : Int)), (7, .slice A124 (((ts.take j) ++ [t]).length) cap124)] (by kernel_rfl) ?_
                refine GI_end ?_
                refine X_then ?_
                refine V_seq ?_
                refine V_region ?_
                refine OI_static 5 [(6, .int .i64 ((j : Nat) : Int)), (78, .pointer (some ⟨g, 0, none⟩)), (79, .slice A124 (((ts.take j) ++ [t]).length) cap124), (82, .pointer (some ⟨g, 0, none⟩))] (by kernel_rfl) ?_
                refine OI_cell 31 (.tmp 82) 0 (.slice A ts.length cap) (some 83) (by kernel_rfl) (by kernel_rfl) hg (m := 1) (by kernel_rfl) rfl ?_
                refine OI_static 7 [(78, .pointer (some ⟨g, 0, none⟩)), (79, .slice A124 (((ts.take j) ++ [t]).length) cap124), (83, .slice A ts.length cap), (84, .int .i64 ((j : Nat) : Int))] (by kernel_rfl) ?_
                refine OI_pure (some 85) ((Op.slice 31 (Operand.tmp 83) (some (Operand.tmp 84)) none none)) (by kernel_rfl) (pure_sliceSuf (E := 28) (sz := 36) (by_ := 64) (A := A) (len := ts.length) (cap := cap) (l := j) (kd := .i64) (by kernel_rfl) (by kernel_rfl) (by kernel_rfl) (by omega) (by omega)) ?_
                have hl127 : (ts.drop j).length = ts.length - j := List.length_drop
                have hy127 := (SlT.from_ hA (i := j) (by omega)).slr
                rw [hl127] at hy127
                refine OI_append (t := 31) (at2 := 31) (E := 28) (E2 := 28) (sz := 36) (by_ := 64) (zv := .agg #[.int .i64 0, .int .i64 0, .int .i64 0, .int .u8 0, .int .u8 0, .int .u8 0, .int .u8 0, .int .u8 0, .int .u8 0, .int .u8 0, .int .u8 0, .int .u8 0, .int .u8 0, .int .u8 0, .int .u8 0, .int .u8 0, .int .u8 0, .int .u8 0, .int .u8 0, .int .u8 0, .int .u8 0, .int .u8 0, .int .u8 0, .int .u8 0, .int .u8 0, .int .u8 0, .int .u8 0, .int .u8 0, .int .u8 0, .int .u8 0, .int .u8 0, .int .u8 0, .int .u8 0, .int .u8 0, .int .u8 0, .int .i64 0]) (m := ((ts.take j) ++ [t]).length) (k := ts.length - j) (.tmp 79) (.tmp 85) (.slice A124 (((ts.take j) ++ [t]).length) cap124) (.slice (sufA A cap j 36) (ts.length - j) (cap - j)) (some 86) (by kernel_rfl) (by kernel_rfl) (by kernel_rfl) (by kernel_rfl) (by kernel_rfl) (by kernel_rfl) (by kernel_rfl) (SlT.slr hA124) hy127 (fun u hu => by obtain ⟨z, _, hz⟩ := List.mem_flatMap.1 hu; exact Tk.one z u hz) (by first | omega | ((repeat first | rw [List.length_append] | rw [List.length_cons] | rw [List.length_nil] | rw [List.length_take] | rw [List.length_drop]) <;> omega)) (by omega) (by first | omega | ((repeat first | rw [List.length_append] | rw [List.length_cons] | rw [List.length_nil] | rw [List.length_take] | rw [List.length_drop]) <;> omega)) (by omega) ?_
                intro vv9 w127 hap
                obtain ⟨A127, cap127, rfl, hA127, hk127, own127x⟩ := app_many (f := Tk.cells) (xs := ((ts.take j) ++ [t])) (ys := (ts.drop j)) (A := A124) (cap := cap124) hap hl127 Tk.len
                have own127 : ∀ q, inA A127 q → w.heap.size ≤ q ∧ q ≠ b1 := fun q hq => by rcases own127x q hq with h | h; (have h8 := own124 q h; have h9 := lt124 q h; show w.heap.size ≤ q ∧ q ≠ b1; omega); (show w.heap.size ≤ q ∧ q ≠ b1; omega)
                have hsz128 := Keep.size hk127
                replace hg := hg.keep hk127 (fun hs => by have h1 := own124 _ hs; have h2 := lt124 _ hs; omega)
                have hglt := hg.lt
                replace hb1 := hb1.keep hk127 (fun hs => by have h1 := own124 _ hs; have h2 := lt124 _ hs; omega)
                have hb1lt := hb1.lt
                replace hA := SlT.keep hA hk127 (fun q hq hs => by have g0 := hAg q hq; have g1 := hltA q hq; have h1 := own124 q hs; have h2 := lt124 q hs; omega)
                replace hK0 := Keep.fresh hK0 hk127 (by intro i hi hs; first | exact hs | (exfalso; have h1 := own124 i hs; have h2 := lt124 i hs; omega) | (have h1 := own124 i hs; have h2 := lt124 i hs; show _ ∨ _; omega)); have hzhK0 := Keep.size hK0
                have lt127 := SlT.lt hA127
                have hcap127 := SlT.cap_le hA127
                refine OI_static 11 [(86, .slice A127 ((((ts.take j) ++ [t]) ++ (ts.drop j)).length) cap127), (88, .pointer (some ⟨g, 0, none⟩))] (by kernel_rfl) ?_
                refine OI_set (m := 1) (kd := false) 31 (.tmp 88) (.tmp 86) 0 (.slice A127 ((((ts.take j) ++ [t]) ++ (ts.drop j)).length) cap127) [.slice A127 ((((ts.take j) ++ [t]) ++ (ts.drop j)).length) cap127] none (by kernel_rfl) (by kernel_rfl) (by kernel_rfl) hg (by kernel_rfl) (by kernel_rfl) (by kernel_rfl) (Nat.le_of_ble_eq_true (by kernel_rfl)) (by simp [Value.oneCell']) ?_
                intro w129 hg_132 hk130 hz131
                replace hg_132 : Blk w129 g [.slice A127 ((((ts.take j) ++ [t]) ++ (ts.drop j)).length) cap127] 46 := hg_132
                have hsz133 := Keep.size hk130
                replace hb1 := hb1.keep hk130 (by show ¬ (_ = _); omega)
                have hb1lt := hb1.lt
                replace hA := SlT.keep hA hk130 (fun q hq hs => by have hs : q = g := hs; have g0 := hAg q hq; have g1 := hltA q hq; omega)
                replace hA127 := SlT.keep hA127 hk130 (fun q hq hs => by have hs : q = g := hs; have g0 := own127 q hq; have g1 := lt127 q hq; omega)
                replace hK0 := Keep.fresh hK0 hk130 (by intro i hi hs; have hs2 : i = g := hs; first | (exfalso; omega) | (rw [hs2]; exact hFg)); have hzhK0 := Keep.size hK0
                refine OI_end rfl ?_
                refine X_then ?_
                refine V_seq ?_
                refine V_region ?_
                refine OI_static 1 [(4, .int .i64 0)] (by kernel_rfl) ?_
                refine OI_end rfl ?_
                refine X_then ?_
                refine V_ret ?_
                have hp0 : ¬ (t.name < 0 ∨ t.at_ < 0 ∨ t.pr < 0) := by omega
                have hany2 : ¬ ts.any (named t.name) = true := by rw [hany]; decide
                have hp : putR t ts = (0, ins t ts) := by unfold putR; rw [if_neg hp0, if_neg hany2, if_neg (by omega)]
                have hins := ins_first ts t j (by omega) hlo hend
                have hE : (((ts.take j) ++ [t]) ++ (ts.drop j)) = ins t ts := by rw [← hins]; simp
                rw [hE] at hA127
                rw [hp]
                exact X_return (.int .i64 0) rfl ⟨rfl, ⟨moreT F w w129, ⟨by rw [ins_len]; omega, .inl hFg, (fun q hq => by rcases hq with hq | hq; (have h9 := hFlt q hq; omega); exact hq.2), A127, cap127, ⟨by have h9 := hg_132; rw [hE] at h9; exact h9, hA127, fun hh => by have h9 := own127 g hh; omega⟩, fun q hq => .inr ⟨by have h9 := own127 q hq; omega, by have h9 := lt127 q hq; omega⟩⟩, fun q hq => hq.imp id (·.1)⟩, hK0⟩
              · skip
                refine GI_slit (E := 28) (zv := .agg #[.int .i64 0, .int .i64 0, .int .i64 0, .int .u8 0, .int .u8 0, .int .u8 0, .int .u8 0, .int .u8 0, .int .u8 0, .int .u8 0, .int .u8 0, .int .u8 0, .int .u8 0, .int .u8 0, .int .u8 0, .int .u8 0, .int .u8 0, .int .u8 0, .int .u8 0, .int .u8 0, .int .u8 0, .int .u8 0, .int .u8 0, .int .u8 0, .int .u8 0, .int .u8 0, .int .u8 0, .int .u8 0, .int .u8 0, .int .u8 0, .int .u8 0, .int .u8 0, .int .u8 0, .int .u8 0, .int .u8 0, .int .i64 0]) (sz := 36) (by_ := 64) 31 0 #[] [] [] (some 67) (by kernel_rfl) (by kernel_rfl) K114 (by kernel_rfl) (by kernel_rfl) (by omega) rfl (by omega) (by intro v hv; cases hv) (by kernel_rfl) rfl ?_
                intro b134 w134 e134 hb134 k134 z134 K135
                have hsz136 := Keep.size k134
                replace hg := hg.keep k134 (fun f => f)
                have hglt := hg.lt
                replace hb1 := hb1.keep k134 (fun f => f)
                have hb1lt := hb1.lt
                replace hA := SlT.keep0 hA k134
                replace hK0 := Keep.tr hK0 (Keep.ofNone k134); have hzhK0 := Keep.size hK0
                have hb134lt := hb134.lt
                refine GI_agg 28 (.tmp 3) 0 (Tk.cells t) (some 75) (by kernel_rfl) (by kernel_rfl) (by kernel_rfl) qhb1 (by show ¬ (b1 ≠ g ∧ b1 ≠ b1); omega) (m := 36) (by kernel_rfl) (take_all (Tk.len _)) (Tk.len _) ?_
                refine GI_slit (E := 28) (zv := .agg #[.int .i64 0, .int .i64 0, .int .i64 0, .int .u8 0, .int .u8 0, .int .u8 0, .int .u8 0, .int .u8 0, .int .u8 0, .int .u8 0, .int .u8 0, .int .u8 0, .int .u8 0, .int .u8 0, .int .u8 0, .int .u8 0, .int .u8 0, .int .u8 0, .int .u8 0, .int .u8 0, .int .u8 0, .int .u8 0, .int .u8 0, .int .u8 0, .int .u8 0, .int .u8 0, .int .u8 0, .int .u8 0, .int .u8 0, .int .u8 0, .int .u8 0, .int .u8 0, .int .u8 0, .int .u8 0, .int .u8 0, .int .i64 0]) (sz := 36) (by_ := 64) 31 1 #[(0, (Operand.tmp 75))] [.agg (Tk.cells t).toArray] (Tk.cells t) (some 76) (by kernel_rfl) (by kernel_rfl) K135 (by kernel_rfl) (by kernel_rfl) (by omega) rfl (by omega) (by intro v hv; obtain rfl := List.mem_singleton.1 hv; show (Tk.cells t).toArray.size = 36; simp [Tk.len]) (by kernel_rfl) (by show (Tk.cells t).toArray.toList ++ [] = _; simp) ?_
                intro b137 w137 e137 hb137 k137 z137 K138
                have hsz139 := Keep.size k137
                replace hg := hg.keep k137 (fun f => f)
                have hglt := hg.lt
                replace hb1 := hb1.keep k137 (fun f => f)
                have hb1lt := hb1.lt
                replace hb134 := hb134.keep k137 (fun f => f)
                have hb134lt := hb134.lt
                replace hA := SlT.keep0 hA k137
                replace hK0 := Keep.tr hK0 (Keep.ofNone k137); have hzhK0 := Keep.size hK0
                have hb137lt := hb137.lt
                refine GI_static [4, 5, 6, 7, 10, 11] [(0, .pointer (some ⟨g, 0, none⟩)), (6, .int .i64 ((j : Nat) : Int)), (67, .slice (some ⟨b134, 0, none⟩) 0 0), (70, .pointer (some ⟨g, 0, none⟩)), (76, .slice (some ⟨b137, 0, none⟩) 1 1)] (by kernel_rfl) ?_
                refine GI_cell 31 (.tmp 70) 0 (.slice A ts.length cap) (some 71) (by kernel_rfl) (by kernel_rfl) (by kernel_rfl) qhg (by show ¬ (g ≠ g ∧ g ≠ b1); omega) (m := 1) (by kernel_rfl) rfl ?_
                refine GI_static [6, 7, 10, 11] [(0, .pointer (some ⟨g, 0, none⟩)), (6, .int .i64 ((j : Nat) : Int)), (67, .slice (some ⟨b134, 0, none⟩) 0 0), (71, .slice A ts.length cap), (72, .int .i64 ((j : Nat) : Int)), (76, .slice (some ⟨b137, 0, none⟩) 1 1)] (by kernel_rfl) ?_
                refine GI_pure (some 73) ((Op.slice 31 (Operand.tmp 71) none (some (Operand.tmp 72)) none)) (by kernel_rfl) (by kernel_rfl) (pure_sliceTo (E := 28) (sz := 36) (by_ := 64) (base := A) (len := ts.length) (cap := cap) (h := j) (kd := .i64) (by kernel_rfl) (by kernel_rfl) (by kernel_rfl) (by omega)) ?_
                have hl140 : (ts.take j).length = j := by rw [List.length_take]; omega
                have hy140 := (SlT.to hA (i := j) (by omega)).slr
                rw [hl140] at hy140
                refine GI_append (t := 31) (at2 := 31) (E := 28) (E2 := 28) (sz := 36) (by_ := 64) (zv := .agg #[.int .i64 0, .int .i64 0, .int .i64 0, .int .u8 0, .int .u8 0, .int .u8 0, .int .u8 0, .int .u8 0, .int .u8 0, .int .u8 0, .int .u8 0, .int .u8 0, .int .u8 0, .int .u8 0, .int .u8 0, .int .u8 0, .int .u8 0, .int .u8 0, .int .u8 0, .int .u8 0, .int .u8 0, .int .u8 0, .int .u8 0, .int .u8 0, .int .u8 0, .int .u8 0, .int .u8 0, .int .u8 0, .int .u8 0, .int .u8 0, .int .u8 0, .int .u8 0, .int .u8 0, .int .u8 0, .int .u8 0, .int .i64 0]) (m := ([] : List Tk).length) (k := j) (.tmp 67) (.tmp 73) (.slice (some ⟨b134, 0, none⟩) 0 0) (.slice A j cap) (some 74) (by kernel_rfl) (by kernel_rfl) (by kernel_rfl) (by kernel_rfl) (by kernel_rfl) (by kernel_rfl) (by kernel_rfl) (by kernel_rfl) (SlT.slr (slt_blk (xs := ([] : List Tk)) (f := Tk.cells) (sz := 36) hb134 Tk.len rfl)) hy140 (fun u hu => by obtain ⟨z, _, hz⟩ := List.mem_flatMap.1 hu; exact Tk.one z u hz) (by first | omega | ((repeat first | rw [List.length_append] | rw [List.length_cons] | rw [List.length_nil] | rw [List.length_take] | rw [List.length_drop]) <;> omega)) (by omega) (by first | omega | ((repeat first | rw [List.length_append] | rw [List.length_cons] | rw [List.length_nil] | rw [List.length_take] | rw [List.length_drop]) <;> omega)) (by omega) ?_
                intro vv9 w140 hap
                obtain ⟨A140, cap140, rfl, hA140, hk140, own140x⟩ := app_many (f := Tk.cells) (xs := ([] : List Tk)) (ys := (ts.take j)) (A := (some ⟨b134, 0, none⟩)) (cap := 0) hap hl140 Tk.len
                replace hk140 : Keep (only b134) w137 w140 := hk140.mono (fun i _ h => inA_some h)
                have own140 : ∀ q, inA A140 q → w.heap.size ≤ q ∧ q ≠ b1 := fun q hq => by rcases own140x q hq with h | h; (have h9 := inA_some h; show w.heap.size ≤ q ∧ q ≠ b1; omega); (show w.heap.size ≤ q ∧ q ≠ b1; omega)
                refine ⟨Keep.fresh K138 hk140 (by intro i hi hs; have hs2 : i = b134 := hs; show i ≠ g ∧ i ≠ b1; omega), ?_⟩
                have K141 := Keep.fresh K138 hk140 (by intro i hi hs; have hs2 : i = b134 := hs; show i ≠ g ∧ i ≠ b1; omega)
                rw [List.nil_append] at hA140
                have hsz142 := Keep.size hk140
                replace hg := hg.keep hk140 (by show ¬ (_ = _); omega)
                have hglt := hg.lt
                replace hb1 := hb1.keep hk140 (by show ¬ (_ = _); omega)
                have hb1lt := hb1.lt
                replace hb137 := hb137.keep hk140 (by show ¬ (_ = _); omega)
                have hb137lt := hb137.lt
                replace hA := SlT.keep hA hk140 (fun q hq hs => by have hs : q = b134 := hs; have g0 := hAg q hq; have g1 := hltA q hq; omega)
                replace hK0 := Keep.fresh hK0 hk140 (by intro i hi hs; have hs2 : i = b134 := hs; first | (exfalso; omega) | (rw [hs2]; exact hFg)); have hzhK0 := Keep.size hK0
                have lt140 := SlT.lt hA140
                have hcap140 := SlT.cap_le hA140
                refine GI_append (t := 31) (at2 := 31) (E := 28) (E2 := 28) (sz := 36) (by_ := 64) (zv := .agg #[.int .i64 0, .int .i64 0, .int .i64 0, .int .u8 0, .int .u8 0, .int .u8 0, .int .u8 0, .int .u8 0, .int .u8 0, .int .u8 0, .int .u8 0, .int .u8 0, .int .u8 0, .int .u8 0, .int .u8 0, .int .u8 0, .int .u8 0, .int .u8 0, .int .u8 0, .int .u8 0, .int .u8 0, .int .u8 0, .int .u8 0, .int .u8 0, .int .u8 0, .int .u8 0, .int .u8 0, .int .u8 0, .int .u8 0, .int .u8 0, .int .u8 0, .int .u8 0, .int .u8 0, .int .u8 0, .int .u8 0, .int .i64 0]) (m := (ts.take j).length) (k := 1) (.tmp 74) (.tmp 76) (.slice A140 ((ts.take j).length) cap140) (.slice (some ⟨b137, 0, none⟩) 1 1) (some 77) (by kernel_rfl) (by kernel_rfl) (by kernel_rfl) (by kernel_rfl) (by kernel_rfl) (by kernel_rfl) (by kernel_rfl) (by kernel_rfl) (SlT.slr hA140) (slr_one hb137 (Tk.len t)) (Tk.one t) (by first | omega | (simp only [List.length_nil]; omega)) (by omega) (by first | omega | (simp only [List.length_nil]; omega)) (by omega) ?_
                intro vv9 w143 hap
                obtain ⟨A143, cap143, rfl, hA143, hk143, own143x⟩ := app_one (f := Tk.cells) (xs := (ts.take j)) (x := t) (A := A140) (cap := cap140) hap (fun x _ => Tk.len x) (Tk.len _)
                have own143 : ∀ q, inA A143 q → w.heap.size ≤ q ∧ q ≠ b1 := fun q hq => by rcases own143x q hq with h | h; exact own140 q h; (show w.heap.size ≤ q ∧ q ≠ b1; omega)
                refine ⟨Keep.fresh K141 hk143 (by intro i hi hs; have h1 := own140 i hs; have h2 := lt140 i hs; show i ≠ g ∧ i ≠ b1; omega), ?_⟩
                have K144 := Keep.fresh K141 hk143 (by intro i hi hs; have h1 := own140 i hs; have h2 := lt140 i hs; show i ≠ g ∧ i ≠ b1; omega)
                have hsz145 := Keep.size hk143
                replace hg := hg.keep hk143 (fun hs => by have h1 := own140 _ hs; have h2 := lt140 _ hs; omega)
                have hglt := hg.lt
                replace hb1 := hb1.keep hk143 (fun hs => by have h1 := own140 _ hs; have h2 := lt140 _ hs; omega)
                have hb1lt := hb1.lt
                replace hA := SlT.keep hA hk143 (fun q hq hs => by have g0 := hAg q hq; have g1 := hltA q hq; have h1 := own140 q hs; have h2 := lt140 q hs; omega)
                replace hK0 := Keep.fresh hK0 hk143 (by intro i hi hs; first | exact hs | (exfalso; have h1 := own140 i hs; have h2 := lt140 i hs; omega) | (have h1 := own140 i hs; have h2 := lt140 i hs; show _ ∨ _; omega)); have hzhK0 := Keep.size hK0
                have lt143 := SlT.lt hA143
                refine GI_static [] [(0, .pointer (some ⟨g, 0, none⟩)), (6, .int .i64 ((j : Nat) : Int)), (7, .slice A143 (((ts.take j) ++ [t]).length) cap143)] (by kernel_rfl) ?_
                refine GI_end ?_
                refine X_then ?_
                refine V_seq ?_
                refine V_region ?_
                refine OI_static 5 [(6, .int .i64 ((j : Nat) : Int)), (78, .pointer (some ⟨g, 0, none⟩)), (79, .slice A143 (((ts.take j) ++ [t]).length) cap143), (82, .pointer (some ⟨g, 0, none⟩))] (by kernel_rfl) ?_
                refine OI_cell 31 (.tmp 82) 0 (.slice A ts.length cap) (some 83) (by kernel_rfl) (by kernel_rfl) hg (m := 1) (by kernel_rfl) rfl ?_
                refine OI_static 7 [(78, .pointer (some ⟨g, 0, none⟩)), (79, .slice A143 (((ts.take j) ++ [t]).length) cap143), (83, .slice A ts.length cap), (84, .int .i64 ((j : Nat) : Int))] (by kernel_rfl) ?_
                refine OI_pure (some 85) ((Op.slice 31 (Operand.tmp 83) (some (Operand.tmp 84)) none none)) (by kernel_rfl) (pure_sliceSuf (E := 28) (sz := 36) (by_ := 64) (A := A) (len := ts.length) (cap := cap) (l := j) (kd := .i64) (by kernel_rfl) (by kernel_rfl) (by kernel_rfl) (by omega) (by omega)) ?_
                have hl146 : (ts.drop j).length = ts.length - j := List.length_drop
                have hy146 := (SlT.from_ hA (i := j) (by omega)).slr
                rw [hl146] at hy146
                refine OI_append (t := 31) (at2 := 31) (E := 28) (E2 := 28) (sz := 36) (by_ := 64) (zv := .agg #[.int .i64 0, .int .i64 0, .int .i64 0, .int .u8 0, .int .u8 0, .int .u8 0, .int .u8 0, .int .u8 0, .int .u8 0, .int .u8 0, .int .u8 0, .int .u8 0, .int .u8 0, .int .u8 0, .int .u8 0, .int .u8 0, .int .u8 0, .int .u8 0, .int .u8 0, .int .u8 0, .int .u8 0, .int .u8 0, .int .u8 0, .int .u8 0, .int .u8 0, .int .u8 0, .int .u8 0, .int .u8 0, .int .u8 0, .int .u8 0, .int .u8 0, .int .u8 0, .int .u8 0, .int .u8 0, .int .u8 0, .int .i64 0]) (m := ((ts.take j) ++ [t]).length) (k := ts.length - j) (.tmp 79) (.tmp 85) (.slice A143 (((ts.take j) ++ [t]).length) cap143) (.slice (sufA A cap j 36) (ts.length - j) (cap - j)) (some 86) (by kernel_rfl) (by kernel_rfl) (by kernel_rfl) (by kernel_rfl) (by kernel_rfl) (by kernel_rfl) (by kernel_rfl) (SlT.slr hA143) hy146 (fun u hu => by obtain ⟨z, _, hz⟩ := List.mem_flatMap.1 hu; exact Tk.one z u hz) (by first | omega | ((repeat first | rw [List.length_append] | rw [List.length_cons] | rw [List.length_nil] | rw [List.length_take] | rw [List.length_drop]) <;> omega)) (by omega) (by first | omega | ((repeat first | rw [List.length_append] | rw [List.length_cons] | rw [List.length_nil] | rw [List.length_take] | rw [List.length_drop]) <;> omega)) (by omega) ?_
                intro vv9 w146 hap
                obtain ⟨A146, cap146, rfl, hA146, hk146, own146x⟩ := app_many (f := Tk.cells) (xs := ((ts.take j) ++ [t])) (ys := (ts.drop j)) (A := A143) (cap := cap143) hap hl146 Tk.len
                have own146 : ∀ q, inA A146 q → w.heap.size ≤ q ∧ q ≠ b1 := fun q hq => by rcases own146x q hq with h | h; (have h8 := own143 q h; have h9 := lt143 q h; show w.heap.size ≤ q ∧ q ≠ b1; omega); (show w.heap.size ≤ q ∧ q ≠ b1; omega)
                have hsz147 := Keep.size hk146
                replace hg := hg.keep hk146 (fun hs => by have h1 := own143 _ hs; have h2 := lt143 _ hs; omega)
                have hglt := hg.lt
                replace hb1 := hb1.keep hk146 (fun hs => by have h1 := own143 _ hs; have h2 := lt143 _ hs; omega)
                have hb1lt := hb1.lt
                replace hA := SlT.keep hA hk146 (fun q hq hs => by have g0 := hAg q hq; have g1 := hltA q hq; have h1 := own143 q hs; have h2 := lt143 q hs; omega)
                replace hK0 := Keep.fresh hK0 hk146 (by intro i hi hs; first | exact hs | (exfalso; have h1 := own143 i hs; have h2 := lt143 i hs; omega) | (have h1 := own143 i hs; have h2 := lt143 i hs; show _ ∨ _; omega)); have hzhK0 := Keep.size hK0
                have lt146 := SlT.lt hA146
                have hcap146 := SlT.cap_le hA146
                refine OI_static 11 [(86, .slice A146 ((((ts.take j) ++ [t]) ++ (ts.drop j)).length) cap146), (88, .pointer (some ⟨g, 0, none⟩))] (by kernel_rfl) ?_
                refine OI_set (m := 1) (kd := false) 31 (.tmp 88) (.tmp 86) 0 (.slice A146 ((((ts.take j) ++ [t]) ++ (ts.drop j)).length) cap146) [.slice A146 ((((ts.take j) ++ [t]) ++ (ts.drop j)).length) cap146] none (by kernel_rfl) (by kernel_rfl) (by kernel_rfl) hg (by kernel_rfl) (by kernel_rfl) (by kernel_rfl) (Nat.le_of_ble_eq_true (by kernel_rfl)) (by simp [Value.oneCell']) ?_
                intro w148 hg_151 hk149 hz150
                replace hg_151 : Blk w148 g [.slice A146 ((((ts.take j) ++ [t]) ++ (ts.drop j)).length) cap146] 46 := hg_151
                have hsz152 := Keep.size hk149
                replace hb1 := hb1.keep hk149 (by show ¬ (_ = _); omega)
                have hb1lt := hb1.lt
                replace hA := SlT.keep hA hk149 (fun q hq hs => by have hs : q = g := hs; have g0 := hAg q hq; have g1 := hltA q hq; omega)
                replace hA146 := SlT.keep hA146 hk149 (fun q hq hs => by have hs : q = g := hs; have g0 := own146 q hq; have g1 := lt146 q hq; omega)
                replace hK0 := Keep.fresh hK0 hk149 (by intro i hi hs; have hs2 : i = g := hs; first | (exfalso; omega) | (rw [hs2]; exact hFg)); have hzhK0 := Keep.size hK0
                refine OI_end rfl ?_
                refine X_then ?_
                refine V_seq ?_
                refine V_region ?_
                refine OI_static 1 [(4, .int .i64 0)] (by kernel_rfl) ?_
                refine OI_end rfl ?_
                refine X_then ?_
                refine V_ret ?_
                have hp0 : ¬ (t.name < 0 ∨ t.at_ < 0 ∨ t.pr < 0) := by omega
                have hany2 : ¬ ts.any (named t.name) = true := by rw [hany]; decide
                have hp : putR t ts = (0, ins t ts) := by unfold putR; rw [if_neg hp0, if_neg hany2, if_neg (by omega)]
                have hins := ins_first ts t j (by omega) hlo hend
                have hE : (((ts.take j) ++ [t]) ++ (ts.drop j)) = ins t ts := by rw [← hins]; simp
                rw [hE] at hA146
                rw [hp]
                exact X_return (.int .i64 0) rfl ⟨rfl, ⟨moreT F w w148, ⟨by rw [ins_len]; omega, .inl hFg, (fun q hq => by rcases hq with hq | hq; (have h9 := hFlt q hq; omega); exact hq.2), A146, cap146, ⟨by have h9 := hg_151; rw [hE] at h9; exact h9, hA146, fun hh => by have h9 := own146 g hh; omega⟩, fun q hq => .inr ⟨by have h9 := own146 q hq; omega, by have h9 := lt146 q hq; omega⟩⟩, fun q hq => hq.imp id (·.1)⟩, hK0⟩
              · skip
                refine GI_agg 28 (.tmp 3) 0 (Tk.cells t) (some 75) (by kernel_rfl) (by kernel_rfl) (by kernel_rfl) qhb1 (by show ¬ (b1 ≠ g ∧ b1 ≠ b1); omega) (m := 36) (by kernel_rfl) (take_all (Tk.len _)) (Tk.len _) ?_
                refine GI_slit (E := 28) (zv := .agg #[.int .i64 0, .int .i64 0, .int .i64 0, .int .u8 0, .int .u8 0, .int .u8 0, .int .u8 0, .int .u8 0, .int .u8 0, .int .u8 0, .int .u8 0, .int .u8 0, .int .u8 0, .int .u8 0, .int .u8 0, .int .u8 0, .int .u8 0, .int .u8 0, .int .u8 0, .int .u8 0, .int .u8 0, .int .u8 0, .int .u8 0, .int .u8 0, .int .u8 0, .int .u8 0, .int .u8 0, .int .u8 0, .int .u8 0, .int .u8 0, .int .u8 0, .int .u8 0, .int .u8 0, .int .u8 0, .int .u8 0, .int .i64 0]) (sz := 36) (by_ := 64) 31 1 #[(0, (Operand.tmp 75))] [.agg (Tk.cells t).toArray] (Tk.cells t) (some 76) (by kernel_rfl) (by kernel_rfl) K114 (by kernel_rfl) (by kernel_rfl) (by omega) rfl (by omega) (by intro v hv; obtain rfl := List.mem_singleton.1 hv; show (Tk.cells t).toArray.size = 36; simp [Tk.len]) (by kernel_rfl) (by show (Tk.cells t).toArray.toList ++ [] = _; simp) ?_
                intro b153 w153 e153 hb153 k153 z153 K154
                have hsz155 := Keep.size k153
                replace hg := hg.keep k153 (fun f => f)
                have hglt := hg.lt
                replace hb1 := hb1.keep k153 (fun f => f)
                have hb1lt := hb1.lt
                replace hA := SlT.keep0 hA k153
                replace hK0 := Keep.tr hK0 (Keep.ofNone k153); have hzhK0 := Keep.size hK0
                have hb153lt := hb153.lt
                refine GI_slit (E := 28) (zv := .agg #[.int .i64 0, .int .i64 0, .int .i64 0, .int .u8 0, .int .u8 0, .int .u8 0, .int .u8 0, .int .u8 0, .int .u8 0, .int .u8 0, .int .u8 0, .int .u8 0, .int .u8 0, .int .u8 0, .int .u8 0, .int .u8 0, .int .u8 0, .int .u8 0, .int .u8 0, .int .u8 0, .int .u8 0, .int .u8 0, .int .u8 0, .int .u8 0, .int .u8 0, .int .u8 0, .int .u8 0, .int .u8 0, .int .u8 0, .int .u8 0, .int .u8 0, .int .u8 0, .int .u8 0, .int .u8 0, .int .u8 0, .int .i64 0]) (sz := 36) (by_ := 64) 31 0 #[] [] [] (some 67) (by kernel_rfl) (by kernel_rfl) K154 (by kernel_rfl) (by kernel_rfl) (by omega) rfl (by omega) (by intro v hv; cases hv) (by kernel_rfl) rfl ?_
                intro b156 w156 e156 hb156 k156 z156 K157
                have hsz158 := Keep.size k156
                replace hg := hg.keep k156 (fun f => f)
                have hglt := hg.lt
                replace hb1 := hb1.keep k156 (fun f => f)
                have hb1lt := hb1.lt
                replace hb153 := hb153.keep k156 (fun f => f)
                have hb153lt := hb153.lt
                replace hA := SlT.keep0 hA k156
                replace hK0 := Keep.tr hK0 (Keep.ofNone k156); have hzhK0 := Keep.size hK0
                have hb156lt := hb156.lt
                refine GI_static [4, 5, 6, 7, 10, 11] [(0, .pointer (some ⟨g, 0, none⟩)), (6, .int .i64 ((j : Nat) : Int)), (67, .slice (some ⟨b156, 0, none⟩) 0 0), (70, .pointer (some ⟨g, 0, none⟩)), (76, .slice (some ⟨b153, 0, none⟩) 1 1)] (by kernel_rfl) ?_
                refine GI_cell 31 (.tmp 70) 0 (.slice A ts.length cap) (some 71) (by kernel_rfl) (by kernel_rfl) (by kernel_rfl) qhg (by show ¬ (g ≠ g ∧ g ≠ b1); omega) (m := 1) (by kernel_rfl) rfl ?_
                refine GI_static [6, 7, 10, 11] [(0, .pointer (some ⟨g, 0, none⟩)), (6, .int .i64 ((j : Nat) : Int)), (67, .slice (some ⟨b156, 0, none⟩) 0 0), (71, .slice A ts.length cap), (72, .int .i64 ((j : Nat) : Int)), (76, .slice (some ⟨b153, 0, none⟩) 1 1)] (by kernel_rfl) ?_
                refine GI_pure (some 73) ((Op.slice 31 (Operand.tmp 71) none (some (Operand.tmp 72)) none)) (by kernel_rfl) (by kernel_rfl) (pure_sliceTo (E := 28) (sz := 36) (by_ := 64) (base := A) (len := ts.length) (cap := cap) (h := j) (kd := .i64) (by kernel_rfl) (by kernel_rfl) (by kernel_rfl) (by omega)) ?_
                have hl159 : (ts.take j).length = j := by rw [List.length_take]; omega
                have hy159 := (SlT.to hA (i := j) (by omega)).slr
                rw [hl159] at hy159
                refine GI_append (t := 31) (at2 := 31) (E := 28) (E2 := 28) (sz := 36) (by_ := 64) (zv := .agg #[.int .i64 0, .int .i64 0, .int .i64 0, .int .u8 0, .int .u8 0, .int .u8 0, .int .u8 0, .int .u8 0, .int .u8 0, .int .u8 0, .int .u8 0, .int .u8 0, .int .u8 0, .int .u8 0, .int .u8 0, .int .u8 0, .int .u8 0, .int .u8 0, .int .u8 0, .int .u8 0, .int .u8 0, .int .u8 0, .int .u8 0, .int .u8 0, .int .u8 0, .int .u8 0, .int .u8 0, .int .u8 0, .int .u8 0, .int .u8 0, .int .u8 0, .int .u8 0, .int .u8 0, .int .u8 0, .int .u8 0, .int .i64 0]) (m := ([] : List Tk).length) (k := j) (.tmp 67) (.tmp 73) (.slice (some ⟨b156, 0, none⟩) 0 0) (.slice A j cap) (some 74) (by kernel_rfl) (by kernel_rfl) (by kernel_rfl) (by kernel_rfl) (by kernel_rfl) (by kernel_rfl) (by kernel_rfl) (by kernel_rfl) (SlT.slr (slt_blk (xs := ([] : List Tk)) (f := Tk.cells) (sz := 36) hb156 Tk.len rfl)) hy159 (fun u hu => by obtain ⟨z, _, hz⟩ := List.mem_flatMap.1 hu; exact Tk.one z u hz) (by first | omega | ((repeat first | rw [List.length_append] | rw [List.length_cons] | rw [List.length_nil] | rw [List.length_take] | rw [List.length_drop]) <;> omega)) (by omega) (by first | omega | ((repeat first | rw [List.length_append] | rw [List.length_cons] | rw [List.length_nil] | rw [List.length_take] | rw [List.length_drop]) <;> omega)) (by omega) ?_
                intro vv9 w159 hap
                obtain ⟨A159, cap159, rfl, hA159, hk159, own159x⟩ := app_many (f := Tk.cells) (xs := ([] : List Tk)) (ys := (ts.take j)) (A := (some ⟨b156, 0, none⟩)) (cap := 0) hap hl159 Tk.len
                replace hk159 : Keep (only b156) w156 w159 := hk159.mono (fun i _ h => inA_some h)
                have own159 : ∀ q, inA A159 q → w.heap.size ≤ q ∧ q ≠ b1 := fun q hq => by rcases own159x q hq with h | h; (have h9 := inA_some h; show w.heap.size ≤ q ∧ q ≠ b1; omega); (show w.heap.size ≤ q ∧ q ≠ b1; omega)
                refine ⟨Keep.fresh K157 hk159 (by intro i hi hs; have hs2 : i = b156 := hs; show i ≠ g ∧ i ≠ b1; omega), ?_⟩
                have K160 := Keep.fresh K157 hk159 (by intro i hi hs; have hs2 : i = b156 := hs; show i ≠ g ∧ i ≠ b1; omega)
                rw [List.nil_append] at hA159
                have hsz161 := Keep.size hk159
                replace hg := hg.keep hk159 (by show ¬ (_ = _); omega)
                have hglt := hg.lt
                replace hb1 := hb1.keep hk159 (by show ¬ (_ = _); omega)
                have hb1lt := hb1.lt
                replace hb153 := hb153.keep hk159 (by show ¬ (_ = _); omega)
                have hb153lt := hb153.lt
                replace hA := SlT.keep hA hk159 (fun q hq hs => by have hs : q = b156 := hs; have g0 := hAg q hq; have g1 := hltA q hq; omega)
                replace hK0 := Keep.fresh hK0 hk159 (by intro i hi hs; have hs2 : i = b156 := hs; first | (exfalso; omega) | (rw [hs2]; exact hFg)); have hzhK0 := Keep.size hK0
                have lt159 := SlT.lt hA159
                have hcap159 := SlT.cap_le hA159
                refine GI_append (t := 31) (at2 := 31) (E := 28) (E2 := 28) (sz := 36) (by_ := 64) (zv := .agg #[.int .i64 0, .int .i64 0, .int .i64 0, .int .u8 0, .int .u8 0, .int .u8 0, .int .u8 0, .int .u8 0, .int .u8 0, .int .u8 0, .int .u8 0, .int .u8 0, .int .u8 0, .int .u8 0, .int .u8 0, .int .u8 0, .int .u8 0, .int .u8 0, .int .u8 0, .int .u8 0, .int .u8 0, .int .u8 0, .int .u8 0, .int .u8 0, .int .u8 0, .int .u8 0, .int .u8 0, .int .u8 0, .int .u8 0, .int .u8 0, .int .u8 0, .int .u8 0, .int .u8 0, .int .u8 0, .int .u8 0, .int .i64 0]) (m := (ts.take j).length) (k := 1) (.tmp 74) (.tmp 76) (.slice A159 ((ts.take j).length) cap159) (.slice (some ⟨b153, 0, none⟩) 1 1) (some 77) (by kernel_rfl) (by kernel_rfl) (by kernel_rfl) (by kernel_rfl) (by kernel_rfl) (by kernel_rfl) (by kernel_rfl) (by kernel_rfl) (SlT.slr hA159) (slr_one hb153 (Tk.len t)) (Tk.one t) (by first | omega | (simp only [List.length_nil]; omega)) (by omega) (by first | omega | (simp only [List.length_nil]; omega)) (by omega) ?_
                intro vv9 w162 hap
                obtain ⟨A162, cap162, rfl, hA162, hk162, own162x⟩ := app_one (f := Tk.cells) (xs := (ts.take j)) (x := t) (A := A159) (cap := cap159) hap (fun x _ => Tk.len x) (Tk.len _)
                have own162 : ∀ q, inA A162 q → w.heap.size ≤ q ∧ q ≠ b1 := fun q hq => by rcases own162x q hq with h | h; exact own159 q h; (show w.heap.size ≤ q ∧ q ≠ b1; omega)
                refine ⟨Keep.fresh K160 hk162 (by intro i hi hs; have h1 := own159 i hs; have h2 := lt159 i hs; show i ≠ g ∧ i ≠ b1; omega), ?_⟩
                have K163 := Keep.fresh K160 hk162 (by intro i hi hs; have h1 := own159 i hs; have h2 := lt159 i hs; show i ≠ g ∧ i ≠ b1; omega)
                have hsz164 := Keep.size hk162
                replace hg := hg.keep hk162 (fun hs => by have h1 := own159 _ hs; have h2 := lt159 _ hs; omega)
                have hglt := hg.lt
                replace hb1 := hb1.keep hk162 (fun hs => by have h1 := own159 _ hs; have h2 := lt159 _ hs; omega)
                have hb1lt := hb1.lt
                replace hA := SlT.keep hA hk162 (fun q hq hs => by have g0 := hAg q hq; have g1 := hltA q hq; have h1 := own159 q hs; have h2 := lt159 q hs; omega)
                replace hK0 := Keep.fresh hK0 hk162 (by intro i hi hs; first | exact hs | (exfalso; have h1 := own159 i hs; have h2 := lt159 i hs; omega) | (have h1 := own159 i hs; have h2 := lt159 i hs; show _ ∨ _; omega)); have hzhK0 := Keep.size hK0
                have lt162 := SlT.lt hA162
                refine GI_static [] [(0, .pointer (some ⟨g, 0, none⟩)), (6, .int .i64 ((j : Nat) : Int)), (7, .slice A162 (((ts.take j) ++ [t]).length) cap162)] (by kernel_rfl) ?_
                refine GI_end ?_
                refine X_then ?_
                refine V_seq ?_
                refine V_region ?_
                refine OI_static 5 [(6, .int .i64 ((j : Nat) : Int)), (78, .pointer (some ⟨g, 0, none⟩)), (79, .slice A162 (((ts.take j) ++ [t]).length) cap162), (82, .pointer (some ⟨g, 0, none⟩))] (by kernel_rfl) ?_
                refine OI_cell 31 (.tmp 82) 0 (.slice A ts.length cap) (some 83) (by kernel_rfl) (by kernel_rfl) hg (m := 1) (by kernel_rfl) rfl ?_
                refine OI_static 7 [(78, .pointer (some ⟨g, 0, none⟩)), (79, .slice A162 (((ts.take j) ++ [t]).length) cap162), (83, .slice A ts.length cap), (84, .int .i64 ((j : Nat) : Int))] (by kernel_rfl) ?_
                refine OI_pure (some 85) ((Op.slice 31 (Operand.tmp 83) (some (Operand.tmp 84)) none none)) (by kernel_rfl) (pure_sliceSuf (E := 28) (sz := 36) (by_ := 64) (A := A) (len := ts.length) (cap := cap) (l := j) (kd := .i64) (by kernel_rfl) (by kernel_rfl) (by kernel_rfl) (by omega) (by omega)) ?_
                have hl165 : (ts.drop j).length = ts.length - j := List.length_drop
                have hy165 := (SlT.from_ hA (i := j) (by omega)).slr
                rw [hl165] at hy165
                refine OI_append (t := 31) (at2 := 31) (E := 28) (E2 := 28) (sz := 36) (by_ := 64) (zv := .agg #[.int .i64 0, .int .i64 0, .int .i64 0, .int .u8 0, .int .u8 0, .int .u8 0, .int .u8 0, .int .u8 0, .int .u8 0, .int .u8 0, .int .u8 0, .int .u8 0, .int .u8 0, .int .u8 0, .int .u8 0, .int .u8 0, .int .u8 0, .int .u8 0, .int .u8 0, .int .u8 0, .int .u8 0, .int .u8 0, .int .u8 0, .int .u8 0, .int .u8 0, .int .u8 0, .int .u8 0, .int .u8 0, .int .u8 0, .int .u8 0, .int .u8 0, .int .u8 0, .int .u8 0, .int .u8 0, .int .u8 0, .int .i64 0]) (m := ((ts.take j) ++ [t]).length) (k := ts.length - j) (.tmp 79) (.tmp 85) (.slice A162 (((ts.take j) ++ [t]).length) cap162) (.slice (sufA A cap j 36) (ts.length - j) (cap - j)) (some 86) (by kernel_rfl) (by kernel_rfl) (by kernel_rfl) (by kernel_rfl) (by kernel_rfl) (by kernel_rfl) (by kernel_rfl) (SlT.slr hA162) hy165 (fun u hu => by obtain ⟨z, _, hz⟩ := List.mem_flatMap.1 hu; exact Tk.one z u hz) (by first | omega | ((repeat first | rw [List.length_append] | rw [List.length_cons] | rw [List.length_nil] | rw [List.length_take] | rw [List.length_drop]) <;> omega)) (by omega) (by first | omega | ((repeat first | rw [List.length_append] | rw [List.length_cons] | rw [List.length_nil] | rw [List.length_take] | rw [List.length_drop]) <;> omega)) (by omega) ?_
                intro vv9 w165 hap
                obtain ⟨A165, cap165, rfl, hA165, hk165, own165x⟩ := app_many (f := Tk.cells) (xs := ((ts.take j) ++ [t])) (ys := (ts.drop j)) (A := A162) (cap := cap162) hap hl165 Tk.len
                have own165 : ∀ q, inA A165 q → w.heap.size ≤ q ∧ q ≠ b1 := fun q hq => by rcases own165x q hq with h | h; (have h8 := own162 q h; have h9 := lt162 q h; show w.heap.size ≤ q ∧ q ≠ b1; omega); (show w.heap.size ≤ q ∧ q ≠ b1; omega)
                have hsz166 := Keep.size hk165
                replace hg := hg.keep hk165 (fun hs => by have h1 := own162 _ hs; have h2 := lt162 _ hs; omega)
                have hglt := hg.lt
                replace hb1 := hb1.keep hk165 (fun hs => by have h1 := own162 _ hs; have h2 := lt162 _ hs; omega)
                have hb1lt := hb1.lt
                replace hA := SlT.keep hA hk165 (fun q hq hs => by have g0 := hAg q hq; have g1 := hltA q hq; have h1 := own162 q hs; have h2 := lt162 q hs; omega)
                replace hK0 := Keep.fresh hK0 hk165 (by intro i hi hs; first | exact hs | (exfalso; have h1 := own162 i hs; have h2 := lt162 i hs; omega) | (have h1 := own162 i hs; have h2 := lt162 i hs; show _ ∨ _; omega)); have hzhK0 := Keep.size hK0
                have lt165 := SlT.lt hA165
                have hcap165 := SlT.cap_le hA165
                refine OI_static 11 [(86, .slice A165 ((((ts.take j) ++ [t]) ++ (ts.drop j)).length) cap165), (88, .pointer (some ⟨g, 0, none⟩))] (by kernel_rfl) ?_
                refine OI_set (m := 1) (kd := false) 31 (.tmp 88) (.tmp 86) 0 (.slice A165 ((((ts.take j) ++ [t]) ++ (ts.drop j)).length) cap165) [.slice A165 ((((ts.take j) ++ [t]) ++ (ts.drop j)).length) cap165] none (by kernel_rfl) (by kernel_rfl) (by kernel_rfl) hg (by kernel_rfl) (by kernel_rfl) (by kernel_rfl) (Nat.le_of_ble_eq_true (by kernel_rfl)) (by simp [Value.oneCell']) ?_
                intro w167 hg_170 hk168 hz169
                replace hg_170 : Blk w167 g [.slice A165 ((((ts.take j) ++ [t]) ++ (ts.drop j)).length) cap165] 46 := hg_170
                have hsz171 := Keep.size hk168
                replace hb1 := hb1.keep hk168 (by show ¬ (_ = _); omega)
                have hb1lt := hb1.lt
                replace hA := SlT.keep hA hk168 (fun q hq hs => by have hs : q = g := hs; have g0 := hAg q hq; have g1 := hltA q hq; omega)
                replace hA165 := SlT.keep hA165 hk168 (fun q hq hs => by have hs : q = g := hs; have g0 := own165 q hq; have g1 := lt165 q hq; omega)
                replace hK0 := Keep.fresh hK0 hk168 (by intro i hi hs; have hs2 : i = g := hs; first | (exfalso; omega) | (rw [hs2]; exact hFg)); have hzhK0 := Keep.size hK0
                refine OI_end rfl ?_
                refine X_then ?_
                refine V_seq ?_
                refine V_region ?_
                refine OI_static 1 [(4, .int .i64 0)] (by kernel_rfl) ?_
                refine OI_end rfl ?_
                refine X_then ?_
                refine V_ret ?_
                have hp0 : ¬ (t.name < 0 ∨ t.at_ < 0 ∨ t.pr < 0) := by omega
                have hany2 : ¬ ts.any (named t.name) = true := by rw [hany]; decide
                have hp : putR t ts = (0, ins t ts) := by unfold putR; rw [if_neg hp0, if_neg hany2, if_neg (by omega)]
                have hins := ins_first ts t j (by omega) hlo hend
                have hE : (((ts.take j) ++ [t]) ++ (ts.drop j)) = ins t ts := by rw [← hins]; simp
                rw [hE] at hA165
                rw [hp]
                exact X_return (.int .i64 0) rfl ⟨rfl, ⟨moreT F w w167, ⟨by rw [ins_len]; omega, .inl hFg, (fun q hq => by rcases hq with hq | hq; (have h9 := hFlt q hq; omega); exact hq.2), A165, cap165, ⟨by have h9 := hg_170; rw [hE] at h9; exact h9, hA165, fun hh => by have h9 := own165 g hh; omega⟩, fun q hq => .inr ⟨by have h9 := own165 q hq; omega, by have h9 := lt165 q hq; omega⟩⟩, fun q hq => hq.imp id (·.1)⟩, hK0⟩
end Go.Al


namespace Go.Al
open Go Go.RowKit Go.Proofs
/-! ### Acts -/
theorem AtR.sub {w : World} {sz cap b o i k n : Nat} {L e c : List Value} {es : List (List Value)} (h : AtR w b o L sz cap es) (hi : es[i]? = some e) (hk : k + n ≤ sz) (hc : (e.drop k).take n = c) : (L.drop (o + i * sz + k)).take n = c := by
  have h1 := h.elem' i e hi
  rw [← hc, ← h1, List.drop_take, List.drop_drop, List.take_take]
  congr 1
  omega
structure AcT where
  k : Int
  t : Tk
  n : Int
  m : Int
def AcT.cells (x : AcT) : List Value := .int .i64 x.k :: (x.t.cells ++ [.int .i64 x.n, .int .i64 x.m])
theorem AcT.len (x : AcT) : x.cells.length = 39 := by simp [AcT.cells, Tk.len]
theorem AcT.one (x : AcT) : ∀ u ∈ x.cells, u.oneCell' = true := by
  intro u hu
  simp only [AcT.cells, List.mem_cons, List.mem_append, List.not_mem_nil, or_false] at hu
  rcases hu with rfl | hu | rfl | rfl
  · rfl
  · exact x.t.one u hu
  · rfl
  · rfl
theorem AcT.c37 (x : AcT) : x.cells[37]? = some (.int .i64 x.n) := by
  show (x.t.cells ++ [.int .i64 x.n, .int .i64 x.m])[36]? = _
  rw [List.getElem?_append_right (by rw [Tk.len]; exact Nat.le_refl _), Tk.len]; rfl
theorem AcT.c38 (x : AcT) : x.cells[38]? = some (.int .i64 x.m) := by
  show (x.t.cells ++ [.int .i64 x.n, .int .i64 x.m])[37]? = _
  rw [List.getElem?_append_right (by rw [Tk.len]; decide), Tk.len]; rfl
theorem AcT.mid (x : AcT) : (x.cells.drop 1).take 36 = x.t.cells := by
  show (x.t.cells ++ _).take 36 = _
  rw [List.take_append_of_le_length (by rw [Tk.len]; exact Nat.le_refl _), List.take_of_length_le (by rw [Tk.len]; exact Nat.le_refl _)]
theorem flat_app : ∀ (a b : List CK) (l : List Value), Flat (a ++ b) l → ∃ l1 l2, l = l1 ++ l2 ∧ Flat a l1 ∧ Flat b l2
  | [], b, l, h => ⟨[], l, rfl, trivial, h⟩
  | k :: a, b, [], h => h.elim
  | k :: a, b, v :: l, h => by
    obtain ⟨l1, l2, rfl, h1, h2⟩ := flat_app a b l h.2
    exact ⟨v :: l1, l2, rfl, ⟨h.1, h1⟩, h2⟩
def ksAc : List CK := .int .i64 :: (ksT ++ [.int .i64, .int .i64])
theorem lift_ac (x : List Value) (h : Flat ksAc x) : ∃ y : {y : AcT // okT y.t}, y.1.cells = x := by
  obtain _ | ⟨v, x⟩ := x
  · exact h.elim
  obtain ⟨⟨k, rfl, _⟩, h⟩ := h
  obtain ⟨l1, l2, rfl, h1, h2⟩ := flat_app _ _ _ h
  obtain ⟨t, rfl, ht⟩ := lift_tk2 l1 h1
  obtain _ | ⟨v, l2⟩ := l2
  · exact h2.elim
  obtain ⟨⟨n, rfl, _⟩, h2⟩ := h2
  obtain _ | ⟨v, l2⟩ := l2
  · exact h2.elim
  obtain ⟨⟨m, rfl, _⟩, h2⟩ := h2
  obtain _ | ⟨v, l2⟩ := l2
  · exact ⟨⟨⟨k, t, n, m⟩, ht⟩, rfl⟩
  · exact h2.elim
theorem Ag.off {F F' : Nat → Prop} {w w' : World} {g : Nat} {ts : List Tk} (h : Ag (fun q => ¬ F q) w g ts) (hg : ¬ F g) (k : Keep F w w') (hF : ∀ q, F' q → F q ∨ w.heap.size ≤ q) : Ag (fun q => ¬ F' q) w' g ts ∧ ¬ F' g := by
  have h2 := h.keep k hg (fun q hq hs => hq hs)
  obtain ⟨h0, h1, A, cap, h3, h4⟩ := h
  refine ⟨⟨h0, h1, A, cap, ⟨h3.blk.keep k hg, h3.sl.keep k (fun q hq => h4 q hq), h3.off⟩, fun q hq hs => ?_⟩, fun hs => ?_⟩
  · rcases hF q hs with h9 | h9
    · exact h4 q hq h9
    · have := SlT.lt h3.sl q hq; omega
  · rcases hF g hs with h9 | h9
    · exact hg h9
    · have := h3.blk.lt; omega
theorem okT_ins {t : Tk} {ts : List Tk} (h : okT t) (hs : ∀ x ∈ ts, okT x) : ∀ x ∈ (putR t ts).2, okT x := by
  unfold putR
  split
  · exact hs
  · split
    · exact hs
    · split
      · exact hs
      · intro x hx
        rcases ins_mem.1 hx with rfl | hx
        · exact h
        · exact hs x hx
theorem okT_del (nm : Int) {ts : List Tk} (hs : ∀ x ∈ ts, okT x) : ∀ x ∈ del nm ts, okT x := by
  rcases idx_at nm ts 0 with ⟨_, _, h3⟩ | ⟨i, _, _, _, h4⟩
  · rw [h3]; exact hs
  · rw [← h4]
    intro x hx
    rcases List.mem_append.1 hx with hx | hx
    · exact hs x (List.mem_of_mem_take hx)
    · exact hs x (List.mem_of_mem_drop hx)
end Go.Al


namespace Go.Al
open Go Go.RowKit
section
variable {P : Program} {e : Env}
end
section
variable {P : Program} {r : Option Nat} {n : Nat} {ds : List Deferred} {ops : Array Oper} {Q : Post} {act : Nat → Bool} {S : Nat → Prop} {w1 : World} {i : Nat} {l : List Nat} {e : Env} {w w' : World} {op : Op}
end
end Go.Al


namespace Go.Al
open Go Go.RowKit Go.Proofs
set_option maxHeartbeats 1000000 in
theorem walk_AgendaPlays (A : Option Addr) (cap : Nat) (xs : List AcT) (w : World) (hA0 : ArgT w 39 AcT.cells A cap xs) (hoka : ∀ x ∈ xs, okT x.t) (hcap : xs.length ≤ 9223372036854775807) : Calls Try.prog 8 #[.slice A xs.length cap] w fun e w' => e = .returned (.bool true) ∧ Keep none_ w w' := by
  have hA := hA0
  have hK0 : Keep none_ w w := Keep.refl _ _
  have hzhK0 := Keep.size hK0
  refine enterV Try.func8 rfl [.slice A xs.length cap] 118 rfl rfl rfl ?_
  refine V_pick [(0, .slice A xs.length cap)] rfl ?_
  refine V_seq ?_
  refine V_region ?_
  refine OI_static 1 [(0, .slice A xs.length cap)] (by kernel_rfl) ?_
  refine OI_end rfl ?_
  refine X_then ?_
  refine V_seq ?_
  refine V_seq ?_
  refine V_region ?_
  refine OI_static 3 [(0, .slice A xs.length cap), (10, .bool (decide (((xs.length : Nat) : Int) > 10000)))] (by kernel_rfl) ?_
  refine OI_end rfl ?_
  refine X_then ?_
  refine V_if (((xs.length : Nat) : Int) > 10000) (by kernel_rfl) (fun hc1 => ?_) (fun hc1 => ?_)
  · skip
    refine V_seq ?_
    refine V_region ?_
    refine OI_static 1 [(2, .bool true)] (by kernel_rfl) ?_
    refine OI_end rfl ?_
    refine X_then ?_
    refine V_ret ?_
    refine X_ret_then ?_
    exact X_return (.bool true) rfl ⟨rfl, hK0⟩
  · skip
    refine V_skip ?_
    refine X_then ?_
    refine V_seq ?_
    refine V_region ?_
    refine OI_call { callee := (Callee.value (Operand.func 11)), args := #[], argTypes := #[] } 11 #[] (some 11) (by kernel_rfl) (by kernel_rfl) (by kernel_rfl) (new_spec (fun _ => False) _) ?_
    rintro _ w2 ⟨g, rfl, hag0, hk3, hgn⟩
    refine ⟨_, rfl, ?_⟩
    have hsz4 := Keep.size hk3
    replace hA := ArgT.keep0 hA hk3
    replace hK0 := Keep.tr hK0 (Keep.ofNone hk3); have hzhK0 := Keep.size hK0
    have hltg := Ag.lt hag0
    refine OI_static 2 [(0, .slice A xs.length cap), (11, .pointer (some ⟨g, 0, none⟩)), (12, .agg #[.slice none 0 0])] (by kernel_rfl) ?_
    refine OI_box 46 (.tmp 12) (.agg #[.slice none 0 0]) [.slice none 0 0] (some 13) (by kernel_rfl) (by kernel_rfl) (by kernel_rfl) ?_
    intro b5 w5 e5 hb5 k5 z5
    have hsz6 := Keep.size k5
    replace hA := ArgT.keep0 hA k5
    replace hK0 := Keep.tr hK0 (Keep.ofNone k5); have hzhK0 := Keep.size hK0
    replace hag0 := Ag.keep0 hag0 k5
    have hb5lt := hb5.lt
    refine OI_static 5 [(0, .slice A xs.length cap), (3, .pointer (some ⟨g, 0, none⟩)), (4, .pointer (some ⟨b5, 0, none⟩))] (by kernel_rfl) ?_
    refine OI_end rfl ?_
    refine X_then ?_
    refine V_seq ?_
    refine V_seq ?_
    refine V_region ?_
    refine OI_static 2 [(0, .slice A xs.length cap), (3, .pointer (some ⟨g, 0, none⟩)), (4, .pointer (some ⟨b5, 0, none⟩)), (15, .bool false)] (by kernel_rfl) ?_
    refine OI_end rfl ?_
    refine X_then ?_
    refine V_false rfl ?_
    refine V_skip ?_
    refine X_then ?_
    refine V_seq ?_
    refine V_seq ?_
    refine V_region ?_
    refine OI_static 1 [(0, .slice A xs.length cap), (3, .pointer (some ⟨g, 0, none⟩)), (4, .pointer (some ⟨b5, 0, none⟩)), (5, .int .i64 0)] (by kernel_rfl) ?_
    refine OI_end rfl ?_
    refine X_then ?_
    refine V_block ?_
    obtain ⟨r, hrr⟩ : ∃ r : Nat, r = b5 := ⟨_, rfl⟩
    rw [← hrr]
    have hrf0 : Rf (fun q => q = r) w5 r [] := by rw [hrr]; exact ⟨by decide, rfl, fun q hq => by rw [show q = _ from hq]; exact (hb5).lt, none, 0, ⟨hb5, SlT.nil _ _ _, fun h => inA_none h⟩, fun q hq => (inA_none hq).elim⟩
    have hgr : g ≠ r := by omega
    have hag1 : Ag (fun q => ¬ q = r) w5 g [] := Ag.mono hag0 (fun q h => h.elim)
    refine V_pick [(0, .slice A xs.length cap), (3, .pointer (some ⟨g, 0, none⟩)), (4, .pointer (some ⟨r, 0, none⟩)), (5, .int .i64 0)] rfl ?_
    refine V_loop (fun k wI e => ∃ i : Nat, ∃ ts : List Tk, ∃ F : Nat → Prop, (k + i = xs.length) ∧ (Ag (fun q => ¬ F q) wI g ts) ∧ (Rf F wI r ts) ∧ (¬ F g) ∧ (∀ x ∈ ts, okT x) ∧ (∀ q, F q → w.heap.size ≤ q) ∧ (Keep none_ w wI) ∧ e = [(0, .slice A xs.length cap), (3, .pointer (some ⟨g, 0, none⟩)), (4, .pointer (some ⟨r, 0, none⟩)), (5, .int .i64 ((i : Nat) : Int))]) xs.length ⟨0, [], (fun q => q = r), by omega, hag1, hrf0, hgr, (fun x hx => by cases hx), (fun q hq => by have hq : q = r := hq; omega), hK0, rfl⟩ ?_
    rintro k8 w7 _ ⟨i, ts, F, hki, hag, hrf, hgF, hok, hFn, hKw, rfl⟩
    have hA := ArgT.keep0 hA0 hKw
    have hzKw := Keep.size hKw
    have hts : ts.length ≤ 12 := hag.2.1
    refine V_seq ?_
    refine V_seq ?_
    refine V_region ?_
    refine OI_static 5 [(0, .slice A xs.length cap), (3, .pointer (some ⟨g, 0, none⟩)), (4, .pointer (some ⟨r, 0, none⟩)), (5, .int .i64 ((i : Nat) : Int)), (20, .bool (decide (((i : Nat) : Int) < ((xs.length : Nat) : Int))))] (by kernel_rfl) ?_
    by_cases hg10 : ((i : Nat) : Int) < ((xs.length : Nat) : Int)
    · skip
      refine OI_eq [(0, .slice A xs.length cap), (3, .pointer (some ⟨g, 0, none⟩)), (4, .pointer (some ⟨r, 0, none⟩)), (5, .int .i64 ((i : Nat) : Int)), (20, .bool true)] (by first | simp [hg10] | rfl) ?_
      refine OI_static 8 [(0, .slice A xs.length cap), (3, .pointer (some ⟨g, 0, none⟩)), (4, .pointer (some ⟨r, 0, none⟩)), (5, .int .i64 ((i : Nat) : Int)), (21, .int .i64 ((i : Nat) : Int)), (22, .bool (decide (((i : Nat) : Int) < 100))), (23, .bool (decide (((i : Nat) : Int) < 100)))] (by kernel_rfl) ?_
      refine OI_end rfl ?_
      refine X_then ?_
      refine V_if (((i : Nat) : Int) < 100) (by kernel_rfl) (fun hc11 => ?_) (fun hc11 => ?_)
      · skip
        refine V_skip ?_
        refine X_then ?_
        refine V_seq ?_
        refine V_block ?_
        refine V_seq ?_
        refine V_seq ?_
        refine V_region ?_
        refine OI_static 2 [(0, .slice A xs.length cap), (3, .pointer (some ⟨g, 0, none⟩)), (4, .pointer (some ⟨r, 0, none⟩)), (5, .int .i64 ((i : Nat) : Int)), (21, .int .i64 ((i : Nat) : Int)), (22, .bool (decide (((i : Nat) : Int) < 100))), (26, .slice A xs.length cap), (27, .int .i64 ((i : Nat) : Int))] (by kernel_rfl) ?_
        obtain ⟨b12, o12, L12, rfl, hat12⟩ := ArgT.open_ hA (by first | omega | (simp only [List.length_map]; omega) | (simp; done) | (simp; omega))
        have hb12lt0 := ArgT.lt hA0 (by first | omega | (simp only [List.length_map]; omega) | (simp; done) | (simp; omega))
        have hb12lt := hat12.blk.lt
        refine OI_pure (some 28) (.indexAddr 43 (.tmp 26) (.tmp 27)) (by kernel_rfl) (pure_idxN (b := b12) (o := o12) (len := xs.length) (cap := cap) (kd := .i64) (j := i) (E := 48) (sz := 39) (by_ := 88) (by kernel_rfl) (by kernel_rfl) (by kernel_rfl) (by omega)) ?_
        refine OI_static 4 [(0, .slice (some ⟨b12, o12, none⟩) xs.length cap), (3, .pointer (some ⟨g, 0, none⟩)), (4, .pointer (some ⟨r, 0, none⟩)), (5, .int .i64 ((i : Nat) : Int)), (21, .int .i64 ((i : Nat) : Int)), (22, .bool (decide (((i : Nat) : Int) < 100))), (29, .pointer (some ⟨b12, o12 + i * 39, none⟩))] (by kernel_rfl) ?_
        obtain ⟨x13, hx14⟩ : ∃ x, xs[i]? = some x := ⟨_, List.getElem?_eq_getElem (by first | omega | (simp only [List.length_map]; omega))⟩
        refine OI_cellR 3 (.tmp 29) (o12 + i * 39) (.int .i64 x13.k) (some 30) (by kernel_rfl) (by kernel_rfl) hat12.blk (m := 1) (by kernel_rfl) (AtR.cell0 hat12 (es_at hx14) rfl) ?_
        refine OI_end rfl ?_
        refine X_then ?_
        refine V_block ?_
        refine V_seq ?_
        refine V_region ?_
        refine OI_static 2 [(0, .slice (some ⟨b12, o12, none⟩) xs.length cap), (3, .pointer (some ⟨g, 0, none⟩)), (4, .pointer (some ⟨r, 0, none⟩)), (5, .int .i64 ((i : Nat) : Int)), (21, .int .i64 ((i : Nat) : Int)), (22, .bool (decide (((i : Nat) : Int) < 100))), (30, .int .i64 x13.k), (57, .bool (decide (x13.k = 1)))] (by kernel_rfl) ?_
        refine OI_end rfl ?_
        refine X_then ?_
        refine V_if (x13.k = 1) (by kernel_rfl) (fun hc15 => ?_) (fun hc15 => ?_)
        · skip
          refine V_seq ?_
          refine V_draws (acts [6, 13]) (fun q => w.heap.size ≤ q) [[0, 1, 2, 3, 4, 5, 6, 7, 8, 9, 10, 11, 12, 13, 14]] (by kernel_rfl) (by repeat first | exact sure_body (by rintro _ _ ⟨h, _⟩; exact ⟨_, h⟩) | refine sure_then ?_ | refine sure_block ?_ | refine sure_join ?_) (by kernel_rfl) ?_
          intro w17 hk16 he18 L hL19
          have hsz20 := Keep.size hk16
          replace hat12 := hat12.keep hk16 (fun f => f)
          have hb12lt := hat12.blk.lt
          replace hKw := Keep.tr hKw (Keep.ofNone hk16); have hzhKw := Keep.size hKw
          replace hag := Ag.keep0 hag hk16; replace hrf := Rf.keep hrf hk16 (fun _ _ f => f)
          have qhat12 := hat12
          have K21 : Keep (fun q => w.heap.size ≤ q) w17 w17 := Keep.refl _ _
          obtain rfl := List.mem_singleton.1 hL19
          refine GI_static [3, 4, 5, 6, 7, 8, 9, 10, 11, 12, 13, 14] [(0, .slice (some ⟨b12, o12, none⟩) xs.length cap), (3, .pointer (some ⟨g, 0, none⟩)), (4, .pointer (some ⟨r, 0, none⟩)), (5, .int .i64 ((i : Nat) : Int)), (21, .int .i64 ((i : Nat) : Int)), (22, .bool (decide (((i : Nat) : Int) < 100))), (59, .pointer (some ⟨g, 0, none⟩)), (60, .slice (some ⟨b12, o12, none⟩) xs.length cap), (61, .int .i64 ((i : Nat) : Int))] (by kernel_rfl) ?_
          refine GI_pure (some 62) (.indexAddr 43 (.tmp 60) (.tmp 61)) (by kernel_rfl) (by kernel_rfl) (pure_idxN (b := b12) (o := o12) (len := xs.length) (cap := cap) (kd := .i64) (j := i) (E := 48) (sz := 39) (by_ := 88) (by kernel_rfl) (by kernel_rfl) (by kernel_rfl) (by omega)) ?_
          refine GI_static [5, 6, 7, 8, 9, 10, 11, 12, 13, 14] [(0, .slice (some ⟨b12, o12, none⟩) xs.length cap), (3, .pointer (some ⟨g, 0, none⟩)), (4, .pointer (some ⟨r, 0, none⟩)), (5, .int .i64 ((i : Nat) : Int)), (21, .int .i64 ((i : Nat) : Int)), (22, .bool (decide (((i : Nat) : Int) < 100))), (59, .pointer (some ⟨g, 0, none⟩)), (63, .pointer (some ⟨b12, o12 + i * 39 + 1, none⟩))] (by kernel_rfl) ?_
          refine GI_aggR 28 (.tmp 63) (o12 + i * 39 + 1) (Tk.cells x13.t) (some 64) (by kernel_rfl) (by kernel_rfl) (by kernel_rfl) qhat12.blk (by show ¬ (w.heap.size ≤ b12); omega) (m := 36) (by kernel_rfl) (AtR.sub qhat12 (es_at hx14) (by decide) (AcT.mid _)) (Tk.len _) ?_
          refine GI_call { callee := (Callee.value (Operand.func 12)), args := #[(Operand.tmp 59), (Operand.tmp 64)], argTypes := #[23, 28] } 12 #[.pointer (some ⟨g, 0, none⟩), .agg (Tk.cells x13.t).toArray] (some 65) (by kernel_rfl) (by kernel_rfl) (by kernel_rfl) (by kernel_rfl) (put_spec (fun q => ¬ F q) g ts x13.t _ hag (fun q hq hs => by have h9 := Rf.lt hrf q hs; omega)) ?_
          rintro _ w22 ⟨rfl, hag24, hk23⟩
          have K25 := Keep.fresh K21 hk23 (by intro i hi hs; have hs2 : i = g := hs; show w.heap.size ≤ i; omega)
          refine ⟨_, rfl, K25, ?_⟩
          have hzK25 := Keep.size K25
          have hsz26 := Keep.size hk23
          replace hat12 := hat12.keep hk23 (by show ¬ (_ = _); omega)
          have hb12lt := hat12.blk.lt
          replace hKw := Keep.fresh hKw hk23 (by intro i hi hs; first | exact hs | exact Or.inl hs | exact Or.inr hs | (exfalso; have hs2 : i = g := hs; omega)); have hzhKw := Keep.size hKw
          replace hrf := Rf.keep hrf hk23 (fun q hq hs => by have hs : q = g := hs; subst hs; exact hgF hq)
          refine GI_static [10, 11, 12, 13, 14] [(0, .slice (some ⟨b12, o12, none⟩) xs.length cap), (3, .pointer (some ⟨g, 0, none⟩)), (4, .pointer (some ⟨r, 0, none⟩)), (5, .int .i64 ((i : Nat) : Int)), (21, .int .i64 ((i : Nat) : Int)), (22, .bool (decide (((i : Nat) : Int) < 100))), (65, .int .i64 ((putR x13.t ts).1)), (66, .pointer (some ⟨r, 0, none⟩)), (67, .slice (some ⟨b12, o12, none⟩) xs.length cap), (68, .int .i64 ((i : Nat) : Int))] (by kernel_rfl) ?_
          refine GI_pure (some 69) (.indexAddr 43 (.tmp 67) (.tmp 68)) (by kernel_rfl) (by kernel_rfl) (pure_idxN (b := b12) (o := o12) (len := xs.length) (cap := cap) (kd := .i64) (j := i) (E := 48) (sz := 39) (by_ := 88) (by kernel_rfl) (by kernel_rfl) (by kernel_rfl) (by omega)) ?_
          refine GI_static [12, 13, 14] [(0, .slice (some ⟨b12, o12, none⟩) xs.length cap), (3, .pointer (some ⟨g, 0, none⟩)), (4, .pointer (some ⟨r, 0, none⟩)), (5, .int .i64 ((i : Nat) : Int)), (21, .int .i64 ((i : Nat) : Int)), (22, .bool (decide (((i : Nat) : Int) < 100))), (65, .int .i64 ((putR x13.t ts).1)), (66, .pointer (some ⟨r, 0, none⟩)), (70, .pointer (some ⟨b12, o12 + i * 39 + 1, none⟩))] (by kernel_rfl) ?_
          refine GI_aggR 28 (.tmp 70) (o12 + i * 39 + 1) (Tk.cells x13.t) (some 71) (by kernel_rfl) (by kernel_rfl) (by kernel_rfl) qhat12.blk (by show ¬ (w.heap.size ≤ b12); omega) (m := 36) (by kernel_rfl) (AtR.sub qhat12 (es_at hx14) (by decide) (AcT.mid _)) (Tk.len _) ?_
          have hl32 := Rf.lt hrf
          refine GI_call0 { callee := (Callee.value (Operand.func 19)), args := #[(Operand.tmp 66), (Operand.tmp 71)], argTypes := #[44, 28] } 19 #[.pointer (some ⟨r, 0, none⟩), .agg (Tk.cells x13.t).toArray] (some 72) (by kernel_rfl) (by kernel_rfl) (by kernel_rfl) (by kernel_rfl) (by kernel_rfl) (rput_spec F r ts x13.t _ hrf) ?_
          rintro _ w27 ⟨rfl, ⟨F29, hrf30, hfF31⟩, hk28⟩
          refine ⟨_, rfl, ?_⟩
          have hsz36 := Keep.size hk28
          replace hat12 := hat12.keep hk28 (fun hs => by have h9 := hFn _ hs; omega)
          have hb12lt := hat12.blk.lt
          replace hKw := Keep.fresh hKw hk28 (by intro i hi hs; exfalso; have h9 := hFn i hs; omega); have hzhKw := Keep.size hKw
          skip
          obtain ⟨hag33, hgF34⟩ := Ag.off hag24 hgF hk28 hfF31
          have hFn35 : ∀ q, F29 q → w.heap.size ≤ q := fun q hq => by rcases hfF31 q hq with h9 | h9; exact hFn q h9; omega
          replace hok : ∀ x ∈ (putR x13.t ts).2, okT x := okT_ins (hoka _ (List.mem_of_getElem? hx14)) hok
          refine GI_static [] [(0, .slice (some ⟨b12, o12, none⟩) xs.length cap), (3, .pointer (some ⟨g, 0, none⟩)), (4, .pointer (some ⟨r, 0, none⟩)), (5, .int .i64 ((i : Nat) : Int)), (21, .int .i64 ((i : Nat) : Int)), (22, .bool (decide (((i : Nat) : Int) < 100))), (73, .bool (!(decide ((putR x13.t ts).1 = (putR x13.t ts).1))))] (by kernel_rfl) ?_
          refine GI_end ?_
          refine X_then ?_
          refine V_eq [(0, .slice (some ⟨b12, o12, none⟩) xs.length cap), (3, .pointer (some ⟨g, 0, none⟩)), (4, .pointer (some ⟨r, 0, none⟩)), (5, .int .i64 ((i : Nat) : Int)), (21, .int .i64 ((i : Nat) : Int)), (22, .bool (decide (((i : Nat) : Int) < 100))), (73, .bool false)] (by rw [decide_eq_true (rfl : (putR x13.t ts).1 = (putR x13.t ts).1)]; rfl) ?_
          refine V_false rfl ?_
          refine V_skip ?_
          refine X_block ?_
          refine X_then ?_
          refine V_seq ?_
          refine V_region ?_
          refine OI_static 1 [(0, .slice (some ⟨b12, o12, none⟩) xs.length cap), (3, .pointer (some ⟨g, 0, none⟩)), (4, .pointer (some ⟨r, 0, none⟩)), (5, .int .i64 ((i : Nat) : Int)), (21, .int .i64 ((i : Nat) : Int)), (22, .bool (decide (((i : Nat) : Int) < 100))), (92, .pointer (some ⟨g, 0, none⟩))] (by kernel_rfl) ?_
          obtain ⟨hlr, _, _, A41, cap42, hra, _⟩ := id hrf30
          have hrb := hra.blk
          have hrs := hra.sl
          refine OI_call { callee := (Callee.value (Operand.func 16)), args := #[(Operand.tmp 92)], argTypes := #[23] } 16 #[.pointer (some ⟨g, 0, none⟩)] (some 93) (by kernel_rfl) (by kernel_rfl) (by kernel_rfl) (all_spec (fun q => ¬ F29 q) g (putR x13.t ts).2 _ hag33) ?_
          rintro _ w38 ⟨R40, capR40, rfl, hR40, hk39, ownR40⟩
          refine ⟨_, rfl, ?_⟩
          have hsz43 := Keep.size hk39
          replace hrb := hrb.keep hk39 (fun f => f)
          have hrlt := hrb.lt
          replace hat12 := hat12.keep hk39 (fun f => f)
          have hb12lt := hat12.blk.lt
          replace hrs := SlT.keep0 hrs hk39
          replace hKw := Keep.tr hKw (Keep.ofNone hk39); have hzhKw := Keep.size hKw
          replace hag33 := Ag.keep0 hag33 hk39; replace hrf30 := Rf.keep hrf30 hk39 (fun _ _ f => f)
          refine OI_static 7 [(0, .slice (some ⟨b12, o12, none⟩) xs.length cap), (3, .pointer (some ⟨g, 0, none⟩)), (4, .pointer (some ⟨r, 0, none⟩)), (5, .int .i64 ((i : Nat) : Int)), (6, .slice R40 ((putR x13.t ts).2.length) capR40), (7, .bool true), (21, .int .i64 ((i : Nat) : Int)), (22, .bool (decide (((i : Nat) : Int) < 100)))] (by kernel_rfl) ?_
          refine OI_end rfl ?_
          refine X_then ?_
          refine V_seq ?_
          refine V_draws (acts [8, 13]) none_ [[0, 1, 2, 3, 4, 5, 6, 7, 8, 9, 10, 11, 12, 13, 14, 15, 16, 17, 18, 19, 20]] (by kernel_rfl) (by repeat first | exact sure_body (by rintro _ _ ⟨h, _⟩; exact ⟨_, h⟩) | refine sure_then ?_ | refine sure_block ?_ | refine sure_join ?_) (by kernel_rfl) ?_
          intro w45 hk44 he46 L hL47
          have hsz48 := Keep.size hk44
          replace hrb := hrb.keep hk44 (fun f => f)
          have hrlt := hrb.lt
          replace hat12 := hat12.keep hk44 (fun f => f)
          have hb12lt := hat12.blk.lt
          replace hrs := SlT.keep0 hrs hk44
          replace hR40 := SlT.keep0 hR40 hk44
          replace hKw := Keep.tr hKw (Keep.ofNone hk44); have hzhKw := Keep.size hKw
          replace hag33 := Ag.keep0 hag33 hk44; replace hrf30 := Rf.keep hrf30 hk44 (fun _ _ f => f)
          have qhrb := hrb
          have qhat12 := hat12
          have K49 : Keep none_ w45 w45 := Keep.refl _ _
          obtain rfl := List.mem_singleton.1 hL47
          refine GI_static [7, 8, 9, 10, 11, 12, 13, 14, 15, 16, 17, 18, 19, 20] [(0, .slice (some ⟨b12, o12, none⟩) xs.length cap), (3, .pointer (some ⟨g, 0, none⟩)), (4, .pointer (some ⟨r, 0, none⟩)), (5, .int .i64 ((i : Nat) : Int)), (21, .int .i64 ((i : Nat) : Int)), (22, .bool (decide (((i : Nat) : Int) < 100))), (98, .bool false), (99, .slice R40 ((putR x13.t ts).2.length) capR40), (100, .pointer (some ⟨r, 0, none⟩)), (101, .pointer (some ⟨r, 0, none⟩)), (102, .pointer (some ⟨r, 0, none⟩))] (by kernel_rfl) ?_
          refine GI_cell 31 (.tmp 102) 0 (.slice A41 ((putR x13.t ts).2.length) cap42) (some 103) (by kernel_rfl) (by kernel_rfl) (by kernel_rfl) qhrb (fun f => f) (m := 1) (by kernel_rfl) rfl ?_
          refine GI_call { callee := (Callee.value (Operand.func 17)), args := #[(Operand.tmp 99), (Operand.tmp 103)], argTypes := #[31, 31] } 17 #[.slice R40 ((putR x13.t ts).2.length) capR40, .slice A41 ((putR x13.t ts).2.length) cap42] (some 104) (by kernel_rfl) (by kernel_rfl) (by kernel_rfl) (by kernel_rfl) (same_spec R40 A41 capR40 cap42 ((putR x13.t ts).2) _ hR40 hrs hok (by first | omega | (rw [List.length_take]; omega))) ?_
          rintro _ w50 ⟨rfl, hk51⟩
          have K52 := K49.tr (Keep.ofNone hk51)
          refine ⟨_, rfl, K52, ?_⟩
          have hzK52 := Keep.size K52
          have hsz53 := Keep.size hk51
          replace hrb := hrb.keep hk51 (fun f => f)
          have hrlt := hrb.lt
          replace hat12 := hat12.keep hk51 (fun f => f)
          have hb12lt := hat12.blk.lt
          replace hrs := SlT.keep0 hrs hk51
          replace hR40 := SlT.keep0 hR40 hk51
          replace hKw := Keep.tr hKw (Keep.ofNone hk51); have hzhKw := Keep.size hKw
          replace hag33 := Ag.keep0 hag33 hk51; replace hrf30 := Rf.keep hrf30 hk51 (fun _ _ f => f)
          refine GI_static [13, 14, 15, 16, 17, 18, 19, 20] [(0, .slice (some ⟨b12, o12, none⟩) xs.length cap), (3, .pointer (some ⟨g, 0, none⟩)), (4, .pointer (some ⟨r, 0, none⟩)), (5, .int .i64 ((i : Nat) : Int)), (21, .int .i64 ((i : Nat) : Int)), (22, .bool (decide (((i : Nat) : Int) < 100))), (99, .slice R40 ((putR x13.t ts).2.length) capR40), (100, .pointer (some ⟨r, 0, none⟩)), (101, .pointer (some ⟨r, 0, none⟩)), (102, .pointer (some ⟨r, 0, none⟩)), (103, .slice A41 ((putR x13.t ts).2.length) cap42), (104, .bool true), (105, .bool false), (107, .bool false), (108, .pointer (some ⟨g, 0, none⟩))] (by kernel_rfl) ?_
          refine GI_call { callee := (Callee.value (Operand.func 14)), args := #[(Operand.tmp 108)], argTypes := #[23] } 14 #[.pointer (some ⟨g, 0, none⟩)] (some 109) (by kernel_rfl) (by kernel_rfl) (by kernel_rfl) (by kernel_rfl) (len_spec (fun q => ¬ F29 q) g (putR x13.t ts).2 _ hag33) ?_
          rintro _ w50 ⟨rfl, rfl⟩
          refine ⟨_, rfl, K52, ?_⟩
          refine GI_static [17, 18, 19, 20] [(0, .slice (some ⟨b12, o12, none⟩) xs.length cap), (3, .pointer (some ⟨g, 0, none⟩)), (4, .pointer (some ⟨r, 0, none⟩)), (5, .int .i64 ((i : Nat) : Int)), (21, .int .i64 ((i : Nat) : Int)), (22, .bool (decide (((i : Nat) : Int) < 100))), (99, .slice R40 ((putR x13.t ts).2.length) capR40), (100, .pointer (some ⟨r, 0, none⟩)), (101, .pointer (some ⟨r, 0, none⟩)), (102, .pointer (some ⟨r, 0, none⟩)), (103, .slice A41 ((putR x13.t ts).2.length) cap42), (104, .bool true), (105, .bool false), (107, .bool false), (108, .pointer (some ⟨g, 0, none⟩)), (109, .int .i64 (((putR x13.t ts).2.length : Nat) : Int)), (110, .pointer (some ⟨r, 0, none⟩)), (111, .pointer (some ⟨r, 0, none⟩)), (112, .pointer (some ⟨r, 0, none⟩))] (by kernel_rfl) ?_
          refine GI_cell 31 (.tmp 112) 0 (.slice A41 ((putR x13.t ts).2.length) cap42) (some 113) (by kernel_rfl) (by kernel_rfl) (by kernel_rfl) qhrb (fun f => f) (m := 1) (by kernel_rfl) rfl ?_
          refine GI_static [] [(0, .slice (some ⟨b12, o12, none⟩) xs.length cap), (3, .pointer (some ⟨g, 0, none⟩)), (4, .pointer (some ⟨r, 0, none⟩)), (5, .int .i64 ((i : Nat) : Int)), (21, .int .i64 ((i : Nat) : Int)), (22, .bool (decide (((i : Nat) : Int) < 100))), (99, .slice R40 ((putR x13.t ts).2.length) capR40), (100, .pointer (some ⟨r, 0, none⟩)), (101, .pointer (some ⟨r, 0, none⟩)), (102, .pointer (some ⟨r, 0, none⟩)), (103, .slice A41 ((putR x13.t ts).2.length) cap42), (104, .bool true), (105, .bool false), (108, .pointer (some ⟨g, 0, none⟩)), (109, .int .i64 (((putR x13.t ts).2.length : Nat) : Int)), (110, .pointer (some ⟨r, 0, none⟩)), (111, .pointer (some ⟨r, 0, none⟩)), (112, .pointer (some ⟨r, 0, none⟩)), (113, .slice A41 ((putR x13.t ts).2.length) cap42), (114, .int .i64 (((putR x13.t ts).2.length : Nat) : Int)), (115, .bool (!(decide ((((putR x13.t ts).2.length : Nat) : Int) = (((putR x13.t ts).2.length : Nat) : Int))))), (116, .bool (!(decide ((((putR x13.t ts).2.length : Nat) : Int) = (((putR x13.t ts).2.length : Nat) : Int)))))] (by kernel_rfl) ?_
          refine GI_end ?_
          refine X_then ?_
          refine V_eq [(0, .slice (some ⟨b12, o12, none⟩) xs.length cap), (3, .pointer (some ⟨g, 0, none⟩)), (4, .pointer (some ⟨r, 0, none⟩)), (5, .int .i64 ((i : Nat) : Int)), (21, .int .i64 ((i : Nat) : Int)), (22, .bool (decide (((i : Nat) : Int) < 100))), (99, .slice R40 ((putR x13.t ts).2.length) capR40), (100, .pointer (some ⟨r, 0, none⟩)), (101, .pointer (some ⟨r, 0, none⟩)), (102, .pointer (some ⟨r, 0, none⟩)), (103, .slice A41 ((putR x13.t ts).2.length) cap42), (104, .bool true), (105, .bool false), (108, .pointer (some ⟨g, 0, none⟩)), (109, .int .i64 (((putR x13.t ts).2.length : Nat) : Int)), (110, .pointer (some ⟨r, 0, none⟩)), (111, .pointer (some ⟨r, 0, none⟩)), (112, .pointer (some ⟨r, 0, none⟩)), (113, .slice A41 ((putR x13.t ts).2.length) cap42), (114, .int .i64 (((putR x13.t ts).2.length : Nat) : Int)), (115, .bool (!(decide ((((putR x13.t ts).2.length : Nat) : Int) = (((putR x13.t ts).2.length : Nat) : Int))))), (116, .bool false)] (by rw [decide_eq_true (rfl : (((putR x13.t ts).2.length : Nat) : Int) = (((putR x13.t ts).2.length : Nat) : Int))]; rfl) ?_
          refine V_false rfl ?_
          refine V_skip ?_
          refine X_block ?_
          refine X_then ?_
          refine V_region ?_
          have hw58 : IntKind.i64.wrap (((i : Nat) : Int) + 1) = ((i + 1 : Nat) : Int) := (wrap64_id (by omega) (by omega)).trans (by omega)
          refine OI_static 2 [(0, .slice (some ⟨b12, o12, none⟩) xs.length cap), (3, .pointer (some ⟨g, 0, none⟩)), (4, .pointer (some ⟨r, 0, none⟩)), (21, .int .i64 ((i : Nat) : Int)), (22, .bool (decide (((i : Nat) : Int) < 100))), (25, .int .i64 (IntKind.i64.wrap (((i : Nat) : Int) + 1))), (99, .slice R40 ((putR x13.t ts).2.length) capR40), (100, .pointer (some ⟨r, 0, none⟩)), (101, .pointer (some ⟨r, 0, none⟩)), (102, .pointer (some ⟨r, 0, none⟩)), (103, .slice A41 ((putR x13.t ts).2.length) cap42), (104, .bool true), (105, .bool false), (108, .pointer (some ⟨g, 0, none⟩)), (109, .int .i64 (((putR x13.t ts).2.length : Nat) : Int)), (110, .pointer (some ⟨r, 0, none⟩)), (111, .pointer (some ⟨r, 0, none⟩)), (112, .pointer (some ⟨r, 0, none⟩)), (113, .slice A41 ((putR x13.t ts).2.length) cap42), (114, .int .i64 (((putR x13.t ts).2.length : Nat) : Int)), (115, .bool (!(decide ((((putR x13.t ts).2.length : Nat) : Int) = (((putR x13.t ts).2.length : Nat) : Int)))))] (by kernel_rfl) ?_
          refine OI_eq [(0, .slice (some ⟨b12, o12, none⟩) xs.length cap), (3, .pointer (some ⟨g, 0, none⟩)), (4, .pointer (some ⟨r, 0, none⟩)), (21, .int .i64 ((i : Nat) : Int)), (22, .bool (decide (((i : Nat) : Int) < 100))), (25, .int .i64 ((i + 1 : Nat) : Int)), (99, .slice R40 ((putR x13.t ts).2.length) capR40), (100, .pointer (some ⟨r, 0, none⟩)), (101, .pointer (some ⟨r, 0, none⟩)), (102, .pointer (some ⟨r, 0, none⟩)), (103, .slice A41 ((putR x13.t ts).2.length) cap42), (104, .bool true), (105, .bool false), (108, .pointer (some ⟨g, 0, none⟩)), (109, .int .i64 (((putR x13.t ts).2.length : Nat) : Int)), (110, .pointer (some ⟨r, 0, none⟩)), (111, .pointer (some ⟨r, 0, none⟩)), (112, .pointer (some ⟨r, 0, none⟩)), (113, .slice A41 ((putR x13.t ts).2.length) cap42), (114, .int .i64 (((putR x13.t ts).2.length : Nat) : Int)), (115, .bool (!(decide ((((putR x13.t ts).2.length : Nat) : Int) = (((putR x13.t ts).2.length : Nat) : Int)))))] (by rw [hw58]) ?_
          refine OI_static 3 [(0, .slice (some ⟨b12, o12, none⟩) xs.length cap), (3, .pointer (some ⟨g, 0, none⟩)), (4, .pointer (some ⟨r, 0, none⟩)), (5, .int .i64 ((i + 1 : Nat) : Int)), (21, .int .i64 ((i : Nat) : Int)), (22, .bool (decide (((i : Nat) : Int) < 100))), (99, .slice R40 ((putR x13.t ts).2.length) capR40), (100, .pointer (some ⟨r, 0, none⟩)), (101, .pointer (some ⟨r, 0, none⟩)), (102, .pointer (some ⟨r, 0, none⟩)), (103, .slice A41 ((putR x13.t ts).2.length) cap42), (104, .bool true), (105, .bool false), (108, .pointer (some ⟨g, 0, none⟩)), (109, .int .i64 (((putR x13.t ts).2.length : Nat) : Int)), (110, .pointer (some ⟨r, 0, none⟩)), (111, .pointer (some ⟨r, 0, none⟩)), (112, .pointer (some ⟨r, 0, none⟩)), (113, .slice A41 ((putR x13.t ts).2.length) cap42), (114, .int .i64 (((putR x13.t ts).2.length : Nat) : Int)), (115, .bool (!(decide ((((putR x13.t ts).2.length : Nat) : Int) = (((putR x13.t ts).2.length : Nat) : Int)))))] (by kernel_rfl) ?_
          refine OI_end rfl ?_
          exact V_again (k8 - 1) (by omega) [(0, .slice (some ⟨b12, o12, none⟩) xs.length cap), (3, .pointer (some ⟨g, 0, none⟩)), (4, .pointer (some ⟨r, 0, none⟩)), (5, .int .i64 ((i + 1 : Nat) : Int))] rfl ⟨i + 1, (putR x13.t ts).2, F29, by omega, hag33, hrf30, hgF34, hok, hFn35, hKw, rfl⟩
        · skip
          refine V_seq ?_
          refine V_region ?_
          refine OI_static 2 [(0, .slice (some ⟨b12, o12, none⟩) xs.length cap), (3, .pointer (some ⟨g, 0, none⟩)), (4, .pointer (some ⟨r, 0, none⟩)), (5, .int .i64 ((i : Nat) : Int)), (21, .int .i64 ((i : Nat) : Int)), (22, .bool (decide (((i : Nat) : Int) < 100))), (74, .bool (decide (x13.k = 2)))] (by kernel_rfl) ?_
          refine OI_end rfl ?_
          refine X_then ?_
          refine V_if (x13.k = 2) (by kernel_rfl) (fun hc59 => ?_) (fun hc59 => ?_)
          · skip
            refine V_seq ?_
            refine V_draws (acts [6, 13]) (fun q => w.heap.size ≤ q) [[0, 1, 2, 3, 4, 5, 6, 7, 8, 9, 10, 11, 12, 13, 14]] (by kernel_rfl) (by repeat first | exact sure_body (by rintro _ _ ⟨h, _⟩; exact ⟨_, h⟩) | refine sure_then ?_ | refine sure_block ?_ | refine sure_join ?_) (by kernel_rfl) ?_
            intro w61 hk60 he62 L hL63
            have hsz64 := Keep.size hk60
            replace hat12 := hat12.keep hk60 (fun f => f)
            have hb12lt := hat12.blk.lt
            replace hKw := Keep.tr hKw (Keep.ofNone hk60); have hzhKw := Keep.size hKw
            replace hag := Ag.keep0 hag hk60; replace hrf := Rf.keep hrf hk60 (fun _ _ f => f)
            have qhat12 := hat12
            have K65 : Keep (fun q => w.heap.size ≤ q) w61 w61 := Keep.refl _ _
            obtain rfl := List.mem_singleton.1 hL63
            refine GI_static [3, 4, 5, 6, 7, 8, 9, 10, 11, 12, 13, 14] [(0, .slice (some ⟨b12, o12, none⟩) xs.length cap), (3, .pointer (some ⟨g, 0, none⟩)), (4, .pointer (some ⟨r, 0, none⟩)), (5, .int .i64 ((i : Nat) : Int)), (21, .int .i64 ((i : Nat) : Int)), (22, .bool (decide (((i : Nat) : Int) < 100))), (76, .pointer (some ⟨g, 0, none⟩)), (77, .slice (some ⟨b12, o12, none⟩) xs.length cap), (78, .int .i64 ((i : Nat) : Int))] (by kernel_rfl) ?_
            refine GI_pure (some 79) (.indexAddr 43 (.tmp 77) (.tmp 78)) (by kernel_rfl) (by kernel_rfl) (pure_idxN (b := b12) (o := o12) (len := xs.length) (cap := cap) (kd := .i64) (j := i) (E := 48) (sz := 39) (by_ := 88) (by kernel_rfl) (by kernel_rfl) (by kernel_rfl) (by omega)) ?_
            refine GI_static [5, 6, 7, 8, 9, 10, 11, 12, 13, 14] [(0, .slice (some ⟨b12, o12, none⟩) xs.length cap), (3, .pointer (some ⟨g, 0, none⟩)), (4, .pointer (some ⟨r, 0, none⟩)), (5, .int .i64 ((i : Nat) : Int)), (21, .int .i64 ((i : Nat) : Int)), (22, .bool (decide (((i : Nat) : Int) < 100))), (76, .pointer (some ⟨g, 0, none⟩)), (80, .pointer (some ⟨b12, o12 + i * 39 + 37, none⟩))] (by kernel_rfl) ?_
            refine GI_cellR 3 (.tmp 80) (o12 + i * 39 + 37) (.int .i64 x13.n) (some 81) (by kernel_rfl) (by kernel_rfl) (by kernel_rfl) qhat12.blk (by show ¬ (w.heap.size ≤ b12); omega) (m := 1) (by kernel_rfl) (AtR.cell qhat12 (es_at hx14) (AcT.c37 _)) ?_
            refine GI_call { callee := (Callee.value (Operand.func 18)), args := #[(Operand.tmp 76), (Operand.tmp 81)], argTypes := #[23, 3] } 18 #[.pointer (some ⟨g, 0, none⟩), .int .i64 x13.n] (some 82) (by kernel_rfl) (by kernel_rfl) (by kernel_rfl) (by kernel_rfl) (cancel_spec (fun q => ¬ F q) g ts x13.n _ hag (fun q hq hs => by have h9 := Rf.lt hrf q hs; omega)) ?_
            rintro _ w66 ⟨rfl, hag68, hk67⟩
            have K69 := Keep.fresh K65 hk67 (by intro i hi hs; have hs2 : i = g := hs; show w.heap.size ≤ i; omega)
            refine ⟨_, rfl, K69, ?_⟩
            have hzK69 := Keep.size K69
            have hsz70 := Keep.size hk67
            replace hat12 := hat12.keep hk67 (by show ¬ (_ = _); omega)
            have hb12lt := hat12.blk.lt
            replace hKw := Keep.fresh hKw hk67 (by intro i hi hs; first | exact hs | exact Or.inl hs | exact Or.inr hs | (exfalso; have hs2 : i = g := hs; omega)); have hzhKw := Keep.size hKw
            replace hrf := Rf.keep hrf hk67 (fun q hq hs => by have hs : q = g := hs; subst hs; exact hgF hq)
            refine GI_static [10, 11, 12, 13, 14] [(0, .slice (some ⟨b12, o12, none⟩) xs.length cap), (3, .pointer (some ⟨g, 0, none⟩)), (4, .pointer (some ⟨r, 0, none⟩)), (5, .int .i64 ((i : Nat) : Int)), (21, .int .i64 ((i : Nat) : Int)), (22, .bool (decide (((i : Nat) : Int) < 100))), (82, .bool (ts.any (named x13.n))), (83, .pointer (some ⟨r, 0, none⟩)), (84, .slice (some ⟨b12, o12, none⟩) xs.length cap), (85, .int .i64 ((i : Nat) : Int))] (by kernel_rfl) ?_
            refine GI_pure (some 86) (.indexAddr 43 (.tmp 84) (.tmp 85)) (by kernel_rfl) (by kernel_rfl) (pure_idxN (b := b12) (o := o12) (len := xs.length) (cap := cap) (kd := .i64) (j := i) (E := 48) (sz := 39) (by_ := 88) (by kernel_rfl) (by kernel_rfl) (by kernel_rfl) (by omega)) ?_
            refine GI_static [12, 13, 14] [(0, .slice (some ⟨b12, o12, none⟩) xs.length cap), (3, .pointer (some ⟨g, 0, none⟩)), (4, .pointer (some ⟨r, 0, none⟩)), (5, .int .i64 ((i : Nat) : Int)), (21, .int .i64 ((i : Nat) : Int)), (22, .bool (decide (((i : Nat) : Int) < 100))), (82, .bool (ts.any (named x13.n))), (83, .pointer (some ⟨r, 0, none⟩)), (87, .pointer (some ⟨b12, o12 + i * 39 + 37, none⟩))] (by kernel_rfl) ?_
            refine GI_cellR 3 (.tmp 87) (o12 + i * 39 + 37) (.int .i64 x13.n) (some 88) (by kernel_rfl) (by kernel_rfl) (by kernel_rfl) qhat12.blk (by show ¬ (w.heap.size ≤ b12); omega) (m := 1) (by kernel_rfl) (AtR.cell qhat12 (es_at hx14) (AcT.c37 _)) ?_
            have hl76 := Rf.lt hrf
            refine GI_call0 { callee := (Callee.value (Operand.func 20)), args := #[(Operand.tmp 83), (Operand.tmp 88)], argTypes := #[44, 3] } 20 #[.pointer (some ⟨r, 0, none⟩), .int .i64 x13.n] (some 89) (by kernel_rfl) (by kernel_rfl) (by kernel_rfl) (by kernel_rfl) (by kernel_rfl) (rcancel_spec F r ts x13.n _ hrf) ?_
            rintro _ w71 ⟨rfl, ⟨F73, hrf74, hfF75⟩, hk72⟩
            refine ⟨_, rfl, ?_⟩
            have hsz80 := Keep.size hk72
            replace hat12 := hat12.keep hk72 (fun hs => by have h9 := hFn _ hs; omega)
            have hb12lt := hat12.blk.lt
            replace hKw := Keep.fresh hKw hk72 (by intro i hi hs; exfalso; have h9 := hFn i hs; omega); have hzhKw := Keep.size hKw
            skip
            obtain ⟨hag77, hgF78⟩ := Ag.off hag68 hgF hk72 hfF75
            have hFn79 : ∀ q, F73 q → w.heap.size ≤ q := fun q hq => by rcases hfF75 q hq with h9 | h9; exact hFn q h9; omega
            replace hok : ∀ x ∈ (del x13.n ts), okT x := okT_del _ hok
            refine GI_static [] [(0, .slice (some ⟨b12, o12, none⟩) xs.length cap), (3, .pointer (some ⟨g, 0, none⟩)), (4, .pointer (some ⟨r, 0, none⟩)), (5, .int .i64 ((i : Nat) : Int)), (21, .int .i64 ((i : Nat) : Int)), (22, .bool (decide (((i : Nat) : Int) < 100))), (90, .bool (!((ts.any (named x13.n)) == (ts.any (named x13.n)))))] (by kernel_rfl) ?_
            refine GI_end ?_
            refine X_then ?_
            refine V_eq [(0, .slice (some ⟨b12, o12, none⟩) xs.length cap), (3, .pointer (some ⟨g, 0, none⟩)), (4, .pointer (some ⟨r, 0, none⟩)), (5, .int .i64 ((i : Nat) : Int)), (21, .int .i64 ((i : Nat) : Int)), (22, .bool (decide (((i : Nat) : Int) < 100))), (90, .bool false)] (by simp) ?_
            refine V_false rfl ?_
            refine V_skip ?_
            refine X_block ?_
            refine X_then ?_
            refine V_seq ?_
            refine V_region ?_
            refine OI_static 1 [(0, .slice (some ⟨b12, o12, none⟩) xs.length cap), (3, .pointer (some ⟨g, 0, none⟩)), (4, .pointer (some ⟨r, 0, none⟩)), (5, .int .i64 ((i : Nat) : Int)), (21, .int .i64 ((i : Nat) : Int)), (22, .bool (decide (((i : Nat) : Int) < 100))), (92, .pointer (some ⟨g, 0, none⟩))] (by kernel_rfl) ?_
            obtain ⟨hlr, _, _, A85, cap86, hra, _⟩ := id hrf74
            have hrb := hra.blk
            have hrs := hra.sl
            refine OI_call { callee := (Callee.value (Operand.func 16)), args := #[(Operand.tmp 92)], argTypes := #[23] } 16 #[.pointer (some ⟨g, 0, none⟩)] (some 93) (by kernel_rfl) (by kernel_rfl) (by kernel_rfl) (all_spec (fun q => ¬ F73 q) g (del x13.n ts) _ hag77) ?_
            rintro _ w82 ⟨R84, capR84, rfl, hR84, hk83, ownR84⟩
            refine ⟨_, rfl, ?_⟩
            have hsz87 := Keep.size hk83
            replace hrb := hrb.keep hk83 (fun f => f)
            have hrlt := hrb.lt
            replace hat12 := hat12.keep hk83 (fun f => f)
            have hb12lt := hat12.blk.lt
            replace hrs := SlT.keep0 hrs hk83
            replace hKw := Keep.tr hKw (Keep.ofNone hk83); have hzhKw := Keep.size hKw
            replace hag77 := Ag.keep0 hag77 hk83; replace hrf74 := Rf.keep hrf74 hk83 (fun _ _ f => f)
            refine OI_static 7 [(0, .slice (some ⟨b12, o12, none⟩) xs.length cap), (3, .pointer (some ⟨g, 0, none⟩)), (4, .pointer (some ⟨r, 0, none⟩)), (5, .int .i64 ((i : Nat) : Int)), (6, .slice R84 ((del x13.n ts).length) capR84), (7, .bool true), (21, .int .i64 ((i : Nat) : Int)), (22, .bool (decide (((i : Nat) : Int) < 100)))] (by kernel_rfl) ?_
            refine OI_end rfl ?_
            refine X_then ?_
            refine V_seq ?_
            refine V_draws (acts [8, 13]) none_ [[0, 1, 2, 3, 4, 5, 6, 7, 8, 9, 10, 11, 12, 13, 14, 15, 16, 17, 18, 19, 20]] (by kernel_rfl) (by repeat first | exact sure_body (by rintro _ _ ⟨h, _⟩; exact ⟨_, h⟩) | refine sure_then ?_ | refine sure_block ?_ | refine sure_join ?_) (by kernel_rfl) ?_
            intro w89 hk88 he90 L hL91
            have hsz92 := Keep.size hk88
            replace hrb := hrb.keep hk88 (fun f => f)
            have hrlt := hrb.lt
            replace hat12 := hat12.keep hk88 (fun f => f)
            have hb12lt := hat12.blk.lt
            replace hrs := SlT.keep0 hrs hk88
            replace hR84 := SlT.keep0 hR84 hk88
            replace hKw := Keep.tr hKw (Keep.ofNone hk88); have hzhKw := Keep.size hKw
            replace hag77 := Ag.keep0 hag77 hk88; replace hrf74 := Rf.keep hrf74 hk88 (fun _ _ f => f)
            have qhrb := hrb
            have qhat12 := hat12
            have K93 : Keep none_ w89 w89 := Keep.refl _ _
            obtain rfl := List.mem_singleton.1 hL91
            refine GI_static [7, 8, 9, 10, 11, 12, 13, 14, 15, 16, 17, 18, 19, 20] [(0, .slice (some ⟨b12, o12, none⟩) xs.length cap), (3, .pointer (some ⟨g, 0, none⟩)), (4, .pointer (some ⟨r, 0, none⟩)), (5, .int .i64 ((i : Nat) : Int)), (21, .int .i64 ((i : Nat) : Int)), (22, .bool (decide (((i : Nat) : Int) < 100))), (98, .bool false), (99, .slice R84 ((del x13.n ts).length) capR84), (100, .pointer (some ⟨r, 0, none⟩)), (101, .pointer (some ⟨r, 0, none⟩)), (102, .pointer (some ⟨r, 0, none⟩))] (by kernel_rfl) ?_
            refine GI_cell 31 (.tmp 102) 0 (.slice A85 ((del x13.n ts).length) cap86) (some 103) (by kernel_rfl) (by kernel_rfl) (by kernel_rfl) qhrb (fun f => f) (m := 1) (by kernel_rfl) rfl ?_
            refine GI_call { callee := (Callee.value (Operand.func 17)), args := #[(Operand.tmp 99), (Operand.tmp 103)], argTypes := #[31, 31] } 17 #[.slice R84 ((del x13.n ts).length) capR84, .slice A85 ((del x13.n ts).length) cap86] (some 104) (by kernel_rfl) (by kernel_rfl) (by kernel_rfl) (by kernel_rfl) (same_spec R84 A85 capR84 cap86 (del x13.n ts) _ hR84 hrs hok (by first | omega | (rw [List.length_take]; omega))) ?_
            rintro _ w94 ⟨rfl, hk95⟩
            have K96 := K93.tr (Keep.ofNone hk95)
            refine ⟨_, rfl, K96, ?_⟩
            have hzK96 := Keep.size K96
            have hsz97 := Keep.size hk95
            replace hrb := hrb.keep hk95 (fun f => f)
            have hrlt := hrb.lt
            replace hat12 := hat12.keep hk95 (fun f => f)
            have hb12lt := hat12.blk.lt
            replace hrs := SlT.keep0 hrs hk95
            replace hR84 := SlT.keep0 hR84 hk95
            replace hKw := Keep.tr hKw (Keep.ofNone hk95); have hzhKw := Keep.size hKw
            replace hag77 := Ag.keep0 hag77 hk95; replace hrf74 := Rf.keep hrf74 hk95 (fun _ _ f => f)
            refine GI_static [13, 14, 15, 16, 17, 18, 19, 20] [(0, .slice (some ⟨b12, o12, none⟩) xs.length cap), (3, .pointer (some ⟨g, 0, none⟩)), (4, .pointer (some ⟨r, 0, none⟩)), (5, .int .i64 ((i : Nat) : Int)), (21, .int .i64 ((i : Nat) : Int)), (22, .bool (decide (((i : Nat) : Int) < 100))), (99, .slice R84 ((del x13.n ts).length) capR84), (100, .pointer (some ⟨r, 0, none⟩)), (101, .pointer (some ⟨r, 0, none⟩)), (102, .pointer (some ⟨r, 0, none⟩)), (103, .slice A85 ((del x13.n ts).length) cap86), (104, .bool true), (105, .bool false), (107, .bool false), (108, .pointer (some ⟨g, 0, none⟩))] (by kernel_rfl) ?_
            refine GI_call { callee := (Callee.value (Operand.func 14)), args := #[(Operand.tmp 108)], argTypes := #[23] } 14 #[.pointer (some ⟨g, 0, none⟩)] (some 109) (by kernel_rfl) (by kernel_rfl) (by kernel_rfl) (by kernel_rfl) (len_spec (fun q => ¬ F73 q) g (del x13.n ts) _ hag77) ?_
            rintro _ w94 ⟨rfl, rfl⟩
            refine ⟨_, rfl, K96, ?_⟩
            refine GI_static [17, 18, 19, 20] [(0, .slice (some ⟨b12, o12, none⟩) xs.length cap), (3, .pointer (some ⟨g, 0, none⟩)), (4, .pointer (some ⟨r, 0, none⟩)), (5, .int .i64 ((i : Nat) : Int)), (21, .int .i64 ((i : Nat) : Int)), (22, .bool (decide (((i : Nat) : Int) < 100))), (99, .slice R84 ((del x13.n ts).length) capR84), (100, .pointer (some ⟨r, 0, none⟩)), (101, .pointer (some ⟨r, 0, none⟩)), (102, .pointer (some ⟨r, 0, none⟩)), (103, .slice A85 ((del x13.n ts).length) cap86), (104, .bool true), (105, .bool false), (107, .bool false), (108, .pointer (some ⟨g, 0, none⟩)), (109, .int .i64 (((del x13.n ts).length : Nat) : Int)), (110, .pointer (some ⟨r, 0, none⟩)), (111, .pointer (some ⟨r, 0, none⟩)), (112, .pointer (some ⟨r, 0, none⟩))] (by kernel_rfl) ?_
            refine GI_cell 31 (.tmp 112) 0 (.slice A85 ((del x13.n ts).length) cap86) (some 113) (by kernel_rfl) (by kernel_rfl) (by kernel_rfl) qhrb (fun f => f) (m := 1) (by kernel_rfl) rfl ?_
            refine GI_static [] [(0, .slice (some ⟨b12, o12, none⟩) xs.length cap), (3, .pointer (some ⟨g, 0, none⟩)), (4, .pointer (some ⟨r, 0, none⟩)), (5, .int .i64 ((i : Nat) : Int)), (21, .int .i64 ((i : Nat) : Int)), (22, .bool (decide (((i : Nat) : Int) < 100))), (99, .slice R84 ((del x13.n ts).length) capR84), (100, .pointer (some ⟨r, 0, none⟩)), (101, .pointer (some ⟨r, 0, none⟩)), (102, .pointer (some ⟨r, 0, none⟩)), (103, .slice A85 ((del x13.n ts).length) cap86), (104, .bool true), (105, .bool false), (108, .pointer (some ⟨g, 0, none⟩)), (109, .int .i64 (((del x13.n ts).length : Nat) : Int)), (110, .pointer (some ⟨r, 0, none⟩)), (111, .pointer (some ⟨r, 0, none⟩)), (112, .pointer (some ⟨r, 0, none⟩)), (113, .slice A85 ((del x13.n ts).length) cap86), (114, .int .i64 (((del x13.n ts).length : Nat) : Int)), (115, .bool (!(decide ((((del x13.n ts).length : Nat) : Int) = (((del x13.n ts).length : Nat) : Int))))), (116, .bool (!(decide ((((del x13.n ts).length : Nat) : Int) = (((del x13.n ts).length : Nat) : Int)))))] (by kernel_rfl) ?_
            refine GI_end ?_
            refine X_then ?_
            refine V_eq [(0, .slice (some ⟨b12, o12, none⟩) xs.length cap), (3, .pointer (some ⟨g, 0, none⟩)), (4, .pointer (some ⟨r, 0, none⟩)), (5, .int .i64 ((i : Nat) : Int)), (21, .int .i64 ((i : Nat) : Int)), (22, .bool (decide (((i : Nat) : Int) < 100))), (99, .slice R84 ((del x13.n ts).length) capR84), (100, .pointer (some ⟨r, 0, none⟩)), (101, .pointer (some ⟨r, 0, none⟩)), (102, .pointer (some ⟨r, 0, none⟩)), (103, .slice A85 ((del x13.n ts).length) cap86), (104, .bool true), (105, .bool false), (108, .pointer (some ⟨g, 0, none⟩)), (109, .int .i64 (((del x13.n ts).length : Nat) : Int)), (110, .pointer (some ⟨r, 0, none⟩)), (111, .pointer (some ⟨r, 0, none⟩)), (112, .pointer (some ⟨r, 0, none⟩)), (113, .slice A85 ((del x13.n ts).length) cap86), (114, .int .i64 (((del x13.n ts).length : Nat) : Int)), (115, .bool (!(decide ((((del x13.n ts).length : Nat) : Int) = (((del x13.n ts).length : Nat) : Int))))), (116, .bool false)] (by rw [decide_eq_true (rfl : (((del x13.n ts).length : Nat) : Int) = (((del x13.n ts).length : Nat) : Int))]; rfl) ?_
            refine V_false rfl ?_
            refine V_skip ?_
            refine X_block ?_
            refine X_then ?_
            refine V_region ?_
            have hw102 : IntKind.i64.wrap (((i : Nat) : Int) + 1) = ((i + 1 : Nat) : Int) := (wrap64_id (by omega) (by omega)).trans (by omega)
            refine OI_static 2 [(0, .slice (some ⟨b12, o12, none⟩) xs.length cap), (3, .pointer (some ⟨g, 0, none⟩)), (4, .pointer (some ⟨r, 0, none⟩)), (21, .int .i64 ((i : Nat) : Int)), (22, .bool (decide (((i : Nat) : Int) < 100))), (25, .int .i64 (IntKind.i64.wrap (((i : Nat) : Int) + 1))), (99, .slice R84 ((del x13.n ts).length) capR84), (100, .pointer (some ⟨r, 0, none⟩)), (101, .pointer (some ⟨r, 0, none⟩)), (102, .pointer (some ⟨r, 0, none⟩)), (103, .slice A85 ((del x13.n ts).length) cap86), (104, .bool true), (105, .bool false), (108, .pointer (some ⟨g, 0, none⟩)), (109, .int .i64 (((del x13.n ts).length : Nat) : Int)), (110, .pointer (some ⟨r, 0, none⟩)), (111, .pointer (some ⟨r, 0, none⟩)), (112, .pointer (some ⟨r, 0, none⟩)), (113, .slice A85 ((del x13.n ts).length) cap86), (114, .int .i64 (((del x13.n ts).length : Nat) : Int)), (115, .bool (!(decide ((((del x13.n ts).length : Nat) : Int) = (((del x13.n ts).length : Nat) : Int)))))] (by kernel_rfl) ?_
            refine OI_eq [(0, .slice (some ⟨b12, o12, none⟩) xs.length cap), (3, .pointer (some ⟨g, 0, none⟩)), (4, .pointer (some ⟨r, 0, none⟩)), (21, .int .i64 ((i : Nat) : Int)), (22, .bool (decide (((i : Nat) : Int) < 100))), (25, .int .i64 ((i + 1 : Nat) : Int)), (99, .slice R84 ((del x13.n ts).length) capR84), (100, .pointer (some ⟨r, 0, none⟩)), (101, .pointer (some ⟨r, 0, none⟩)), (102, .pointer (some ⟨r, 0, none⟩)), (103, .slice A85 ((del x13.n ts).length) cap86), (104, .bool true), (105, .bool false), (108, .pointer (some ⟨g, 0, none⟩)), (109, .int .i64 (((del x13.n ts).length : Nat) : Int)), (110, .pointer (some ⟨r, 0, none⟩)), (111, .pointer (some ⟨r, 0, none⟩)), (112, .pointer (some ⟨r, 0, none⟩)), (113, .slice A85 ((del x13.n ts).length) cap86), (114, .int .i64 (((del x13.n ts).length : Nat) : Int)), (115, .bool (!(decide ((((del x13.n ts).length : Nat) : Int) = (((del x13.n ts).length : Nat) : Int)))))] (by rw [hw102]) ?_
            refine OI_static 3 [(0, .slice (some ⟨b12, o12, none⟩) xs.length cap), (3, .pointer (some ⟨g, 0, none⟩)), (4, .pointer (some ⟨r, 0, none⟩)), (5, .int .i64 ((i + 1 : Nat) : Int)), (21, .int .i64 ((i : Nat) : Int)), (22, .bool (decide (((i : Nat) : Int) < 100))), (99, .slice R84 ((del x13.n ts).length) capR84), (100, .pointer (some ⟨r, 0, none⟩)), (101, .pointer (some ⟨r, 0, none⟩)), (102, .pointer (some ⟨r, 0, none⟩)), (103, .slice A85 ((del x13.n ts).length) cap86), (104, .bool true), (105, .bool false), (108, .pointer (some ⟨g, 0, none⟩)), (109, .int .i64 (((del x13.n ts).length : Nat) : Int)), (110, .pointer (some ⟨r, 0, none⟩)), (111, .pointer (some ⟨r, 0, none⟩)), (112, .pointer (some ⟨r, 0, none⟩)), (113, .slice A85 ((del x13.n ts).length) cap86), (114, .int .i64 (((del x13.n ts).length : Nat) : Int)), (115, .bool (!(decide ((((del x13.n ts).length : Nat) : Int) = (((del x13.n ts).length : Nat) : Int)))))] (by kernel_rfl) ?_
            refine OI_end rfl ?_
            exact V_again (k8 - 1) (by omega) [(0, .slice (some ⟨b12, o12, none⟩) xs.length cap), (3, .pointer (some ⟨g, 0, none⟩)), (4, .pointer (some ⟨r, 0, none⟩)), (5, .int .i64 ((i + 1 : Nat) : Int))] rfl ⟨i + 1, (del x13.n ts), F73, by omega, hag77, hrf74, hgF78, hok, hFn79, hKw, rfl⟩
          · skip
            refine V_seq ?_
            refine V_draws (acts [11, 23, 24]) (fun q => w.heap.size ≤ q) [[0, 1, 2, 3, 4, 5, 6, 7, 8, 9, 10, 11, 12, 13, 14, 15, 16, 17, 18, 19, 20, 21, 22, 23, 24, 25]] (by kernel_rfl) (by repeat first | exact sure_body (by rintro _ _ ⟨h, _⟩; exact ⟨_, h⟩) | refine sure_then ?_ | refine sure_block ?_ | refine sure_join ?_) (by kernel_rfl) ?_
            intro w104 hk103 he105 L hL106
            have hsz107 := Keep.size hk103
            replace hat12 := hat12.keep hk103 (fun f => f)
            have hb12lt := hat12.blk.lt
            replace hKw := Keep.tr hKw (Keep.ofNone hk103); have hzhKw := Keep.size hKw
            replace hag := Ag.keep0 hag hk103; replace hrf := Rf.keep hrf hk103 (fun _ _ f => f)
            have qhat12 := hat12
            have K108 : Keep (fun q => w.heap.size ≤ q) w104 w104 := Keep.refl _ _
            obtain rfl := List.mem_singleton.1 hL106
            refine GI_static [3, 4, 5, 6, 7, 8, 9, 10, 11, 12, 13, 14, 15, 16, 17, 18, 19, 20, 21, 22, 23, 24, 25] [(0, .slice (some ⟨b12, o12, none⟩) xs.length cap), (3, .pointer (some ⟨g, 0, none⟩)), (4, .pointer (some ⟨r, 0, none⟩)), (5, .int .i64 ((i : Nat) : Int)), (21, .int .i64 ((i : Nat) : Int)), (22, .bool (decide (((i : Nat) : Int) < 100))), (31, .pointer (some ⟨g, 0, none⟩)), (32, .slice (some ⟨b12, o12, none⟩) xs.length cap), (33, .int .i64 ((i : Nat) : Int))] (by kernel_rfl) ?_
            refine GI_pure (some 34) (.indexAddr 43 (.tmp 32) (.tmp 33)) (by kernel_rfl) (by kernel_rfl) (pure_idxN (b := b12) (o := o12) (len := xs.length) (cap := cap) (kd := .i64) (j := i) (E := 48) (sz := 39) (by_ := 88) (by kernel_rfl) (by kernel_rfl) (by kernel_rfl) (by omega)) ?_
            refine GI_static [5, 6, 7, 8, 9, 10, 11, 12, 13, 14, 15, 16, 17, 18, 19, 20, 21, 22, 23, 24, 25] [(0, .slice (some ⟨b12, o12, none⟩) xs.length cap), (3, .pointer (some ⟨g, 0, none⟩)), (4, .pointer (some ⟨r, 0, none⟩)), (5, .int .i64 ((i : Nat) : Int)), (21, .int .i64 ((i : Nat) : Int)), (22, .bool (decide (((i : Nat) : Int) < 100))), (31, .pointer (some ⟨g, 0, none⟩)), (35, .pointer (some ⟨b12, o12 + i * 39 + 37, none⟩))] (by kernel_rfl) ?_
            refine GI_cellR 3 (.tmp 35) (o12 + i * 39 + 37) (.int .i64 x13.n) (some 36) (by kernel_rfl) (by kernel_rfl) (by kernel_rfl) qhat12.blk (by show ¬ (w.heap.size ≤ b12); omega) (m := 1) (by kernel_rfl) (AtR.cell qhat12 (es_at hx14) (AcT.c37 _)) ?_
            refine GI_static [8, 9, 10, 11, 12, 13, 14, 15, 16, 17, 18, 19, 20, 21, 22, 23, 24, 25] [(0, .slice (some ⟨b12, o12, none⟩) xs.length cap), (3, .pointer (some ⟨g, 0, none⟩)), (4, .pointer (some ⟨r, 0, none⟩)), (5, .int .i64 ((i : Nat) : Int)), (21, .int .i64 ((i : Nat) : Int)), (22, .bool (decide (((i : Nat) : Int) < 100))), (31, .pointer (some ⟨g, 0, none⟩)), (36, .int .i64 x13.n), (37, .slice (some ⟨b12, o12, none⟩) xs.length cap), (38, .int .i64 ((i : Nat) : Int))] (by kernel_rfl) ?_
            refine GI_pure (some 39) (.indexAddr 43 (.tmp 37) (.tmp 38)) (by kernel_rfl) (by kernel_rfl) (pure_idxN (b := b12) (o := o12) (len := xs.length) (cap := cap) (kd := .i64) (j := i) (E := 48) (sz := 39) (by_ := 88) (by kernel_rfl) (by kernel_rfl) (by kernel_rfl) (by omega)) ?_
            refine GI_static [10, 11, 12, 13, 14, 15, 16, 17, 18, 19, 20, 21, 22, 23, 24, 25] [(0, .slice (some ⟨b12, o12, none⟩) xs.length cap), (3, .pointer (some ⟨g, 0, none⟩)), (4, .pointer (some ⟨r, 0, none⟩)), (5, .int .i64 ((i : Nat) : Int)), (21, .int .i64 ((i : Nat) : Int)), (22, .bool (decide (((i : Nat) : Int) < 100))), (31, .pointer (some ⟨g, 0, none⟩)), (36, .int .i64 x13.n), (40, .pointer (some ⟨b12, o12 + i * 39 + 38, none⟩))] (by kernel_rfl) ?_
            refine GI_cellR 3 (.tmp 40) (o12 + i * 39 + 38) (.int .i64 x13.m) (some 41) (by kernel_rfl) (by kernel_rfl) (by kernel_rfl) qhat12.blk (by show ¬ (w.heap.size ≤ b12); omega) (m := 1) (by kernel_rfl) (AtR.cell qhat12 (es_at hx14) (AcT.c38 _)) ?_
            have hlf113 := Rf.lt hrf
            refine GI_call { callee := (Callee.value (Operand.func 13)), args := #[(Operand.tmp 31), (Operand.tmp 36), (Operand.tmp 41)], argTypes := #[23, 3, 3] } 13 #[.pointer (some ⟨g, 0, none⟩), .int .i64 x13.n, .int .i64 x13.m] (some 42) (by kernel_rfl) (by kernel_rfl) (by kernel_rfl) (by kernel_rfl) (due_spec (fun q => ¬ F q) g ts x13.n x13.m _ hag) ?_
            rintro _ w109 ⟨R112, capR112, rfl, hR112, hag111, hk110, ownR112⟩
            have K114 := Keep.fresh K108 hk110 (by intro i hi hs; have hs2 : i = g := hs; show w.heap.size ≤ i; omega)
            refine ⟨_, rfl, K114, ?_⟩
            have hzK114 := Keep.size K114
            have hsz115 := Keep.size hk110
            replace hat12 := hat12.keep hk110 (by show ¬ (_ = _); omega)
            have hb12lt := hat12.blk.lt
            replace hKw := Keep.fresh hKw hk110 (by intro i hi hs; first | exact hs | exact Or.inl hs | exact Or.inr hs | (exfalso; have hs2 : i = g := hs; omega)); have hzhKw := Keep.size hKw
            replace hrf := Rf.keep hrf hk110 (fun q hq hs => by have hs : q = g := hs; subst hs; exact hgF hq)
            refine GI_static [15, 16, 17, 18, 19, 20, 21, 22, 23, 24, 25] [(0, .slice (some ⟨b12, o12, none⟩) xs.length cap), (3, .pointer (some ⟨g, 0, none⟩)), (4, .pointer (some ⟨r, 0, none⟩)), (5, .int .i64 ((i : Nat) : Int)), (21, .int .i64 ((i : Nat) : Int)), (22, .bool (decide (((i : Nat) : Int) < 100))), (42, .slice R112 ((ts.take (dueN x13.n x13.m ts)).length) capR112), (43, .pointer (some ⟨r, 0, none⟩)), (44, .slice (some ⟨b12, o12, none⟩) xs.length cap), (45, .int .i64 ((i : Nat) : Int))] (by kernel_rfl) ?_
            refine GI_pure (some 46) (.indexAddr 43 (.tmp 44) (.tmp 45)) (by kernel_rfl) (by kernel_rfl) (pure_idxN (b := b12) (o := o12) (len := xs.length) (cap := cap) (kd := .i64) (j := i) (E := 48) (sz := 39) (by_ := 88) (by kernel_rfl) (by kernel_rfl) (by kernel_rfl) (by omega)) ?_
            refine GI_static [17, 18, 19, 20, 21, 22, 23, 24, 25] [(0, .slice (some ⟨b12, o12, none⟩) xs.length cap), (3, .pointer (some ⟨g, 0, none⟩)), (4, .pointer (some ⟨r, 0, none⟩)), (5, .int .i64 ((i : Nat) : Int)), (21, .int .i64 ((i : Nat) : Int)), (22, .bool (decide (((i : Nat) : Int) < 100))), (42, .slice R112 ((ts.take (dueN x13.n x13.m ts)).length) capR112), (43, .pointer (some ⟨r, 0, none⟩)), (47, .pointer (some ⟨b12, o12 + i * 39 + 37, none⟩))] (by kernel_rfl) ?_
            refine GI_cellR 3 (.tmp 47) (o12 + i * 39 + 37) (.int .i64 x13.n) (some 48) (by kernel_rfl) (by kernel_rfl) (by kernel_rfl) qhat12.blk (by show ¬ (w.heap.size ≤ b12); omega) (m := 1) (by kernel_rfl) (AtR.cell qhat12 (es_at hx14) (AcT.c37 _)) ?_
            refine GI_static [20, 21, 22, 23, 24, 25] [(0, .slice (some ⟨b12, o12, none⟩) xs.length cap), (3, .pointer (some ⟨g, 0, none⟩)), (4, .pointer (some ⟨r, 0, none⟩)), (5, .int .i64 ((i : Nat) : Int)), (21, .int .i64 ((i : Nat) : Int)), (22, .bool (decide (((i : Nat) : Int) < 100))), (42, .slice R112 ((ts.take (dueN x13.n x13.m ts)).length) capR112), (43, .pointer (some ⟨r, 0, none⟩)), (48, .int .i64 x13.n), (49, .slice (some ⟨b12, o12, none⟩) xs.length cap), (50, .int .i64 ((i : Nat) : Int))] (by kernel_rfl) ?_
            refine GI_pure (some 51) (.indexAddr 43 (.tmp 49) (.tmp 50)) (by kernel_rfl) (by kernel_rfl) (pure_idxN (b := b12) (o := o12) (len := xs.length) (cap := cap) (kd := .i64) (j := i) (E := 48) (sz := 39) (by_ := 88) (by kernel_rfl) (by kernel_rfl) (by kernel_rfl) (by omega)) ?_
            refine GI_static [22, 23, 24, 25] [(0, .slice (some ⟨b12, o12, none⟩) xs.length cap), (3, .pointer (some ⟨g, 0, none⟩)), (4, .pointer (some ⟨r, 0, none⟩)), (5, .int .i64 ((i : Nat) : Int)), (21, .int .i64 ((i : Nat) : Int)), (22, .bool (decide (((i : Nat) : Int) < 100))), (42, .slice R112 ((ts.take (dueN x13.n x13.m ts)).length) capR112), (43, .pointer (some ⟨r, 0, none⟩)), (48, .int .i64 x13.n), (52, .pointer (some ⟨b12, o12 + i * 39 + 38, none⟩))] (by kernel_rfl) ?_
            refine GI_cellR 3 (.tmp 52) (o12 + i * 39 + 38) (.int .i64 x13.m) (some 53) (by kernel_rfl) (by kernel_rfl) (by kernel_rfl) qhat12.blk (by show ¬ (w.heap.size ≤ b12); omega) (m := 1) (by kernel_rfl) (AtR.cell qhat12 (es_at hx14) (AcT.c38 _)) ?_
            have hl121 := Rf.lt hrf
            have hoks := hok
            refine GI_call0 { callee := (Callee.value (Operand.func 21)), args := #[(Operand.tmp 43), (Operand.tmp 48), (Operand.tmp 53)], argTypes := #[44, 3, 3] } 21 #[.pointer (some ⟨r, 0, none⟩), .int .i64 x13.n, .int .i64 x13.m] (some 54) (by kernel_rfl) (by kernel_rfl) (by kernel_rfl) (by kernel_rfl) (by kernel_rfl) (rdue_spec F r ts x13.n x13.m _ hrf) ?_
            rintro _ w116 ⟨R122, capR122, rfl, hR122, ⟨F118, hrf119, hfF120⟩, hk117, ownR122⟩
            refine ⟨_, rfl, ?_⟩
            have hsz126 := Keep.size hk117
            replace hat12 := hat12.keep hk117 (fun hs => by have h9 := hFn _ hs; omega)
            have hb12lt := hat12.blk.lt
            replace hR112 := SlT.keep hR112 hk117 (fun q hq hs => by have h9 := hlf113 q hs; have h8 := ownR112 q hq; omega)
            replace hKw := Keep.fresh hKw hk117 (by intro i hi hs; exfalso; have h9 := hFn i hs; omega); have hzhKw := Keep.size hKw
            skip
            obtain ⟨hag123, hgF124⟩ := Ag.off hag111 hgF hk117 hfF120
            have hFn125 : ∀ q, F118 q → w.heap.size ≤ q := fun q hq => by rcases hfF120 q hq with h9 | h9; exact hFn q h9; omega
            replace hok : ∀ x ∈ (ts.drop (dueN x13.n x13.m ts)), okT x := (fun x hx => hok x (List.mem_of_mem_drop hx))
            have hok0 : ∀ x ∈ ts, okT x := hoks
            refine GI_call0 { callee := (Callee.value (Operand.func 17)), args := #[(Operand.tmp 42), (Operand.tmp 54)], argTypes := #[31, 31] } 17 #[.slice R112 ((ts.take (dueN x13.n x13.m ts)).length) capR112, .slice R122 ((ts.take (dueN x13.n x13.m ts)).length) capR122] (some 55) (by kernel_rfl) (by kernel_rfl) (by kernel_rfl) (by kernel_rfl) (by kernel_rfl) (same_spec R112 R122 capR112 capR122 (ts.take (dueN x13.n x13.m ts)) _ hR112 hR122 (fun x hx => hok0 x (List.mem_of_mem_take hx)) (by first | omega | (rw [List.length_take]; omega))) ?_
            rintro _ w127 ⟨rfl, hk128⟩
            refine ⟨_, rfl, ?_⟩
            have hsz129 := Keep.size hk128
            replace hat12 := hat12.keep hk128 (fun f => f)
            have hb12lt := hat12.blk.lt
            replace hR112 := SlT.keep0 hR112 hk128
            replace hR122 := SlT.keep0 hR122 hk128
            replace hKw := Keep.tr hKw (Keep.ofNone hk128); have hzhKw := Keep.size hKw
            replace hag123 := Ag.keep0 hag123 hk128; replace hrf119 := Rf.keep hrf119 hk128 (fun _ _ f => f)
            refine GI_static [] [(0, .slice (some ⟨b12, o12, none⟩) xs.length cap), (3, .pointer (some ⟨g, 0, none⟩)), (4, .pointer (some ⟨r, 0, none⟩)), (5, .int .i64 ((i : Nat) : Int)), (21, .int .i64 ((i : Nat) : Int)), (22, .bool (decide (((i : Nat) : Int) < 100))), (56, .bool false)] (by kernel_rfl) ?_
            refine GI_end ?_
            refine X_then ?_
            refine V_false rfl ?_
            refine V_skip ?_
            refine X_block ?_
            refine X_then ?_
            refine V_seq ?_
            refine V_region ?_
            refine OI_static 1 [(0, .slice (some ⟨b12, o12, none⟩) xs.length cap), (3, .pointer (some ⟨g, 0, none⟩)), (4, .pointer (some ⟨r, 0, none⟩)), (5, .int .i64 ((i : Nat) : Int)), (21, .int .i64 ((i : Nat) : Int)), (22, .bool (decide (((i : Nat) : Int) < 100))), (92, .pointer (some ⟨g, 0, none⟩))] (by kernel_rfl) ?_
            obtain ⟨hlr, _, _, A133, cap134, hra, _⟩ := id hrf119
            have hrb := hra.blk
            have hrs := hra.sl
            refine OI_call { callee := (Callee.value (Operand.func 16)), args := #[(Operand.tmp 92)], argTypes := #[23] } 16 #[.pointer (some ⟨g, 0, none⟩)] (some 93) (by kernel_rfl) (by kernel_rfl) (by kernel_rfl) (all_spec (fun q => ¬ F118 q) g (ts.drop (dueN x13.n x13.m ts)) _ hag123) ?_
            rintro _ w130 ⟨R132, capR132, rfl, hR132, hk131, ownR132⟩
            refine ⟨_, rfl, ?_⟩
            have hsz135 := Keep.size hk131
            replace hrb := hrb.keep hk131 (fun f => f)
            have hrlt := hrb.lt
            replace hat12 := hat12.keep hk131 (fun f => f)
            have hb12lt := hat12.blk.lt
            replace hR112 := SlT.keep0 hR112 hk131
            replace hR122 := SlT.keep0 hR122 hk131
            replace hrs := SlT.keep0 hrs hk131
            replace hKw := Keep.tr hKw (Keep.ofNone hk131); have hzhKw := Keep.size hKw
            replace hag123 := Ag.keep0 hag123 hk131; replace hrf119 := Rf.keep hrf119 hk131 (fun _ _ f => f)
            refine OI_static 7 [(0, .slice (some ⟨b12, o12, none⟩) xs.length cap), (3, .pointer (some ⟨g, 0, none⟩)), (4, .pointer (some ⟨r, 0, none⟩)), (5, .int .i64 ((i : Nat) : Int)), (6, .slice R132 ((ts.drop (dueN x13.n x13.m ts)).length) capR132), (7, .bool true), (21, .int .i64 ((i : Nat) : Int)), (22, .bool (decide (((i : Nat) : Int) < 100)))] (by kernel_rfl) ?_
            refine OI_end rfl ?_
            refine X_then ?_
            refine V_seq ?_
            refine V_draws (acts [8, 13]) none_ [[0, 1, 2, 3, 4, 5, 6, 7, 8, 9, 10, 11, 12, 13, 14, 15, 16, 17, 18, 19, 20]] (by kernel_rfl) (by repeat first | exact sure_body (by rintro _ _ ⟨h, _⟩; exact ⟨_, h⟩) | refine sure_then ?_ | refine sure_block ?_ | refine sure_join ?_) (by kernel_rfl) ?_
            intro w137 hk136 he138 L hL139
            have hsz140 := Keep.size hk136
            replace hrb := hrb.keep hk136 (fun f => f)
            have hrlt := hrb.lt
            replace hat12 := hat12.keep hk136 (fun f => f)
            have hb12lt := hat12.blk.lt
            replace hR112 := SlT.keep0 hR112 hk136
            replace hR122 := SlT.keep0 hR122 hk136
            replace hrs := SlT.keep0 hrs hk136
            replace hR132 := SlT.keep0 hR132 hk136
            replace hKw := Keep.tr hKw (Keep.ofNone hk136); have hzhKw := Keep.size hKw
            replace hag123 := Ag.keep0 hag123 hk136; replace hrf119 := Rf.keep hrf119 hk136 (fun _ _ f => f)
            have qhrb := hrb
            have qhat12 := hat12
            have K141 : Keep none_ w137 w137 := Keep.refl _ _
            obtain rfl := List.mem_singleton.1 hL139
            refine GI_static [7, 8, 9, 10, 11, 12, 13, 14, 15, 16, 17, 18, 19, 20] [(0, .slice (some ⟨b12, o12, none⟩) xs.length cap), (3, .pointer (some ⟨g, 0, none⟩)), (4, .pointer (some ⟨r, 0, none⟩)), (5, .int .i64 ((i : Nat) : Int)), (21, .int .i64 ((i : Nat) : Int)), (22, .bool (decide (((i : Nat) : Int) < 100))), (98, .bool false), (99, .slice R132 ((ts.drop (dueN x13.n x13.m ts)).length) capR132), (100, .pointer (some ⟨r, 0, none⟩)), (101, .pointer (some ⟨r, 0, none⟩)), (102, .pointer (some ⟨r, 0, none⟩))] (by kernel_rfl) ?_
            refine GI_cell 31 (.tmp 102) 0 (.slice A133 ((ts.drop (dueN x13.n x13.m ts)).length) cap134) (some 103) (by kernel_rfl) (by kernel_rfl) (by kernel_rfl) qhrb (fun f => f) (m := 1) (by kernel_rfl) rfl ?_
            refine GI_call { callee := (Callee.value (Operand.func 17)), args := #[(Operand.tmp 99), (Operand.tmp 103)], argTypes := #[31, 31] } 17 #[.slice R132 ((ts.drop (dueN x13.n x13.m ts)).length) capR132, .slice A133 ((ts.drop (dueN x13.n x13.m ts)).length) cap134] (some 104) (by kernel_rfl) (by kernel_rfl) (by kernel_rfl) (by kernel_rfl) (same_spec R132 A133 capR132 cap134 (ts.drop (dueN x13.n x13.m ts)) _ hR132 hrs hok (by first | omega | (rw [List.length_take]; omega))) ?_
            rintro _ w142 ⟨rfl, hk143⟩
            have K144 := K141.tr (Keep.ofNone hk143)
            refine ⟨_, rfl, K144, ?_⟩
            have hzK144 := Keep.size K144
            have hsz145 := Keep.size hk143
            replace hrb := hrb.keep hk143 (fun f => f)
            have hrlt := hrb.lt
            replace hat12 := hat12.keep hk143 (fun f => f)
            have hb12lt := hat12.blk.lt
            replace hR112 := SlT.keep0 hR112 hk143
            replace hR122 := SlT.keep0 hR122 hk143
            replace hrs := SlT.keep0 hrs hk143
            replace hR132 := SlT.keep0 hR132 hk143
            replace hKw := Keep.tr hKw (Keep.ofNone hk143); have hzhKw := Keep.size hKw
            replace hag123 := Ag.keep0 hag123 hk143; replace hrf119 := Rf.keep hrf119 hk143 (fun _ _ f => f)
            refine GI_static [13, 14, 15, 16, 17, 18, 19, 20] [(0, .slice (some ⟨b12, o12, none⟩) xs.length cap), (3, .pointer (some ⟨g, 0, none⟩)), (4, .pointer (some ⟨r, 0, none⟩)), (5, .int .i64 ((i : Nat) : Int)), (21, .int .i64 ((i : Nat) : Int)), (22, .bool (decide (((i : Nat) : Int) < 100))), (99, .slice R132 ((ts.drop (dueN x13.n x13.m ts)).length) capR132), (100, .pointer (some ⟨r, 0, none⟩)), (101, .pointer (some ⟨r, 0, none⟩)), (102, .pointer (some ⟨r, 0, none⟩)), (103, .slice A133 ((ts.drop (dueN x13.n x13.m ts)).length) cap134), (104, .bool true), (105, .bool false), (107, .bool false), (108, .pointer (some ⟨g, 0, none⟩))] (by kernel_rfl) ?_
            refine GI_call { callee := (Callee.value (Operand.func 14)), args := #[(Operand.tmp 108)], argTypes := #[23] } 14 #[.pointer (some ⟨g, 0, none⟩)] (some 109) (by kernel_rfl) (by kernel_rfl) (by kernel_rfl) (by kernel_rfl) (len_spec (fun q => ¬ F118 q) g (ts.drop (dueN x13.n x13.m ts)) _ hag123) ?_
            rintro _ w142 ⟨rfl, rfl⟩
            refine ⟨_, rfl, K144, ?_⟩
            refine GI_static [17, 18, 19, 20] [(0, .slice (some ⟨b12, o12, none⟩) xs.length cap), (3, .pointer (some ⟨g, 0, none⟩)), (4, .pointer (some ⟨r, 0, none⟩)), (5, .int .i64 ((i : Nat) : Int)), (21, .int .i64 ((i : Nat) : Int)), (22, .bool (decide (((i : Nat) : Int) < 100))), (99, .slice R132 ((ts.drop (dueN x13.n x13.m ts)).length) capR132), (100, .pointer (some ⟨r, 0, none⟩)), (101, .pointer (some ⟨r, 0, none⟩)), (102, .pointer (some ⟨r, 0, none⟩)), (103, .slice A133 ((ts.drop (dueN x13.n x13.m ts)).length) cap134), (104, .bool true), (105, .bool false), (107, .bool false), (108, .pointer (some ⟨g, 0, none⟩)), (109, .int .i64 (((ts.drop (dueN x13.n x13.m ts)).length : Nat) : Int)), (110, .pointer (some ⟨r, 0, none⟩)), (111, .pointer (some ⟨r, 0, none⟩)), (112, .pointer (some ⟨r, 0, none⟩))] (by kernel_rfl) ?_
            refine GI_cell 31 (.tmp 112) 0 (.slice A133 ((ts.drop (dueN x13.n x13.m ts)).length) cap134) (some 113) (by kernel_rfl) (by kernel_rfl) (by kernel_rfl) qhrb (fun f => f) (m := 1) (by kernel_rfl) rfl ?_
            refine GI_static [] [(0, .slice (some ⟨b12, o12, none⟩) xs.length cap), (3, .pointer (some ⟨g, 0, none⟩)), (4, .pointer (some ⟨r, 0, none⟩)), (5, .int .i64 ((i : Nat) : Int)), (21, .int .i64 ((i : Nat) : Int)), (22, .bool (decide (((i : Nat) : Int) < 100))), (99, .slice R132 ((ts.drop (dueN x13.n x13.m ts)).length) capR132), (100, .pointer (some ⟨r, 0, none⟩)), (101, .pointer (some ⟨r, 0, none⟩)), (102, .pointer (some ⟨r, 0, none⟩)), (103, .slice A133 ((ts.drop (dueN x13.n x13.m ts)).length) cap134), (104, .bool true), (105, .bool false), (108, .pointer (some ⟨g, 0, none⟩)), (109, .int .i64 (((ts.drop (dueN x13.n x13.m ts)).length : Nat) : Int)), (110, .pointer (some ⟨r, 0, none⟩)), (111, .pointer (some ⟨r, 0, none⟩)), (112, .pointer (some ⟨r, 0, none⟩)), (113, .slice A133 ((ts.drop (dueN x13.n x13.m ts)).length) cap134), (114, .int .i64 (((ts.drop (dueN x13.n x13.m ts)).length : Nat) : Int)), (115, .bool (!(decide ((((ts.drop (dueN x13.n x13.m ts)).length : Nat) : Int) = (((ts.drop (dueN x13.n x13.m ts)).length : Nat) : Int))))), (116, .bool (!(decide ((((ts.drop (dueN x13.n x13.m ts)).length : Nat) : Int) = (((ts.drop (dueN x13.n x13.m ts)).length : Nat) : Int)))))] (by kernel_rfl) ?_
            refine GI_end ?_
            refine X_then ?_
            refine V_eq [(0, .slice (some ⟨b12, o12, none⟩) xs.length cap), (3, .pointer (some ⟨g, 0, none⟩)), (4, .pointer (some ⟨r, 0, none⟩)), (5, .int .i64 ((i : Nat) : Int)), (21, .int .i64 ((i : Nat) : Int)), (22, .bool (decide (((i : Nat) : Int) < 100))), (99, .slice R132 ((ts.drop (dueN x13.n x13.m ts)).length) capR132), (100, .pointer (some ⟨r, 0, none⟩)), (101, .pointer (some ⟨r, 0, none⟩)), (102, .pointer (some ⟨r, 0, none⟩)), (103, .slice A133 ((ts.drop (dueN x13.n x13.m ts)).length) cap134), (104, .bool true), (105, .bool false), (108, .pointer (some ⟨g, 0, none⟩)), (109, .int .i64 (((ts.drop (dueN x13.n x13.m ts)).length : Nat) : Int)), (110, .pointer (some ⟨r, 0, none⟩)), (111, .pointer (some ⟨r, 0, none⟩)), (112, .pointer (some ⟨r, 0, none⟩)), (113, .slice A133 ((ts.drop (dueN x13.n x13.m ts)).length) cap134), (114, .int .i64 (((ts.drop (dueN x13.n x13.m ts)).length : Nat) : Int)), (115, .bool (!(decide ((((ts.drop (dueN x13.n x13.m ts)).length : Nat) : Int) = (((ts.drop (dueN x13.n x13.m ts)).length : Nat) : Int))))), (116, .bool false)] (by rw [decide_eq_true (rfl : (((ts.drop (dueN x13.n x13.m ts)).length : Nat) : Int) = (((ts.drop (dueN x13.n x13.m ts)).length : Nat) : Int))]; rfl) ?_
            refine V_false rfl ?_
            refine V_skip ?_
            refine X_block ?_
            refine X_then ?_
            refine V_region ?_
            have hw150 : IntKind.i64.wrap (((i : Nat) : Int) + 1) = ((i + 1 : Nat) : Int) := (wrap64_id (by omega) (by omega)).trans (by omega)
            refine OI_static 2 [(0, .slice (some ⟨b12, o12, none⟩) xs.length cap), (3, .pointer (some ⟨g, 0, none⟩)), (4, .pointer (some ⟨r, 0, none⟩)), (21, .int .i64 ((i : Nat) : Int)), (22, .bool (decide (((i : Nat) : Int) < 100))), (25, .int .i64 (IntKind.i64.wrap (((i : Nat) : Int) + 1))), (99, .slice R132 ((ts.drop (dueN x13.n x13.m ts)).length) capR132), (100, .pointer (some ⟨r, 0, none⟩)), (101, .pointer (some ⟨r, 0, none⟩)), (102, .pointer (some ⟨r, 0, none⟩)), (103, .slice A133 ((ts.drop (dueN x13.n x13.m ts)).length) cap134), (104, .bool true), (105, .bool false), (108, .pointer (some ⟨g, 0, none⟩)), (109, .int .i64 (((ts.drop (dueN x13.n x13.m ts)).length : Nat) : Int)), (110, .pointer (some ⟨r, 0, none⟩)), (111, .pointer (some ⟨r, 0, none⟩)), (112, .pointer (some ⟨r, 0, none⟩)), (113, .slice A133 ((ts.drop (dueN x13.n x13.m ts)).length) cap134), (114, .int .i64 (((ts.drop (dueN x13.n x13.m ts)).length : Nat) : Int)), (115, .bool (!(decide ((((ts.drop (dueN x13.n x13.m ts)).length : Nat) : Int) = (((ts.drop (dueN x13.n x13.m ts)).length : Nat) : Int)))))] (by kernel_rfl) ?_
            refine OI_eq [(0, .slice (some ⟨b12, o12, none⟩) xs.length cap), (3, .pointer (some ⟨g, 0, none⟩)), (4, .pointer (some ⟨r, 0, none⟩)), (21, .int .i64 ((i : Nat) : Int)), (22, .bool (decide (((i : Nat) : Int) < 100))), (25, .int .i64 ((i + 1 : Nat) : Int)), (99, .slice R132 ((ts.drop (dueN x13.n x13.m ts)).length) capR132), (100, .pointer (some ⟨r, 0, none⟩)), (101, .pointer (some ⟨r, 0, none⟩)), (102, .pointer (some ⟨r, 0, none⟩)), (103, .slice A133 ((ts.drop (dueN x13.n x13.m ts)).length) cap134), (104, .bool true), (105, .bool false), (108, .pointer (some ⟨g, 0, none⟩)), (109, .int .i64 (((ts.drop (dueN x13.n x13.m ts)).length : Nat) : Int)), (110, .pointer (some ⟨r, 0, none⟩)), (111, .pointer (some ⟨r, 0, none⟩)), (112, .pointer (some ⟨r, 0, none⟩)), (113, .slice A133 ((ts.drop (dueN x13.n x13.m ts)).length) cap134), (114, .int .i64 (((ts.drop (dueN x13.n x13.m ts)).length : Nat) : Int)), (115, .bool (!(decide ((((ts.drop (dueN x13.n x13.m ts)).length : Nat) : Int) = (((ts.drop (dueN x13.n x13.m ts)).length : Nat) : Int)))))] (by rw [hw150]) ?_
            refine OI_static 3 [(0, .slice (some ⟨b12, o12, none⟩) xs.length cap), (3, .pointer (some ⟨g, 0, none⟩)), (4, .pointer (some ⟨r, 0, none⟩)), (5, .int .i64 ((i + 1 : Nat) : Int)), (21, .int .i64 ((i : Nat) : Int)), (22, .bool (decide (((i : Nat) : Int) < 100))), (99, .slice R132 ((ts.drop (dueN x13.n x13.m ts)).length) capR132), (100, .pointer (some ⟨r, 0, none⟩)), (101, .pointer (some ⟨r, 0, none⟩)), (102, .pointer (some ⟨r, 0, none⟩)), (103, .slice A133 ((ts.drop (dueN x13.n x13.m ts)).length) cap134), (104, .bool true), (105, .bool false), (108, .pointer (some ⟨g, 0, none⟩)), (109, .int .i64 (((ts.drop (dueN x13.n x13.m ts)).length : Nat) : Int)), (110, .pointer (some ⟨r, 0, none⟩)), (111, .pointer (some ⟨r, 0, none⟩)), (112, .pointer (some ⟨r, 0, none⟩)), (113, .slice A133 ((ts.drop (dueN x13.n x13.m ts)).length) cap134), (114, .int .i64 (((ts.drop (dueN x13.n x13.m ts)).length : Nat) : Int)), (115, .bool (!(decide ((((ts.drop (dueN x13.n x13.m ts)).length : Nat) : Int) = (((ts.drop (dueN x13.n x13.m ts)).length : Nat) : Int)))))] (by kernel_rfl) ?_
            refine OI_end rfl ?_
            exact V_again (k8 - 1) (by omega) [(0, .slice (some ⟨b12, o12, none⟩) xs.length cap), (3, .pointer (some ⟨g, 0, none⟩)), (4, .pointer (some ⟨r, 0, none⟩)), (5, .int .i64 ((i + 1 : Nat) : Int))] rfl ⟨i + 1, (ts.drop (dueN x13.n x13.m ts)), F118, by omega, hag123, hrf119, hgF124, hok, hFn125, hKw, rfl⟩
      · skip
        refine V_exit ?_
        refine X_exit_then ?_
        refine X_exit_then ?_
        refine X_exit_here ?_
        refine X_then ?_
        refine V_seq ?_
        refine V_region ?_
        refine OI_call { callee := (Callee.value (Operand.func 15)), args := #[], argTypes := #[] } 15 #[] (some 117) (by kernel_rfl) (by kernel_rfl) (by kernel_rfl) (known_spec _) ?_
        rintro _ w151 ⟨rfl, hk152⟩
        refine ⟨_, rfl, ?_⟩
        have hsz153 := Keep.size hk152
        replace hA := ArgT.keep0 hA hk152
        replace hKw := Keep.tr hKw (Keep.ofNone hk152); have hzhKw := Keep.size hKw
        replace hag := Ag.keep0 hag hk152; replace hrf := Rf.keep hrf hk152 (fun _ _ f => f)
        refine OI_static 2 [(2, .bool true)] (by kernel_rfl) ?_
        refine OI_end rfl ?_
        refine X_then ?_
        refine V_ret ?_
        exact X_return (.bool true) rfl ⟨rfl, hKw⟩
    · skip
      refine OI_eq [(0, .slice A xs.length cap), (3, .pointer (some ⟨g, 0, none⟩)), (4, .pointer (some ⟨r, 0, none⟩)), (5, .int .i64 ((i : Nat) : Int)), (20, .bool false)] (by first | simp [hg10] | rfl) ?_
      refine OI_static 8 [(0, .slice A xs.length cap), (3, .pointer (some ⟨g, 0, none⟩)), (4, .pointer (some ⟨r, 0, none⟩)), (5, .int .i64 ((i : Nat) : Int)), (21, undef), (22, undef), (23, .bool false)] (by kernel_rfl) ?_
      refine OI_end rfl ?_
      refine X_then ?_
      refine V_false rfl ?_
      refine V_exit ?_
      refine X_exit_then ?_
      refine X_exit_then ?_
      refine X_exit_here ?_
      refine X_then ?_
      refine V_seq ?_
      refine V_region ?_
      refine OI_call { callee := (Callee.value (Operand.func 15)), args := #[], argTypes := #[] } 15 #[] (some 117) (by kernel_rfl) (by kernel_rfl) (by kernel_rfl) (known_spec _) ?_
      rintro _ w154 ⟨rfl, hk155⟩
      refine ⟨_, rfl, ?_⟩
      have hsz156 := Keep.size hk155
      replace hA := ArgT.keep0 hA hk155
      replace hKw := Keep.tr hKw (Keep.ofNone hk155); have hzhKw := Keep.size hKw
      replace hag := Ag.keep0 hag hk155; replace hrf := Rf.keep hrf hk155 (fun _ _ f => f)
      refine OI_static 2 [(2, .bool true)] (by kernel_rfl) ?_
      refine OI_end rfl ?_
      refine X_then ?_
      refine V_ret ?_
      exact X_return (.bool true) rfl ⟨rfl, hKw⟩
end Go.Al


namespace Go.Al
open Go Go.RowKit Go.Proofs
theorem over_AgendaPlays {H : Type} {enc : TypeId × Value → H} {A : Option Addr} {len cap : Nat} {d : DataW H} {ps : List MemPlace} {w : World} (h : DataW.Trod enc Try.prog w 0 (fun _ => true) true 43 (.slice A len cap) d ps) : Calls Try.prog 8 #[.slice A len cap] w fun e w' => e = .returned (.bool true) ∧ Keep none_ w w' := by
  obtain ⟨ys, rfl, hA, hl, hc⟩ := read_elems (α := {y : AcT // okT y.t}) (f := fun y => y.1.cells) (ks := ksAc) (n := 6) (sz := 39) lift_ac Try.underlying43 (by kernel_rfl) (by kernel_rfl) rfl (by decide) h
  have hA2 : ArgT w 39 AcT.cells A cap (ys.map (·.1)) := by
    rcases hA with h | ⟨b, o, L, h1, h2⟩
    · exact .inl (by rw [h]; rfl)
    · exact .inr ⟨b, o, L, h1, by rw [List.map_map]; exact h2⟩
  have := walk_AgendaPlays A cap (ys.map (·.1)) w hA2 (fun x hx => by obtain ⟨y, _, rfl⟩ := List.mem_map.1 hx; exact y.2) (by rw [List.length_map]; unfold maxLen at hc; omega)
  rw [List.length_map] at this
  exact this
end Go.Al

