/-
  Put together out of 7 texts: Walks of the laws of voting: a beginning. The laws of voting: locks; what succeeds. Walks of the laws of voting: what is lent counts. The laws of voting: a vote that is cast anew. The laws of voting: more of what is delegated. The laws of voting: what is lent to one who splits. Walks of the laws of voting: what is lent to one who splits.
-/
import Derived.Test.YtglgnmoglbbkmaaVotingSplitsB4
namespace Go.Al
open Go Go.RowKit Go.Proofs
set_option maxRecDepth 10000 in
theorem rnew6_weak (A : Option Addr) (cap : Nat) (fs : List Int) (w : World) (hA0 : ArgT w 1 intc A cap fs) (hn : fs.length ≤ 100000) : Calls Try.prog 18 #[.slice A fs.length cap] w fun e w' => ∃ pv n, e = .returned (.tuple #[.pointer pv, .int .i64 n]) ∧ Keep none_ w w' := by
 have hA := hA0
 have hK0 : Keep none_ w w := Keep.refl _ _
 have hzhK0 := Keep.size hK0
 refine enterV Try.func18 rfl [.slice A fs.length cap] 51 rfl rfl rfl ?_
 refine V_pick [(0, .slice A fs.length cap)] rfl ?_
 refine V_seq ?_
 refine V_region ?_
 refine OI_static 2 [(0, .slice A fs.length cap)] (by kernel_rfl) ?_
 refine OI_end rfl ?_
 refine X_then ?_
 refine V_seq ?_
 refine V_seq ?_
 refine V_region ?_
 refine OI_static 3 [(0, .slice A fs.length cap), (9, .bool (decide (((fs.length : Nat) : Int) > 10)))] (by kernel_rfl) ?_
 refine OI_end rfl ?_
 refine X_then ?_
 refine V_if (((fs.length : Nat) : Int) > 10) (by kernel_rfl) (fun hc1 => ?_) (fun hc1 => ?_)
 ·
  refine V_seq ?_
  refine V_region ?_
  refine OI_static 2 [(2, .pointer none), (3, nt 1)] (by kernel_rfl) ?_
  refine OI_end rfl ?_
  refine X_then ?_
  refine V_ret ?_
  refine X_ret_then ?_
  exact X_return (.tuple #[.pointer none, nt 1]) rfl ⟨_, _, rfl, hK0⟩
 ·
  refine V_skip ?_
  refine X_then ?_
  refine V_seq ?_
  refine V_region ?_
  refine OI_make (E := 108) (sz := 3) (by_ := 40) (m := 10) (kd := .i64) (zv := .agg #[nt 0, nt 0, .slice none 0 0]) 103 (.const (Value.int IntKind.i64 10)) (.const (Value.int IntKind.i64 10)) ((List.replicate 10 [nt 0, nt 0, .slice none 0 0]).flatten) (some 10) (by kernel_rfl) (by kernel_rfl) (by kernel_rfl) (by kernel_rfl) (by kernel_rfl) (by decide) (by decide) (by kernel_rfl) ?_
  intro b2 w2 e2 hb2 k2 z2
  have hsz3 := Keep.size k2
  replace hA := ArgT.keep0 hA k2
  replace hK0 := Keep.tr hK0 (Keep.ofNone k2)
  have hb2lt := hb2.lt
  refine OI_static 2 [(0, .slice A fs.length cap), (11, .agg #[.slice (some ⟨b2, 0, none⟩) 10 10])] (by kernel_rfl) ?_
  refine OI_box 105 (.tmp 11) (.agg #[.slice (some ⟨b2, 0, none⟩) 10 10]) [.slice (some ⟨b2, 0, none⟩) 10 10] (some 12) (by kernel_rfl) (by kernel_rfl) (by kernel_rfl) ?_
  intro b4 w4 e4 hb4 k4 z4
  have hsz5 := Keep.size k4
  replace hb2 := hb2.keep k4 (fun f => f)
  replace hA := ArgT.keep0 hA k4
  replace hK0 := Keep.tr hK0 (Keep.ofNone k4)
  have hb4lt := hb4.lt
  refine OI_static 4 [(0, .slice A fs.length cap), (4, pt b4)] (by kernel_rfl) ?_
  refine OI_end rfl ?_
  refine X_then ?_
  refine V_seq ?_
  refine V_region ?_
  refine OI_static 1 [(0, .slice A fs.length cap), (4, pt b4), (5, nt 0)] (by kernel_rfl) ?_
  refine OI_end rfl ?_
  refine X_then ?_
  refine V_seq ?_
  refine V_seq ?_
  refine V_region ?_
  refine OI_static 1 [(0, .slice A fs.length cap), (4, pt b4), (5, nt 0), (6, nt 0)] (by kernel_rfl) ?_
  refine OI_end rfl ?_
  refine X_then ?_
  refine V_block ?_
  refine V_pick [(0, .slice A fs.length cap), (4, pt b4), (5, nt 0), (6, nt 0)] rfl ?_
  refine V_loop (fun k wI e => ∃ i : Nat, ∃ s5 : Int, ∃ Lx : List Value, (k + i = fs.length) ∧ (Blk wI b2 Lx 108) ∧ (Lx.length = 30) ∧ Keep (only b2) w4 wI ∧ e = [(0, .slice A fs.length cap), (4, pt b4), (5, nt s5), (6, nt ((i : Nat) : Int))]) fs.length ⟨0, 0, (List.replicate 10 [nt 0, nt 0, .slice none 0 0]).flatten, by omega, hb2, by decide, Keep.refl _ _, rfl⟩ ?_
  rintro k7 w6 _ ⟨i, s5, Lx, hki, hB, hLx, hk8, rfl⟩
  have hsz9 := Keep.size hk8
  replace hb4 := hb4.keep hk8 (by show ¬ (_ = _); omega)
  replace hA := ArgT.keep hA hk8 hA0 (fun k hk hs => by have hs : k = b2 := hs; omega)
  replace hK0 := Keep.fresh hK0 hk8 (by intro i hi hs; first | exact hs | exact Or.inl hs | exact Or.inr hs | (exfalso; have hs2 : i = b2 := hs; omega))
  have hzhk8 := Keep.size hk8
  have hb2lt := hB.lt
  refine V_seq ?_
  refine V_seq ?_
  refine V_region ?_
  refine OI_static 4 [(0, .slice A fs.length cap), (4, pt b4), (5, nt s5), (6, nt ((i : Nat) : Int)), (16, .bool (decide (((i : Nat) : Int) < ((fs.length : Nat) : Int))))] (by kernel_rfl) ?_
  refine OI_end rfl ?_
  refine X_then ?_
  refine V_if (((i : Nat) : Int) < ((fs.length : Nat) : Int)) (by kernel_rfl) (fun hc10 => ?_) (fun hc10 => ?_)
  ·
   refine V_skip ?_
   refine X_then ?_
   refine V_seq ?_
   refine V_block ?_
   refine V_seq ?_
   refine V_seq ?_
   refine V_region ?_
   refine OI_static 2 [(0, .slice A fs.length cap), (4, pt b4), (5, nt s5), (6, nt ((i : Nat) : Int)), (19, .slice A fs.length cap), (20, nt ((i : Nat) : Int))] (by kernel_rfl) ?_
   obtain ⟨b11, o11, L11, rfl, hat11⟩ := ArgT.open_ hA (by first | omega | (simp only [List.length_map]; omega) | (simp; done) | (simp; omega))
   have hb11lt0 := ArgT.lt hA0 (by first | omega | (simp only [List.length_map]; omega) | (simp; done) | (simp; omega))
   have hb11lt := hat11.blk.lt
   refine OI_pure (some 21) (.indexAddr 24 (.tmp 19) (.tmp 20)) (by kernel_rfl) (pure_idxN (b := b11) (o := o11) (len := fs.length) (cap := cap) (kd := .i64) (j := i) (E := 3) (sz := 1) (by_ := 8) (by kernel_rfl) (by kernel_rfl) (by kernel_rfl) (by omega)) ?_
   obtain ⟨x12, hx13⟩ : ∃ x, fs[i]? = some x := ⟨_, List.getElem?_eq_getElem (by first | omega | (simp only [List.length_map]; omega))⟩
   refine OI_cellR 3 (.tmp 21) (o11 + i * 1) (nt x12) (some 22) (by kernel_rfl) (by kernel_rfl) hat11.blk (m := 1) (by kernel_rfl) (AtR.cell0 hat11 (es_at hx13) rfl) ?_
   refine OI_static 6 [(0, .slice (some ⟨b11, o11, none⟩) fs.length cap), (4, pt b4), (5, nt s5), (6, nt ((i : Nat) : Int)), (24, .bool (decide (x12 < 0)))] (by kernel_rfl) ?_
   by_cases hg14 : x12 < 0
   ·
    refine OI_eq [(0, .slice (some ⟨b11, o11, none⟩) fs.length cap), (4, pt b4), (5, nt s5), (6, nt ((i : Nat) : Int)), (24, .bool true)] (by first | simp [hg14] | rfl) ?_
    refine OI_static 12 [(0, .slice (some ⟨b11, o11, none⟩) fs.length cap), (4, pt b4), (5, nt s5), (6, nt ((i : Nat) : Int)), (25, undef), (26, undef), (27, undef), (28, undef), (29, undef), (30, .bool true)] (by kernel_rfl) ?_
    refine OI_end rfl ?_
    refine X_then ?_
    refine V_true rfl ?_
    refine V_seq ?_
    refine V_region ?_
    refine OI_static 2 [(2, .pointer none), (3, nt 1)] (by kernel_rfl) ?_
    refine OI_end rfl ?_
    refine X_then ?_
    refine V_ret ?_
    refine X_ret_then ?_
    refine X_ret_block ?_
    refine X_ret_then ?_
    refine X_ret_then ?_
    refine X_ret_block ?_
    refine X_ret_then ?_
    exact X_return (.tuple #[.pointer none, nt 1]) rfl ⟨_, _, rfl, hK0⟩
   ·
    refine OI_eq [(0, .slice (some ⟨b11, o11, none⟩) fs.length cap), (4, pt b4), (5, nt s5), (6, nt ((i : Nat) : Int)), (24, .bool false)] (by first | simp [hg14] | rfl) ?_
    refine OI_static 8 [(0, .slice (some ⟨b11, o11, none⟩) fs.length cap), (4, pt b4), (5, nt s5), (6, nt ((i : Nat) : Int)), (24, .bool false), (25, .slice (some ⟨b11, o11, none⟩) fs.length cap), (26, nt ((i : Nat) : Int))] (by kernel_rfl) ?_
    refine OI_pure (some 27) (.indexAddr 24 (.tmp 25) (.tmp 26)) (by kernel_rfl) (pure_idxN (b := b11) (o := o11) (len := fs.length) (cap := cap) (kd := .i64) (j := i) (E := 3) (sz := 1) (by_ := 8) (by kernel_rfl) (by kernel_rfl) (by kernel_rfl) (by omega)) ?_
    refine OI_cellR 3 (.tmp 27) (o11 + i * 1) (nt x12) (some 28) (by kernel_rfl) (by kernel_rfl) hat11.blk (m := 1) (by kernel_rfl) (AtR.cell0 hat11 (es_at hx13) rfl) ?_
    refine OI_static 12 [(0, .slice (some ⟨b11, o11, none⟩) fs.length cap), (4, pt b4), (5, nt s5), (6, nt ((i : Nat) : Int)), (25, .slice (some ⟨b11, o11, none⟩) fs.length cap), (26, nt ((i : Nat) : Int)), (27, .pointer (some ⟨b11, o11 + i * 1, none⟩)), (28, nt x12), (29, .bool (decide (x12 > 1073741824))), (30, .bool (decide (x12 > 1073741824)))] (by kernel_rfl) ?_
    refine OI_end rfl ?_
    refine X_then ?_
    refine V_if (x12 > 1073741824) (by kernel_rfl) (fun hc15 => ?_) (fun hc15 => ?_)
    ·
     refine V_seq ?_
     refine V_region ?_
     refine OI_static 2 [(2, .pointer none), (3, nt 1)] (by kernel_rfl) ?_
     refine OI_end rfl ?_
     refine X_then ?_
     refine V_ret ?_
     refine X_ret_then ?_
     refine X_ret_block ?_
     refine X_ret_then ?_
     refine X_ret_then ?_
     refine X_ret_block ?_
     refine X_ret_then ?_
     exact X_return (.tuple #[.pointer none, nt 1]) rfl ⟨_, _, rfl, hK0⟩
    ·
     refine V_skip ?_
     refine X_then ?_
     refine V_seq ?_
     refine V_draws (acts [11]) (only b2) [[0, 1, 2, 3, 4, 5, 6, 7, 8, 9, 10, 11]] (by kernel_rfl) (by repeat first | exact sure_body (by rintro _ _ ⟨_, _, h, _⟩; exact ⟨_, h⟩) | refine sure_then ?_ | refine sure_block ?_ | refine sure_join ?_) (by kernel_rfl) ?_
     intro w17 hk16 he18 L hL19
     have hsz20 := Keep.size hk16
     replace hB := hB.keep hk16 (fun f => f)
     replace hb4 := hb4.keep hk16 (fun f => f)
     replace hat11 := hat11.keep hk16 (fun f => f)
     replace hK0 := Keep.tr hK0 (Keep.ofNone hk16)
     replace hk8 := Keep.tr hk8 (Keep.ofNone hk16)
     have qhB := hB
     have qhb4 := hb4
     have qhat11 := hat11
     have K21 : Keep (only b2) w17 w17 := Keep.refl _ _
     obtain rfl := List.mem_singleton.1 hL19
     refine GI_static [3, 4, 5, 6, 7, 8, 9, 10, 11] [(0, .slice (some ⟨b11, o11, none⟩) fs.length cap), (4, pt b4), (5, nt s5), (6, nt ((i : Nat) : Int)), (25, .slice (some ⟨b11, o11, none⟩) fs.length cap), (26, nt ((i : Nat) : Int)), (27, .pointer (some ⟨b11, o11 + i * 1, none⟩)), (28, nt x12), (29, .bool (decide (x12 > 1073741824))), (33, pt b4)] (by kernel_rfl) ?_
     refine GI_cell 103 (.tmp 33) 0 (.slice (some ⟨b2, 0, none⟩) 10 10) (some 34) (by kernel_rfl) (by kernel_rfl) (by kernel_rfl) qhb4 (by show ¬ (_ = _); omega) (m := 1) (by kernel_rfl) rfl ?_
     refine GI_static [7, 8, 9, 10, 11] [(0, .slice (some ⟨b11, o11, none⟩) fs.length cap), (4, pt b4), (5, nt s5), (6, nt ((i : Nat) : Int)), (25, .slice (some ⟨b11, o11, none⟩) fs.length cap), (26, nt ((i : Nat) : Int)), (27, .pointer (some ⟨b11, o11 + i * 1, none⟩)), (28, nt x12), (29, .bool (decide (x12 > 1073741824))), (34, .slice (some ⟨b2, 0, none⟩) 10 10), (35, nt ((i : Nat) : Int)), (36, .slice (some ⟨b11, o11, none⟩) fs.length cap), (37, nt ((i : Nat) : Int))] (by kernel_rfl) ?_
     refine GI_pure (some 38) (.indexAddr 24 (.tmp 36) (.tmp 37)) (by kernel_rfl) (by kernel_rfl) (pure_idxN (b := b11) (o := o11) (len := fs.length) (cap := cap) (kd := .i64) (j := i) (E := 3) (sz := 1) (by_ := 8) (by kernel_rfl) (by kernel_rfl) (by kernel_rfl) (by omega)) ?_
     refine GI_cellR 3 (.tmp 38) (o11 + i * 1) (nt x12) (some 39) (by kernel_rfl) (by kernel_rfl) (by kernel_rfl) qhat11.blk (by show ¬ (_ = _); omega) (m := 1) (by kernel_rfl) (AtR.cell0 qhat11 (es_at hx13) rfl) ?_
     refine GI_pure (some 40) (.indexAddr 103 (.tmp 34) (.tmp 35)) (by kernel_rfl) (by kernel_rfl) (pure_idxN (b := b2) (o := 0) (len := 10) (cap := 10) (kd := .i64) (j := i) (E := 108) (sz := 3) (by_ := 40) (by kernel_rfl) (by kernel_rfl) (by kernel_rfl) (by omega)) ?_
     refine GI_static [11] [(0, .slice (some ⟨b11, o11, none⟩) fs.length cap), (4, pt b4), (5, nt s5), (6, nt ((i : Nat) : Int)), (25, .slice (some ⟨b11, o11, none⟩) fs.length cap), (26, nt ((i : Nat) : Int)), (27, .pointer (some ⟨b11, o11 + i * 1, none⟩)), (28, nt x12), (29, .bool (decide (x12 > 1073741824))), (39, nt x12), (41, .pointer (some ⟨b2, 0 + i * 3, none⟩))] (by kernel_rfl) ?_
     refine GI_final 11 (by kernel_rfl) (by kernel_rfl) ?_
     refine OI_set (m := 1) (kd := false) 3 (.tmp 41) (.tmp 39) (0 + i * 3) (nt x12) [nt x12] none (by kernel_rfl) (by kernel_rfl) (by kernel_rfl) hB (by kernel_rfl) (by kernel_rfl) (by kernel_rfl) (by rw [hLx]; show 0 + i * 3 + 1 ≤ 30; omega) (by simp [Value.oneCell']) ?_
     intro w22 hb2_25 hk23 hz24
     replace hb2_25 : Blk w22 b2 (over Lx (0 + i * 3) [nt x12]) 108 := hb2_25
     have hsz26 := Keep.size hk23
     replace hb4 := hb4.keep hk23 (by show ¬ (_ = _); omega)
     replace hat11 := hat11.keep hk23 (by show ¬ (_ = _); omega)
     replace hK0 := Keep.fresh hK0 hk23 (by intro i hi hs; first | exact hs | exact Or.inl hs | exact Or.inr hs | (exfalso; have hs2 : i = b2 := hs; omega))
     replace hk8 := Keep.fresh hk8 hk23 (by intro i hi hs; first | exact hs | exact Or.inl hs | exact Or.inr hs | (exfalso; have hs2 : i = b2 := hs; omega))
     refine OI_end rfl ?_
     refine X_then ?_
     refine V_region ?_
     refine OI_static 3 [(0, .slice (some ⟨b11, o11, none⟩) fs.length cap), (4, pt b4), (6, nt ((i : Nat) : Int)), (25, .slice (some ⟨b11, o11, none⟩) fs.length cap), (26, nt ((i : Nat) : Int)), (27, .pointer (some ⟨b11, o11 + i * 1, none⟩)), (28, nt x12), (29, .bool (decide (x12 > 1073741824))), (42, nt s5), (43, .slice (some ⟨b11, o11, none⟩) fs.length cap), (44, nt ((i : Nat) : Int))] (by kernel_rfl) ?_
     refine OI_pure (some 45) (.indexAddr 24 (.tmp 43) (.tmp 44)) (by kernel_rfl) (pure_idxN (b := b11) (o := o11) (len := fs.length) (cap := cap) (kd := .i64) (j := i) (E := 3) (sz := 1) (by_ := 8) (by kernel_rfl) (by kernel_rfl) (by kernel_rfl) (by omega)) ?_
     refine OI_cellR 3 (.tmp 45) (o11 + i * 1) (nt x12) (some 46) (by kernel_rfl) (by kernel_rfl) hat11.blk (m := 1) (by kernel_rfl) (AtR.cell0 hat11 (es_at hx13) rfl) ?_
     refine OI_static 7 [(0, .slice (some ⟨b11, o11, none⟩) fs.length cap), (4, pt b4), (5, nt (IntKind.i64.wrap (s5 + x12))), (6, nt ((i : Nat) : Int)), (25, .slice (some ⟨b11, o11, none⟩) fs.length cap), (26, nt ((i : Nat) : Int)), (27, .pointer (some ⟨b11, o11 + i * 1, none⟩)), (28, nt x12), (29, .bool (decide (x12 > 1073741824)))] (by kernel_rfl) ?_
     refine OI_end rfl ?_
     refine X_block ?_
     refine X_then ?_
     refine V_region ?_
     have hw27 : IntKind.i64.wrap (((i : Nat) : Int) + 1) = ((i + 1 : Nat) : Int) := (wrap64_id (by omega) (by omega)).trans (by omega)
     refine OI_static 2 [(0, .slice (some ⟨b11, o11, none⟩) fs.length cap), (4, pt b4), (5, nt (IntKind.i64.wrap (s5 + x12))), (18, nt (IntKind.i64.wrap (((i : Nat) : Int) + 1))), (25, .slice (some ⟨b11, o11, none⟩) fs.length cap), (26, nt ((i : Nat) : Int)), (27, .pointer (some ⟨b11, o11 + i * 1, none⟩)), (28, nt x12), (29, .bool (decide (x12 > 1073741824)))] (by kernel_rfl) ?_
     refine OI_eq [(0, .slice (some ⟨b11, o11, none⟩) fs.length cap), (4, pt b4), (5, nt (IntKind.i64.wrap (s5 + x12))), (18, nt ((i + 1 : Nat) : Int)), (25, .slice (some ⟨b11, o11, none⟩) fs.length cap), (26, nt ((i : Nat) : Int)), (27, .pointer (some ⟨b11, o11 + i * 1, none⟩)), (28, nt x12), (29, .bool (decide (x12 > 1073741824)))] (by rw [hw27]) ?_
     refine OI_static 3 [(0, .slice (some ⟨b11, o11, none⟩) fs.length cap), (4, pt b4), (5, nt (IntKind.i64.wrap (s5 + x12))), (6, nt ((i + 1 : Nat) : Int)), (25, .slice (some ⟨b11, o11, none⟩) fs.length cap), (26, nt ((i : Nat) : Int)), (27, .pointer (some ⟨b11, o11 + i * 1, none⟩)), (28, nt x12), (29, .bool (decide (x12 > 1073741824)))] (by kernel_rfl) ?_
     refine OI_end rfl ?_
     exact V_again (k7 - 1) (by omega) [(0, .slice (some ⟨b11, o11, none⟩) fs.length cap), (4, pt b4), (5, nt (IntKind.i64.wrap (s5 + x12))), (6, nt ((i + 1 : Nat) : Int))] rfl ⟨i + 1, IntKind.i64.wrap (s5 + x12), (over Lx (0 + i * 3) [nt x12]), by omega, hb2_25, by rw [over_length (by rw [hLx]; show 0 + i * 3 + 1 ≤ 30; omega)]; exact hLx, hk8, rfl⟩
  ·
   refine V_exit ?_
   refine X_exit_then ?_
   refine X_exit_then ?_
   refine X_exit_here ?_
   refine X_then ?_
   refine V_seq ?_
   refine V_seq ?_
   refine V_region ?_
   refine OI_static 2 [(4, pt b4), (49, .bool (decide (s5 > 1073741824)))] (by kernel_rfl) ?_
   refine OI_end rfl ?_
   refine X_then ?_
   refine V_if (s5 > 1073741824) (by kernel_rfl) (fun hc28 => ?_) (fun hc28 => ?_)
   ·
    refine V_seq ?_
    refine V_region ?_
    refine OI_static 2 [(2, .pointer none), (3, nt 1)] (by kernel_rfl) ?_
    refine OI_end rfl ?_
    refine X_then ?_
    refine V_ret ?_
    refine X_ret_then ?_
    exact X_return (.tuple #[.pointer none, nt 1]) rfl ⟨_, _, rfl, hK0⟩
   ·
    refine V_skip ?_
    refine X_then ?_
    refine V_seq ?_
    refine V_region ?_
    refine OI_static 3 [(2, pt b4), (3, nt 0)] (by kernel_rfl) ?_
    refine OI_end rfl ?_
    refine X_then ?_
    refine V_ret ?_
    exact X_return (.tuple #[pt b4, nt 0]) rfl ⟨_, _, rfl, hK0⟩

set_option maxRecDepth 10000 in
theorem rnew11_weak (w : World) : Calls Try.prog 20 #[] w fun e w' => ∃ pv, e = .returned (.pointer pv) ∧ Keep none_ w w' := by
 have hK0 : Keep none_ w w := Keep.refl _ _
 have hzhK0 := Keep.size hK0
 refine enterV Try.func20 rfl [] 5 rfl rfl rfl ?_
 refine V_pick [] rfl ?_
 refine V_seq ?_
 refine V_region ?_
 refine OI_static 1 [] (by kernel_rfl) ?_
 refine OI_end rfl ?_
 refine X_then ?_
 refine V_seq ?_
 refine V_draws (acts [0, 1, 3]) none_ [[0, 1, 2, 3, 4], [1, 0, 2, 3, 4]] (by kernel_rfl) (by repeat first | exact sure_body (by rintro _ _ ⟨_, h, _⟩; exact ⟨_, h⟩) | refine sure_then ?_ | refine sure_block ?_ | refine sure_join ?_) (by kernel_rfl) ?_
 intro w2 hk1 he3 L hL4
 have hsz5 := Keep.size hk1
 replace hK0 := Keep.tr hK0 (Keep.ofNone hk1)
 have K6 : Keep none_ w2 w2 := Keep.refl _ _
 simp only [List.mem_cons, List.not_mem_nil, or_false] at hL4
 rcases hL4 with rfl | rfl
 ·
  refine GI_make (E := 196) (sz := 7) (by_ := 56) (m := 12) (kd := .i64) (zv := .agg #[.bool false, nt 0, nt 0, nt 0, nt 0, nt 0, nt 0]) 111 (.const (Value.int IntKind.i64 12)) (.const (Value.int IntKind.i64 12)) ((List.replicate 12 [.bool false, nt 0, nt 0, nt 0, nt 0, nt 0, nt 0]).flatten) (some 1) (by kernel_rfl) (by kernel_rfl) K6 (by kernel_rfl) (by kernel_rfl) (by kernel_rfl) (by kernel_rfl) (by decide) (by decide) (by kernel_rfl) ?_
  intro b7 w7 e7 hb7 k7 z7 K8
  have hsz9 := Keep.size k7
  replace hK0 := Keep.tr hK0 (Keep.ofNone k7)
  have hb7lt := hb7.lt
  refine GI_make (E := 198) (sz := 9) (by_ := 88) (m := 40) (kd := .i64) (zv := .agg #[.slice none 0 0, .bool false, nt 0, nt 0, nt 0, nt 0, nt 0, nt 0, nt 0]) 112 (.const (Value.int IntKind.i64 40)) (.const (Value.int IntKind.i64 40)) ((List.replicate 40 [.slice none 0 0, .bool false, nt 0, nt 0, nt 0, nt 0, nt 0, nt 0, nt 0]).flatten) (some 2) (by kernel_rfl) (by kernel_rfl) K8 (by kernel_rfl) (by kernel_rfl) (by kernel_rfl) (by kernel_rfl) (by decide) (by decide) (by kernel_rfl) ?_
  intro b10 w10 e10 hb10 k10 z10 K11
  have hsz12 := Keep.size k10
  replace hb7 := hb7.keep k10 (fun f => f)
  replace hK0 := Keep.tr hK0 (Keep.ofNone k10)
  have hb10lt := hb10.lt
  refine GI_static [3, 4] [(3, .agg #[.slice (some ⟨b7, 0, none⟩) 12 12, .slice (some ⟨b10, 0, none⟩) 40 40])] (by kernel_rfl) ?_
  refine GI_box 114 (.tmp 3) (.agg #[.slice (some ⟨b7, 0, none⟩) 12 12, .slice (some ⟨b10, 0, none⟩) 40 40]) [.slice (some ⟨b7, 0, none⟩) 12 12, .slice (some ⟨b10, 0, none⟩) 40 40] (some 4) (by kernel_rfl) (by kernel_rfl) K11 (by kernel_rfl) (by kernel_rfl) ?_
  intro b13 w13 e13 hb13 k13 z13 K14
  have hsz15 := Keep.size k13
  replace hb7 := hb7.keep k13 (fun f => f)
  replace hb10 := hb10.keep k13 (fun f => f)
  replace hK0 := Keep.tr hK0 (Keep.ofNone k13)
  have hb13lt := hb13.lt
  refine GI_static [] [(0, pt b13)] (by kernel_rfl) ?_
  refine GI_end ?_
  refine X_then ?_
  refine V_ret ?_
  exact X_return _ rfl ⟨_, rfl, hK0⟩
 ·
  refine GI_make (E := 198) (sz := 9) (by_ := 88) (m := 40) (kd := .i64) (zv := .agg #[.slice none 0 0, .bool false, nt 0, nt 0, nt 0, nt 0, nt 0, nt 0, nt 0]) 112 (.const (Value.int IntKind.i64 40)) (.const (Value.int IntKind.i64 40)) ((List.replicate 40 [.slice none 0 0, .bool false, nt 0, nt 0, nt 0, nt 0, nt 0, nt 0, nt 0]).flatten) (some 2) (by kernel_rfl) (by kernel_rfl) K6 (by kernel_rfl) (by kernel_rfl) (by kernel_rfl) (by kernel_rfl) (by decide) (by decide) (by kernel_rfl) ?_
  intro b16 w16 e16 hb16 k16 z16 K17
  have hsz18 := Keep.size k16
  replace hK0 := Keep.tr hK0 (Keep.ofNone k16)
  have hb16lt := hb16.lt
  refine GI_make (E := 196) (sz := 7) (by_ := 56) (m := 12) (kd := .i64) (zv := .agg #[.bool false, nt 0, nt 0, nt 0, nt 0, nt 0, nt 0]) 111 (.const (Value.int IntKind.i64 12)) (.const (Value.int IntKind.i64 12)) ((List.replicate 12 [.bool false, nt 0, nt 0, nt 0, nt 0, nt 0, nt 0]).flatten) (some 1) (by kernel_rfl) (by kernel_rfl) K17 (by kernel_rfl) (by kernel_rfl) (by kernel_rfl) (by kernel_rfl) (by decide) (by decide) (by kernel_rfl) ?_
  intro b19 w19 e19 hb19 k19 z19 K20
  have hsz21 := Keep.size k19
  replace hb16 := hb16.keep k19 (fun f => f)
  replace hK0 := Keep.tr hK0 (Keep.ofNone k19)
  have hb19lt := hb19.lt
  refine GI_static [3, 4] [(3, .agg #[.slice (some ⟨b19, 0, none⟩) 12 12, .slice (some ⟨b16, 0, none⟩) 40 40])] (by kernel_rfl) ?_
  refine GI_box 114 (.tmp 3) (.agg #[.slice (some ⟨b19, 0, none⟩) 12 12, .slice (some ⟨b16, 0, none⟩) 40 40]) [.slice (some ⟨b19, 0, none⟩) 12 12, .slice (some ⟨b16, 0, none⟩) 40 40] (some 4) (by kernel_rfl) (by kernel_rfl) K20 (by kernel_rfl) (by kernel_rfl) ?_
  intro b22 w22 e22 hb22 k22 z22 K23
  have hsz24 := Keep.size k22
  replace hb16 := hb16.keep k22 (fun f => f)
  replace hb19 := hb19.keep k22 (fun f => f)
  replace hK0 := Keep.tr hK0 (Keep.ofNone k22)
  have hb22lt := hb22.lt
  refine GI_static [] [(0, pt b22)] (by kernel_rfl) ?_
  refine GI_end ?_
  refine X_then ?_
  refine V_ret ?_
  exact X_return _ rfl ⟨_, rfl, hK0⟩

def msk24 (fs : List Int) : List Int := fs.map fun x => bAnd x 16777215
theorem msk24_at {fs : List Int} {x : Int} (h : x ∈ msk24 fs) : 0 ≤ x ∧ x ≤ 16777215 := by
  obtain ⟨y, _, rfl⟩ := List.mem_map.1 h
  exact bAnd_le y 16777215 (by decide)
theorem msk24_step {fs : List Int} {i : Nat} {x : Int} (h : fs[i]? = some x) : msk24 (fs.take (i + 1)) = msk24 (fs.take i) ++ [bAnd x 16777215] := by
  obtain ⟨h1, rfl⟩ := List.getElem?_eq_some_iff.1 h
  unfold msk24; rw [List.take_succ_eq_append_getElem h1, List.map_append]; rfl
theorem tot_newX_step (fs : List Int) (n : Nat) : tot (newX fs (n + 1)) = tot (newX fs n) + (fs[n]?).getD 0 := by
  have happ : ∀ (a b : List Acc), tot (a ++ b) = tot a + tot b := by
    intro a b
    induction a with
    | nil => simp [tot]
    | cons y l ih => simp only [List.cons_append, tot, ih]; omega
  rw [newX_succ, happ]
  simp only [tot]
  omega
theorem newX_tot24 {fs : List Int} (h : ∀ x ∈ fs, 0 ≤ x ∧ x ≤ 16777215) : ∀ i : Nat, tot (newX fs i) ≤ i * 16777215
  | 0 => by simp [newX, tot]
  | i + 1 => by
    have ih := newX_tot24 h i
    rw [tot_newX_step]
    have : (fs[i]?).getD 0 ≤ 16777215 := by
      cases hf : fs[i]? with
      | none => simp
      | some x => exact (h x (List.mem_of_getElem? hf)).2
    omega
theorem msk24_ok {fs : List Int} (h : fs.length ≤ 10) : okP (msk24 fs) :=
  ⟨by simpa [msk24] using h, fun x hx => by have := msk24_at hx; omega, by have := newX_tot24 (fs := msk24 fs) (fun x hx => msk24_at hx) 10; omega⟩

set_option maxRecDepth 10000 in
theorem begin_weak (A : Option Addr) (cap : Nat) (fs : List Int) (w : World) (hA0 : ArgT w 1 intc A cap fs) (hn : fs.length ≤ 9223372036854775807) : Calls Try.prog 7 #[.slice A fs.length cap] w fun e w' => ∃ b v l F G xv yv, e = .returned (.pointer (some ⟨b, 0, none⟩)) ∧ Blk w' b [.pointer (some ⟨l, 0, none⟩), .pointer (some ⟨v, 0, none⟩), .pointer xv, .pointer yv, .int .i64 0] 33 ∧ VotT F w' v VS.zero ∧ Led G w' l (newX (msk24 (fs.take 10)) 10) [] ∧ Keep none_ w w' ∧ w.heap.size ≤ b ∧ (∀ q, F q → w.heap.size ≤ q ∧ q ≠ b) ∧ (∀ q, G q → w.heap.size ≤ q ∧ q ≠ b) ∧ (∀ q, F q → ¬ G q) := by
 have hA := hA0
 have hK0 : Keep none_ w w := Keep.refl _ _
 have hzhK0 := Keep.size hK0
 refine enterV Try.func7 rfl [.slice A fs.length cap] 58 rfl rfl rfl ?_
 refine V_pick [(0, .slice A fs.length cap)] rfl ?_
 refine V_seq ?_
 refine V_region ?_
 refine OI_static 1 [(0, .slice A fs.length cap)] (by kernel_rfl) ?_
 refine OI_end rfl ?_
 refine X_then ?_
 refine V_seq ?_
 refine V_region ?_
 refine OI_static 1 [(0, .slice A fs.length cap), (3, .slice none 0 0)] (by kernel_rfl) ?_
 refine OI_end rfl ?_
 refine X_then ?_
 refine V_seq ?_
 refine V_seq ?_
 refine V_region ?_
 refine OI_static 1 [(0, .slice A fs.length cap), (3, .slice none 0 0), (4, nt 0)] (by kernel_rfl) ?_
 refine OI_end rfl ?_
 refine X_then ?_
 refine V_block ?_
 refine V_pick [(0, .slice A fs.length cap), (3, .slice none 0 0), (4, nt 0)] rfl ?_
 refine V_loop (fun k wI e => ∃ i : Nat, ∃ A2 : Option Addr, ∃ cap2 : Nat, ∃ ms : List Int, (k + i = min fs.length 10) ∧ (ms = msk24 (fs.take i)) ∧ (SlT wI 1 intc A2 cap2 ms) ∧ (∀ q, inA A2 q → w.heap.size ≤ q) ∧ Keep none_ w wI ∧ e = [(0, .slice A fs.length cap), (3, .slice A2 ms.length cap2), (4, nt ((i : Nat) : Int))]) (min fs.length 10) ⟨0, none, 0, [], by omega, rfl, SlT.nil _ _ _, fun q h => (inA_none h).elim, Keep.refl _ _, rfl⟩ ?_
 rintro k2 w1 _ ⟨i, A2, cap2, ms, hki, hms, hA2, ow2, hk3, rfl⟩
 have hsz4 := Keep.size hk3
 replace hA := ArgT.keep0 hA hk3
 replace hK0 := Keep.tr hK0 (Keep.ofNone hk3)
 have hzhk3 := Keep.size hk3
 have lt2 := SlT.lt hA2
 have hml : ms.length = i := by rw [hms]; simp [msk24]; omega
 refine V_seq ?_
 refine V_seq ?_
 refine V_region ?_
 refine OI_static 5 [(0, .slice A fs.length cap), (3, .slice A2 ms.length cap2), (4, nt ((i : Nat) : Int)), (14, .bool (decide (((i : Nat) : Int) < ((fs.length : Nat) : Int))))] (by kernel_rfl) ?_
 by_cases hg5 : ((i : Nat) : Int) < ((fs.length : Nat) : Int)
 ·
  refine OI_eq [(0, .slice A fs.length cap), (3, .slice A2 ms.length cap2), (4, nt ((i : Nat) : Int)), (14, .bool true)] (by first | simp [hg5] | rfl) ?_
  refine OI_static 8 [(0, .slice A fs.length cap), (3, .slice A2 ms.length cap2), (4, nt ((i : Nat) : Int)), (15, nt ((i : Nat) : Int)), (16, .bool (decide (((i : Nat) : Int) < 10))), (17, .bool (decide (((i : Nat) : Int) < 10)))] (by kernel_rfl) ?_
  refine OI_end rfl ?_
  refine X_then ?_
  refine V_if (((i : Nat) : Int) < 10) (by kernel_rfl) (fun hc6 => ?_) (fun hc6 => ?_)
  ·
   refine V_skip ?_
   refine X_then ?_
   refine V_seq ?_
   refine V_block ?_
   refine V_region ?_
   refine OI_static 3 [(0, .slice A fs.length cap), (4, nt ((i : Nat) : Int)), (15, nt ((i : Nat) : Int)), (16, .bool (decide (((i : Nat) : Int) < 10))), (20, .slice A2 ms.length cap2), (21, .slice A fs.length cap), (22, nt ((i : Nat) : Int))] (by kernel_rfl) ?_
   obtain ⟨b7, o7, L7, rfl, hat7⟩ := ArgT.open_ hA (by first | omega | (simp only [List.length_map]; omega) | (simp; done) | (simp; omega))
   have hb7lt0 := ArgT.lt hA0 (by first | omega | (simp only [List.length_map]; omega) | (simp; done) | (simp; omega))
   have hb7lt := hat7.blk.lt
   refine OI_pure (some 23) (.indexAddr 24 (.tmp 21) (.tmp 22)) (by kernel_rfl) (pure_idxN (b := b7) (o := o7) (len := fs.length) (cap := cap) (kd := .i64) (j := i) (E := 3) (sz := 1) (by_ := 8) (by kernel_rfl) (by kernel_rfl) (by kernel_rfl) (by omega)) ?_
   obtain ⟨x8, hx9⟩ : ∃ x, fs[i]? = some x := ⟨_, List.getElem?_eq_getElem (by first | omega | (simp only [List.length_map]; omega))⟩
   refine OI_cellR 3 (.tmp 23) (o7 + i * 1) (nt x8) (some 24) (by kernel_rfl) (by kernel_rfl) hat7.blk (m := 1) (by kernel_rfl) (AtR.cell0 hat7 (es_at hx9) rfl) ?_
   refine OI_static 6 [(0, .slice (some ⟨b7, o7, none⟩) fs.length cap), (4, nt ((i : Nat) : Int)), (15, nt ((i : Nat) : Int)), (16, .bool (decide (((i : Nat) : Int) < 10))), (20, .slice A2 ms.length cap2), (25, nt (bAnd x8 16777215))] (by kernel_rfl) ?_
   refine OI_slit (E := 3) (zv := nt 0) (sz := 1) (by_ := 8) 24 1 #[(0, (Operand.tmp 25))] [nt (bAnd x8 16777215)] [nt (bAnd x8 16777215)] (some 26) (by kernel_rfl) (by kernel_rfl) (by kernel_rfl) (by omega) rfl (by omega) (by intro v hv; simp only [List.mem_cons, List.not_mem_nil, or_false] at hv; rcases hv with rfl <;> rfl) (by kernel_rfl) rfl ?_
   intro b10 w10 e10 hb10 k10 z10
   have hsz11 := Keep.size k10
   replace hat7 := hat7.keep k10 (fun f => f)
   replace hA2 := SlT.keep0 hA2 k10
   replace hK0 := Keep.tr hK0 (Keep.ofNone k10)
   replace hk3 := Keep.tr hk3 (Keep.ofNone k10)
   have hb10lt := hb10.lt
   refine OI_append (t := 24) (at2 := 24) (E := 3) (E2 := 3) (sz := 1) (by_ := 8) (zv := nt 0) (m := ms.length) (k := 1) (.tmp 20) (.tmp 26) (.slice A2 ms.length cap2) (.slice (some ⟨b10, 0, none⟩) 1 1) (some 27) (by kernel_rfl) (by kernel_rfl) (by kernel_rfl) (by kernel_rfl) (by kernel_rfl) (by kernel_rfl) (by kernel_rfl) (SlT.slr hA2) (slr_one hb10 (intc_len (bAnd x8 16777215))) (intc_one (bAnd x8 16777215)) (by first | omega | (simp only [List.length_nil]; omega)) (by omega) (by first | omega | (simp only [List.length_nil]; omega)) (by omega) ?_
   intro vv9 w12 hap
   obtain ⟨A12, cap12, rfl, hA12, hk12, own12x⟩ := app_one (f := intc) (xs := ms) (x := (bAnd x8 16777215)) (A := A2) (cap := cap2) hap (fun x _ => intc_len x) (intc_len _)
   have own12 : ∀ q, inA A12 q → w.heap.size ≤ q := fun q hq => by rcases own12x q hq with h | h; exact ow2 q h; (show w.heap.size ≤ q; omega)
   have hsz13 := Keep.size hk12
   replace hat7 := hat7.keep hk12 (fun hs => by have h1 := ow2 _ hs; have h2 := lt2 _ hs; omega)
   replace hK0 := Keep.fresh hK0 hk12 (by intro i hi hs; first | exact hs | (exfalso; have h1 := ow2 i hs; have h2 := lt2 i hs; omega) | (have h1 := ow2 i hs; have h2 := lt2 i hs; show _ ∨ _; omega))
   replace hk3 := Keep.fresh hk3 hk12 (by intro i hi hs; first | exact hs | (exfalso; have h1 := ow2 i hs; have h2 := lt2 i hs; omega) | (have h1 := ow2 i hs; have h2 := lt2 i hs; show _ ∨ _; omega))
   have lt12 := SlT.lt hA12
   refine OI_static 9 [(0, .slice (some ⟨b7, o7, none⟩) fs.length cap), (3, .slice A12 ((ms ++ [bAnd x8 16777215]).length) cap12), (4, nt ((i : Nat) : Int)), (15, nt ((i : Nat) : Int)), (16, .bool (decide (((i : Nat) : Int) < 10)))] (by kernel_rfl) ?_
   refine OI_end rfl ?_
   refine X_block ?_
   refine X_then ?_
   refine V_region ?_
   have hw14 : IntKind.i64.wrap (((i : Nat) : Int) + 1) = ((i + 1 : Nat) : Int) := (wrap64_id (by omega) (by omega)).trans (by omega)
   refine OI_static 2 [(0, .slice (some ⟨b7, o7, none⟩) fs.length cap), (3, .slice A12 ((ms ++ [bAnd x8 16777215]).length) cap12), (15, nt ((i : Nat) : Int)), (16, .bool (decide (((i : Nat) : Int) < 10))), (19, nt (IntKind.i64.wrap (((i : Nat) : Int) + 1)))] (by kernel_rfl) ?_
   refine OI_eq [(0, .slice (some ⟨b7, o7, none⟩) fs.length cap), (3, .slice A12 ((ms ++ [bAnd x8 16777215]).length) cap12), (15, nt ((i : Nat) : Int)), (16, .bool (decide (((i : Nat) : Int) < 10))), (19, nt ((i + 1 : Nat) : Int))] (by rw [hw14]) ?_
   refine OI_static 3 [(0, .slice (some ⟨b7, o7, none⟩) fs.length cap), (3, .slice A12 ((ms ++ [bAnd x8 16777215]).length) cap12), (4, nt ((i + 1 : Nat) : Int)), (15, nt ((i : Nat) : Int)), (16, .bool (decide (((i : Nat) : Int) < 10)))] (by kernel_rfl) ?_
   refine OI_end rfl ?_
   exact V_again (k2 - 1) (by omega) [(0, .slice (some ⟨b7, o7, none⟩) fs.length cap), (3, .slice A12 ((ms ++ [bAnd x8 16777215]).length) cap12), (4, nt ((i + 1 : Nat) : Int))] rfl ⟨i + 1, A12, cap12, ms ++ [bAnd x8 16777215], by omega, by rw [msk24_step hx9, ← hms], hA12, own12, hk3, rfl⟩
  ·
   refine V_exit ?_
   refine X_exit_then ?_
   refine X_exit_then ?_
   refine X_exit_here ?_
   refine X_then ?_
   refine V_seq ?_
   refine V_region ?_
   refine OI_static 1 [(3, .slice A2 ms.length cap2), (29, .slice A2 ms.length cap2)] (by kernel_rfl) ?_
   have hie : i = min fs.length 10 := by omega
   have htk : fs.take i = fs.take 10 := by rw [hie]; rcases Nat.le_total fs.length 10 with h9 | h9; (rw [Nat.min_eq_left h9, List.take_length, List.take_of_length_le h9]); rw [Nat.min_eq_right h9]
   rw [htk] at hms
   have hok9 := msk24_ok (fs := fs.take 10) (by rw [List.length_take]; omega)
   rw [← hms] at hok9
   refine OI_call { callee := (Callee.value (Operand.func 17)), args := #[(Operand.tmp 29)], argTypes := #[24] } 17 #[.slice A2 ms.length cap2] (some 30) (by kernel_rfl) (by kernel_rfl) (by kernel_rfl) (new_ok A2 cap2 ms _ (SlT.arg hA2) (by omega) hok9) ?_
   rintro _ w15 ⟨l17, F18, rfl, ho19, hk16, hge20⟩
   refine ⟨_, rfl, ?_⟩
   have hsz21 := Keep.size hk16
   replace hA := ArgT.keep0 hA hk16
   replace hA2 := SlT.keep0 hA2 hk16
   replace hK0 := Keep.tr hK0 (Keep.ofNone hk16)
   have own22 : ∀ q, F18 q → w1.heap.size ≤ q := fun q hq => by have h1 := hge20 q hq; omega
   have lt23 := Led.lt ho19
   have dis24 : ∀ q, F18 q → ¬ inA A2 q := fun q h1 h2 => by have h3 := hge20 q h1; have h4 := lt2 q h2; omega
   have hl17lt : l17 < w15.heap.size := Led.lt ho19 _ (Led.at_ ho19)
   have hl17ge := hge20 _ (Led.at_ ho19)
   refine OI_static 7 [(3, .slice A2 ms.length cap2), (5, pt l17), (6, nt 0)] (by kernel_rfl) ?_
   refine OI_end rfl ?_
   refine X_then ?_
   refine V_seq ?_
   refine V_region ?_
   refine OI_static 1 [(5, pt l17), (6, nt 0), (34, .slice A2 ms.length cap2)] (by kernel_rfl) ?_
   refine OI_call { callee := (Callee.value (Operand.func 18)), args := #[(Operand.tmp 34)], argTypes := #[24] } 18 #[.slice A2 ms.length cap2] (some 35) (by kernel_rfl) (by kernel_rfl) (by kernel_rfl) (rnew6_weak A2 cap2 ms _ (SlT.arg hA2) (by omega)) ?_
   rintro _ w25 ⟨pv27, n28, rfl, hk26⟩
   refine ⟨_, rfl, ?_⟩
   have hsz29 := Keep.size hk26
   replace hA := ArgT.keep0 hA hk26
   replace hA2 := SlT.keep0 hA2 hk26
   replace hK0 := Keep.tr hK0 (Keep.ofNone hk26)
   replace ho19 := Led.keep ho19 hk26 (fun _ _ f => f)
   refine OI_static 7 [(5, pt l17), (6, nt 0), (7, .pointer pv27)] (by kernel_rfl) ?_
   refine OI_end rfl ?_
   refine X_then ?_
   refine V_seq ?_
   refine V_region ?_
   refine OI_static 1 [(5, pt l17), (6, nt 0), (7, .pointer pv27), (38, pt l17)] (by kernel_rfl) ?_
   refine OI_call { callee := (Callee.value (Operand.func 19)), args := #[], argTypes := #[] } 19 #[] (some 39) (by kernel_rfl) (by kernel_rfl) (by kernel_rfl) (new_votT _) ?_
   rintro _ w32 ⟨g34, F35, rfl, ho36, hk33, hge37⟩
   refine ⟨_, rfl, ?_⟩
   have hsz38 := Keep.size hk33
   replace hA := ArgT.keep0 hA hk33
   replace hA2 := SlT.keep0 hA2 hk33
   replace hK0 := Keep.tr hK0 (Keep.ofNone hk33)
   replace ho19 := Led.keep ho19 hk33 (fun _ _ f => f)
   have own39 : ∀ q, F35 q → w25.heap.size ≤ q := fun q hq => by have h1 := hge37 q hq; omega
   have lt40 := VotT.lt ho36
   have dis41 : ∀ q, F35 q → ¬ inA A2 q := fun q h1 h2 => by have h3 := hge37 q h1; have h4 := lt2 q h2; omega
   have dis42 : ∀ q, F35 q → ¬ F18 q := fun q h1 h2 => by have h3 := hge37 q h1; have h4 := lt23 q h2; omega
   have hg34lt : g34 < w32.heap.size := VotT.lt ho36 _ (VotT.at_ ho36)
   have hg34ge := hge37 _ (VotT.at_ ho36)
   refine OI_static 3 [(5, pt l17), (6, nt 0), (38, pt l17), (39, pt g34), (40, .pointer pv27)] (by kernel_rfl) ?_
   refine OI_call { callee := (Callee.value (Operand.func 20)), args := #[], argTypes := #[] } 20 #[] (some 41) (by kernel_rfl) (by kernel_rfl) (by kernel_rfl) (rnew11_weak _) ?_
   rintro _ w43 ⟨pv45, rfl, hk44⟩
   refine ⟨_, rfl, ?_⟩
   have hsz46 := Keep.size hk44
   replace hA := ArgT.keep0 hA hk44
   replace hA2 := SlT.keep0 hA2 hk44
   replace hK0 := Keep.tr hK0 (Keep.ofNone hk44)
   replace ho19 := Led.keep ho19 hk44 (fun _ _ f => f)
   replace ho36 := VotT.keep ho36 hk44 (fun _ _ f => f)
   refine OI_static 5 [(5, pt l17), (6, nt 0), (42, .agg #[pt l17, pt g34, .pointer pv27, .pointer pv45, nt 0])] (by kernel_rfl) ?_
   refine OI_box 33 (.tmp 42) (.agg #[pt l17, pt g34, .pointer pv27, .pointer pv45, nt 0]) [pt l17, pt g34, .pointer pv27, .pointer pv45, nt 0] (some 43) (by kernel_rfl) (by kernel_rfl) (by kernel_rfl) ?_
   intro b47 w47 e47 hb47 k47 z47
   have hsz48 := Keep.size k47
   replace hA := ArgT.keep0 hA k47
   replace hA2 := SlT.keep0 hA2 k47
   replace hK0 := Keep.tr hK0 (Keep.ofNone k47)
   replace ho19 := Led.keep ho19 k47 (fun _ _ f => f)
   replace ho36 := VotT.keep ho36 k47 (fun _ _ f => f)
   have hb47lt := hb47.lt
   refine OI_static 7 [(5, pt l17), (6, nt 0), (9, pt b47)] (by kernel_rfl) ?_
   refine OI_end rfl ?_
   refine X_then ?_
   refine V_seq ?_
   refine V_seq ?_
   refine V_region ?_
   refine OI_static 10 [(9, pt b47), (50, .bool false), (53, .pointer (some ⟨b47, 1, none⟩))] (by kernel_rfl) ?_
   refine OI_cell 29 (.tmp 53) 1 (pt g34) (some 54) (by kernel_rfl) (by kernel_rfl) hb47 (m := 1) (by kernel_rfl) rfl ?_
   refine OI_static 13 [(9, pt b47), (56, .bool false)] (by kernel_rfl) ?_
   refine OI_end rfl ?_
   refine X_then ?_
   refine V_false rfl ?_
   refine V_skip ?_
   refine X_then ?_
   refine V_seq ?_
   refine V_region ?_
   refine OI_static 2 [(2, pt b47)] (by kernel_rfl) ?_
   refine OI_end rfl ?_
   refine X_then ?_
   refine V_ret ?_
   exact X_return _ rfl ⟨b47, g34, l17, F35, F18, pv27, pv45, rfl, hb47, ho36, by rw [hms] at ho19; exact ho19, hK0, by omega, fun q hq => ⟨by have h1 := own39 q hq; omega, by have h1 := lt40 q hq; omega⟩, fun q hq => ⟨by have h1 := own22 q hq; omega, by have h1 := lt23 q hq; omega⟩, dis42⟩
 ·
  refine OI_eq [(0, .slice A fs.length cap), (3, .slice A2 ms.length cap2), (4, nt ((i : Nat) : Int)), (14, .bool false)] (by first | simp [hg5] | rfl) ?_
  refine OI_static 8 [(0, .slice A fs.length cap), (3, .slice A2 ms.length cap2), (4, nt ((i : Nat) : Int)), (15, undef), (16, undef), (17, .bool false)] (by kernel_rfl) ?_
  refine OI_end rfl ?_
  refine X_then ?_
  refine V_false rfl ?_
  refine V_exit ?_
  refine X_exit_then ?_
  refine X_exit_then ?_
  refine X_exit_here ?_
  refine X_then ?_
  refine V_seq ?_
  refine V_region ?_
  refine OI_static 1 [(3, .slice A2 ms.length cap2), (29, .slice A2 ms.length cap2)] (by kernel_rfl) ?_
  have hie : i = min fs.length 10 := by omega
  have htk : fs.take i = fs.take 10 := by rw [hie]; rcases Nat.le_total fs.length 10 with h9 | h9; (rw [Nat.min_eq_left h9, List.take_length, List.take_of_length_le h9]); rw [Nat.min_eq_right h9]
  rw [htk] at hms
  have hok9 := msk24_ok (fs := fs.take 10) (by rw [List.length_take]; omega)
  rw [← hms] at hok9
  refine OI_call { callee := (Callee.value (Operand.func 17)), args := #[(Operand.tmp 29)], argTypes := #[24] } 17 #[.slice A2 ms.length cap2] (some 30) (by kernel_rfl) (by kernel_rfl) (by kernel_rfl) (new_ok A2 cap2 ms _ (SlT.arg hA2) (by omega) hok9) ?_
  rintro _ w49 ⟨l51, F52, rfl, ho53, hk50, hge54⟩
  refine ⟨_, rfl, ?_⟩
  have hsz55 := Keep.size hk50
  replace hA := ArgT.keep0 hA hk50
  replace hA2 := SlT.keep0 hA2 hk50
  replace hK0 := Keep.tr hK0 (Keep.ofNone hk50)
  have own56 : ∀ q, F52 q → w1.heap.size ≤ q := fun q hq => by have h1 := hge54 q hq; omega
  have lt57 := Led.lt ho53
  have dis58 : ∀ q, F52 q → ¬ inA A2 q := fun q h1 h2 => by have h3 := hge54 q h1; have h4 := lt2 q h2; omega
  have hl51lt : l51 < w49.heap.size := Led.lt ho53 _ (Led.at_ ho53)
  have hl51ge := hge54 _ (Led.at_ ho53)
  refine OI_static 7 [(3, .slice A2 ms.length cap2), (5, pt l51), (6, nt 0)] (by kernel_rfl) ?_
  refine OI_end rfl ?_
  refine X_then ?_
  refine V_seq ?_
  refine V_region ?_
  refine OI_static 1 [(5, pt l51), (6, nt 0), (34, .slice A2 ms.length cap2)] (by kernel_rfl) ?_
  refine OI_call { callee := (Callee.value (Operand.func 18)), args := #[(Operand.tmp 34)], argTypes := #[24] } 18 #[.slice A2 ms.length cap2] (some 35) (by kernel_rfl) (by kernel_rfl) (by kernel_rfl) (rnew6_weak A2 cap2 ms _ (SlT.arg hA2) (by omega)) ?_
  rintro _ w59 ⟨pv61, n62, rfl, hk60⟩
  refine ⟨_, rfl, ?_⟩
  have hsz63 := Keep.size hk60
  replace hA := ArgT.keep0 hA hk60
  replace hA2 := SlT.keep0 hA2 hk60
  replace hK0 := Keep.tr hK0 (Keep.ofNone hk60)
  replace ho53 := Led.keep ho53 hk60 (fun _ _ f => f)
  refine OI_static 7 [(5, pt l51), (6, nt 0), (7, .pointer pv61)] (by kernel_rfl) ?_
  refine OI_end rfl ?_
  refine X_then ?_
  refine V_seq ?_
  refine V_region ?_
  refine OI_static 1 [(5, pt l51), (6, nt 0), (7, .pointer pv61), (38, pt l51)] (by kernel_rfl) ?_
  refine OI_call { callee := (Callee.value (Operand.func 19)), args := #[], argTypes := #[] } 19 #[] (some 39) (by kernel_rfl) (by kernel_rfl) (by kernel_rfl) (new_votT _) ?_
  rintro _ w66 ⟨g68, F69, rfl, ho70, hk67, hge71⟩
  refine ⟨_, rfl, ?_⟩
  have hsz72 := Keep.size hk67
  replace hA := ArgT.keep0 hA hk67
  replace hA2 := SlT.keep0 hA2 hk67
  replace hK0 := Keep.tr hK0 (Keep.ofNone hk67)
  replace ho53 := Led.keep ho53 hk67 (fun _ _ f => f)
  have own73 : ∀ q, F69 q → w59.heap.size ≤ q := fun q hq => by have h1 := hge71 q hq; omega
  have lt74 := VotT.lt ho70
  have dis75 : ∀ q, F69 q → ¬ inA A2 q := fun q h1 h2 => by have h3 := hge71 q h1; have h4 := lt2 q h2; omega
  have dis76 : ∀ q, F69 q → ¬ F52 q := fun q h1 h2 => by have h3 := hge71 q h1; have h4 := lt57 q h2; omega
  have hg68lt : g68 < w66.heap.size := VotT.lt ho70 _ (VotT.at_ ho70)
  have hg68ge := hge71 _ (VotT.at_ ho70)
  refine OI_static 3 [(5, pt l51), (6, nt 0), (38, pt l51), (39, pt g68), (40, .pointer pv61)] (by kernel_rfl) ?_
  refine OI_call { callee := (Callee.value (Operand.func 20)), args := #[], argTypes := #[] } 20 #[] (some 41) (by kernel_rfl) (by kernel_rfl) (by kernel_rfl) (rnew11_weak _) ?_
  rintro _ w77 ⟨pv79, rfl, hk78⟩
  refine ⟨_, rfl, ?_⟩
  have hsz80 := Keep.size hk78
  replace hA := ArgT.keep0 hA hk78
  replace hA2 := SlT.keep0 hA2 hk78
  replace hK0 := Keep.tr hK0 (Keep.ofNone hk78)
  replace ho53 := Led.keep ho53 hk78 (fun _ _ f => f)
  replace ho70 := VotT.keep ho70 hk78 (fun _ _ f => f)
  refine OI_static 5 [(5, pt l51), (6, nt 0), (42, .agg #[pt l51, pt g68, .pointer pv61, .pointer pv79, nt 0])] (by kernel_rfl) ?_
  refine OI_box 33 (.tmp 42) (.agg #[pt l51, pt g68, .pointer pv61, .pointer pv79, nt 0]) [pt l51, pt g68, .pointer pv61, .pointer pv79, nt 0] (some 43) (by kernel_rfl) (by kernel_rfl) (by kernel_rfl) ?_
  intro b81 w81 e81 hb81 k81 z81
  have hsz82 := Keep.size k81
  replace hA := ArgT.keep0 hA k81
  replace hA2 := SlT.keep0 hA2 k81
  replace hK0 := Keep.tr hK0 (Keep.ofNone k81)
  replace ho53 := Led.keep ho53 k81 (fun _ _ f => f)
  replace ho70 := VotT.keep ho70 k81 (fun _ _ f => f)
  have hb81lt := hb81.lt
  refine OI_static 7 [(5, pt l51), (6, nt 0), (9, pt b81)] (by kernel_rfl) ?_
  refine OI_end rfl ?_
  refine X_then ?_
  refine V_seq ?_
  refine V_seq ?_
  refine V_region ?_
  refine OI_static 10 [(9, pt b81), (50, .bool false), (53, .pointer (some ⟨b81, 1, none⟩))] (by kernel_rfl) ?_
  refine OI_cell 29 (.tmp 53) 1 (pt g68) (some 54) (by kernel_rfl) (by kernel_rfl) hb81 (m := 1) (by kernel_rfl) rfl ?_
  refine OI_static 13 [(9, pt b81), (56, .bool false)] (by kernel_rfl) ?_
  refine OI_end rfl ?_
  refine X_then ?_
  refine V_false rfl ?_
  refine V_skip ?_
  refine X_then ?_
  refine V_seq ?_
  refine V_region ?_
  refine OI_static 2 [(2, pt b81)] (by kernel_rfl) ?_
  refine OI_end rfl ?_
  refine X_then ?_
  refine V_ret ?_
  exact X_return _ rfl ⟨b81, g68, l51, F69, F52, pv61, pv79, rfl, hb81, ho70, by rw [hms] at ho53; exact ho53, hK0, by omega, fun q hq => ⟨by have h1 := own73 q hq; omega, by have h1 := lt74 q hq; omega⟩, fun q hq => ⟨by have h1 := own56 q hq; omega, by have h1 := lt57 q hq; omega⟩, dis76⟩
end Go.Al


namespace Go.Al
open Go Go.RowKit Go.Proofs
/-! ### Locks, by accounts and ids -/
theorem getC_set (a b x : Int) : ∀ (cs : List Ci), Srt cs → ∀ a' b', getC a' b' (setC a b x cs) = if a' = a ∧ b' = b then some x else getC a' b' cs
  | [], _, a', b' => by
    simp only [setC, getC]
    by_cases h : a' = a ∧ b' = b
    · rw [if_pos ⟨h.1.symm, h.2.symm⟩, if_pos h]
    · rw [if_neg (fun e => h ⟨e.1.symm, e.2.symm⟩), if_neg h]
  | c :: l, hs, a', b' => by
    have hs2 := List.pairwise_cons.1 hs
    have ih := getC_set a b x l hs2.2 a' b'
    simp only [setC]
    split
    · rename_i he
      simp only [getC]
      by_cases h : a' = a ∧ b' = b
      · rw [if_pos ⟨h.1.symm, h.2.symm⟩, if_pos h]
      · rw [if_neg (fun e => h ⟨e.1.symm, e.2.symm⟩), if_neg h, if_neg (fun e => h ⟨by omega, by omega⟩)]
    · rename_i he
      split
      · simp only [getC]
        rw [ih]
        by_cases h : a' = a ∧ b' = b
        · rw [if_pos h, if_pos h, if_neg (fun e => he ⟨by omega, by omega⟩)]
        · rw [if_neg h, if_neg h]
      · simp only [getC]
        by_cases h : a' = a ∧ b' = b
        · rw [if_pos ⟨h.1.symm, h.2.symm⟩, if_pos h]
        · rw [if_neg (fun e => h ⟨e.1.symm, e.2.symm⟩), if_neg h]
def LkOk (cs : List Ci) : Prop := Srt cs ∧ ∀ c ∈ cs, 0 < c.v ∧ c.v ≤ 1073741824
theorem LkOk.nil : LkOk [] := ⟨Srt.nil, fun c hc => by cases hc⟩
theorem setC_mem3 {a b v : Int} {y : Ci} : ∀ {cs : List Ci}, y ∈ setC a b v cs → y = ⟨a, b, v⟩ ∨ y ∈ cs
  | [], h => by simp only [setC, List.mem_singleton] at h; exact .inl h
  | x :: l, h => by
    simp only [setC] at h
    split at h
    · rcases List.mem_cons.1 h with h | h
      · exact .inl h
      · exact .inr (List.mem_cons_of_mem _ h)
    · split at h
      · rcases List.mem_cons.1 h with rfl | h
        · exact .inr (List.mem_cons_self ..)
        · exact (setC_mem3 h).imp id (List.mem_cons_of_mem _)
      · rcases List.mem_cons.1 h with h | h
        · exact .inl h
        · exact .inr h
theorem delC_mem3 {a b : Int} {y : Ci} : ∀ {cs : List Ci}, y ∈ delC a b cs → y ∈ cs
  | [], h => by simp [delC] at h
  | x :: l, h => by
    simp only [delC] at h
    split at h
    · exact List.mem_cons_of_mem _ h
    · rcases List.mem_cons.1 h with rfl | h
      · exact List.mem_cons_self ..
      · exact List.mem_cons_of_mem _ (delC_mem3 h)
theorem LkOk.lock {cs : List Ci} (h : LkOk cs) (a t n : Int) : LkOk (lockC cs a t n) := by
  unfold lockC
  split
  · split
    · exact ⟨(h.1.del a t).1, fun c hc => h.2 c (delC_mem3 hc)⟩
    · refine ⟨(Srt.set h.1).1, fun c hc => ?_⟩
      rcases setC_mem3 hc with rfl | hc
      · simp only; omega
      · exact h.2 c hc
  · exact h
theorem LkOk.raise {cs : List Ci} (h : LkOk cs) (a t n : Int) : LkOk (raiseC cs a t n) := by
  unfold raiseC
  split
  · exact h
  · exact h.lock _ _ _
theorem setC_len (a b v : Int) : ∀ cs : List Ci, (setC a b v cs).length ≤ cs.length + 1
  | [] => by simp [setC]
  | x :: l => by
    have := setC_len a b v l
    simp only [setC]
    split
    · simp
    · split
      · simp only [List.length_cons]; omega
      · simp
theorem delC_len (a b : Int) : ∀ cs : List Ci, (delC a b cs).length ≤ cs.length
  | [] => by simp [delC]
  | x :: l => by
    have := delC_len a b l
    simp only [delC]
    split <;> simp <;> omega
theorem lockC_len (cs : List Ci) (a i n : Int) : (lockC cs a i n).length ≤ cs.length + 1 := by
  unfold lockC
  split
  · split
    · have := delC_len a i cs; omega
    · exact setC_len _ _ _ _
  · omega
theorem raiseC_len (cs : List Ci) (a i n : Int) : (raiseC cs a i n).length ≤ cs.length + 1 := by
  unfold raiseC
  split
  · omega
  · exact lockC_len _ _ _ _
/-! ### What succeeds -/
theorem vote_go {xs : List Acc} {s : VS} {who ref : Int} {x : Vt} {q : PollS} (h1 : 0 ≤ who ∧ who ≤ 9) (h2 : okV x) (h3 : pollAt s ref = some q) (h4 : q.state = 0) (h5 : (s.rc who q.track).d = none) (h6 : capI x ≤ (acct xs who).free) (h7 : (GV.getC who ref s.cs).isSome = true ∨ (vrow s who q.track).length < 6) :
    voteE xs s who ref x = 0 ∧ voteS xs s who ref x = { s.setP ref.toNat { q with t := voteT s who ref x q } with cs := GV.setC who ref x s.cs } ∧ ∀ cs, voteC xs cs s who ref x = raiseC cs who q.track (capI x) := by
  have hE : voteE xs s who ref x = 0 := by
    unfold voteE
    rw [if_neg (by rintro (h9 | h9); exact h9 h1; exact h9 h2), h3]; dsimp only
    rw [if_neg (fun h9 => h9 h4), if_neg (by rw [h5]; decide), if_neg (by omega), if_neg ?_]
    rintro ⟨h8, h9⟩
    rcases h7 with h7 | h7
    · rw [h7] at h8; cases h8
    · omega
  refine ⟨hE, ?_, fun cs => ?_⟩
  · unfold voteS; rw [if_pos hE, h3]
  · unfold voteC; rw [if_pos hE, h3]
theorem del_go {xs : List Acc} {s : VS} {who t to level n : Int} (h1 : 0 ≤ who ∧ who ≤ 9) (h2 : 0 ≤ to ∧ to ≤ 9) (h3 : 0 ≤ t ∧ t ≤ 3) (h4 : 0 ≤ level ∧ level ≤ 6) (h5 : 0 ≤ n ∧ n ≤ 1073741824) (h6 : who ≠ to) (h7 : (s.rc who t).d = none) (h8 : vrow s who t = []) (h9 : n ≤ (acct xs who).free) :
    delE xs s who t to level n = 0 ∧ delS xs s who t to level n = getsS (s.setR who t { s.rc who t with d := some (DelS.mk to level n) }) to t (Wgt.mk (cvVotes n level) n) ∧ ∀ cs, delC2 xs cs s who t to level n = raiseC cs who t n := by
  have hE : delE xs s who t to level n = 0 := by
    unfold delE
    rw [if_neg (by rintro (h | h | h | h | h | h); exact h h1; exact h h2; exact h h3; exact h h4; exact h h5; exact h h6), if_neg (by rw [h7]; decide), if_neg (by rw [h8]; decide), if_neg (by omega)]
  refine ⟨hE, ?_, fun cs => ?_⟩
  · unfold delS; rw [if_pos hE]
  · unfold delC2; rw [if_pos hE]
theorem w64_id {x : Int} (h1 : -9223372036854775808 ≤ x) (h2 : x ≤ 9223372036854775807) : w64 x = x := wrap64_id (by omega) (by omega)
theorem capI_ok {x : Vt} (h : okV x) : capI x = x.a + x.n + x.s ∧ 0 ≤ capI x ∧ capI x ≤ 1073741824 := by
  have hb := h.1
  have e : capI x = x.a + x.n + x.s := by unfold capI; rw [w64_id (x := x.a + x.n) (by omega) (by omega), w64_id (by omega) (by omega)]
  rw [e]; omega
end Go.Al


namespace Go.Al
open Go Go.RowKit Go.Proofs
/-! ### What is lent counts -/
def knX : List Acc := newX [0, 10, 10] 10
def knV : Vt := ⟨1, true, 2, 10, 0, 0⟩
def knS1 : VS := openS VS.zero 0 1
def knS2 : VS := delS knX knS1 2 1 1 1 10
def knC2 : List Ci := delC2 knX [] knS1 2 1 1 1 10
def knS3 : VS := voteS knX knS2 1 0 knV
def knC3 : List Ci := voteC knX knC2 knS2 1 0 knV
theorem kn1 : openE VS.zero 0 1 = 0 := by kernel_rfl
theorem kn2 : delE knX knS1 2 1 1 1 10 = 0 := by kernel_rfl
theorem kn3 : voteE knX knS2 1 0 knV = 0 := by kernel_rfl
theorem kn4 : tallyT knS3 0 = ⟨30, 0, 20⟩ := by kernel_rfl
theorem kn0 : newX (msk24 ([0, 10, 10].take 10)) 10 = knX := by kernel_rfl
theorem kn5 : knC2.length < 100000 := by rw [show knC2.length = 1 by kernel_rfl]; decide

set_option maxRecDepth 10000 in
theorem known_spec (w : World) : Calls Try.prog 11 #[] w fun e w' => e = .returned (.bool true) ∧ Keep none_ w w' := by
 have hK0 : Keep none_ w w := Keep.refl _ _
 have hzhK0 := Keep.size hK0
 refine enterV Try.func11 rfl [] 48 rfl rfl rfl ?_
 refine V_pick [] rfl ?_
 refine V_seq ?_
 refine V_region ?_
 refine OI_static 1 [] (by kernel_rfl) ?_
 refine OI_end rfl ?_
 refine X_then ?_
 refine V_seq ?_
 refine V_region ?_
 refine OI_slit (E := 3) (zv := nt 0) (sz := 1) (by_ := 8) 24 3 #[(0, (Operand.const (Value.int IntKind.i64 0))), (1, (Operand.const (Value.int IntKind.i64 10))), (2, (Operand.const (Value.int IntKind.i64 10)))] [nt 0, nt 10, nt 10] [nt 0, nt 10, nt 10] (some 5) (by kernel_rfl) (by kernel_rfl) (by kernel_rfl) (by omega) rfl (by omega) (by intro v hv; simp only [List.mem_cons, List.not_mem_nil, or_false] at hv; rcases hv with rfl | rfl | rfl <;> rfl) (by kernel_rfl) rfl ?_
 intro b1 w1 e1 hb1 k1 z1
 have hsz2 := Keep.size k1
 replace hK0 := Keep.tr hK0 (Keep.ofNone k1)
 have hb1lt := hb1.lt
 refine OI_call { callee := (Callee.value (Operand.func 7)), args := #[(Operand.tmp 5)], argTypes := #[24] } 7 #[.slice (some ⟨b1, 0, none⟩) 3 3] (some 6) (by kernel_rfl) (by kernel_rfl) (by kernel_rfl) (begin_weak (some ⟨b1, 0, none⟩) 3 [0, 10, 10] _ (slt_blk (xs := [0, 10, 10]) (f := intc) hb1 (fun _ => rfl) rfl).arg (by simp)) ?_
 rintro _ w5 ⟨b7, v8, l9, F10, G11, xv12, yv13, rfl, hb14, ho15, hl16, hk6, hge17, hF18, hG19, hd20⟩
 refine ⟨_, rfl, ?_⟩
 have hsz21 := Keep.size hk6
 replace hb1 := hb1.keep hk6 (fun f => f)
 replace hK0 := Keep.tr hK0 (Keep.ofNone hk6)
 have hb7lt := hb14.lt
 have own22 : ∀ q, F10 q → w1.heap.size ≤ q ∧ q ≠ b1 ∧ q ≠ b7 := fun q hq => by have h1 := hF18 q hq; omega
 have lt23 := VotT.lt ho15
 have hb7lt := hb14.lt
 have own24 : ∀ q, G11 q → w1.heap.size ≤ q ∧ q ≠ b1 ∧ q ≠ b7 := fun q hq => by have h1 := hG19 q hq; omega
 have lt25 := Led.lt hl16
 replace hl16 : Led G11 w5 l9 knX ([] : List Ci) := by rw [kn0] at hl16; exact hl16
 refine OI_static 3 [(1, pt b7)] (by kernel_rfl) ?_
 refine OI_end rfl ?_
 refine X_then ?_
 refine V_seq ?_
 refine V_seq ?_
 refine V_region ?_
 refine OI_static 2 [(1, pt b7), (8, .bool false)] (by kernel_rfl) ?_
 refine OI_end rfl ?_
 refine X_then ?_
 refine V_false rfl ?_
 refine V_skip ?_
 refine X_then ?_
 refine V_seq ?_
 refine V_region ?_
 refine OI_static 3 [(1, pt b7), (11, .pointer (some ⟨b7, 1, none⟩))] (by kernel_rfl) ?_
 refine OI_cell 29 (.tmp 11) 1 (pt v8) (some 12) (by kernel_rfl) (by kernel_rfl) hb14 (m := 1) (by kernel_rfl) rfl ?_
 refine OI_call { callee := (Callee.value (Operand.func 8)), args := #[(Operand.tmp 12), (Operand.const (Value.int IntKind.i64 0)), (Operand.const (Value.int IntKind.i64 1))], argTypes := #[29, 3, 3] } 8 #[pt v8, nt 0, nt 1] (some 13) (by kernel_rfl) (by kernel_rfl) (by kernel_rfl) (open_specT F10 v8 VS.zero 0 1 _ ho15) ?_
 rintro _ w28 ⟨rfl, ⟨F30, ho31, hfr32⟩, hk29⟩
 refine ⟨_, rfl, ?_⟩
 have hsz33 := Keep.size hk29
 replace hb14 := hb14.keep hk29 (fun hs => by have h1 := own22 _ hs; have h2 := lt23 _ hs; omega)
 replace hK0 := Keep.fresh hK0 hk29 (by intro i hi hs; first | exact hs | (exfalso; have h1 := own22 i hs; have h2 := lt23 i hs; omega) | (have h1 := own22 i hs; have h2 := lt23 i hs; show _ ∨ _; omega))
 replace hl16 := Led.keep hl16 hk29 (fun q hq hs => hd20 q hs hq)
 have own35 : ∀ q, F30 q → w1.heap.size ≤ q ∧ q ≠ b7 := fun q hq => by rcases hfr32 q hq with h | h; (have h1 := own22 q h; have h2 := lt23 q h; omega); omega
 have lt34 := VotT.lt ho31
 have dis36 : ∀ q, F30 q → ¬ G11 q := fun q h1 h2 => by rcases hfr32 q h1 with h | h; exact hd20 q h h2; (have h4 := lt25 q h2; omega)
 replace ho31 : VotT F30 w28 v8 knS1 := by rw [show openS VS.zero 0 1 = knS1 from rfl] at ho31; exact ho31
 refine OI_pick [(1, pt b7), (13, nt (openE VS.zero 0 1))] (by kernel_rfl) ?_
 refine OI_eq [(1, pt b7), (13, nt 0)] (by rw [kn1]) ?_
 refine OI_static 6 [(1, pt b7), (2, nt 0)] (by kernel_rfl) ?_
 refine OI_end rfl ?_
 refine X_then ?_
 refine V_seq ?_
 refine V_draws (acts [8]) none_ [[0, 1, 2, 3, 4, 5, 6, 7, 8, 9]] (by kernel_rfl) (by repeat first | exact sure_body (by rintro _ _ ⟨h, _⟩; exact ⟨_, h⟩) | refine sure_then ?_ | refine sure_block ?_ | refine sure_join ?_) (by kernel_rfl) ?_
 intro w38 hk37 he39 L hL40
 have hsz41 := Keep.size hk37
 replace hb14 := hb14.keep hk37 (fun f => f)
 replace hK0 := Keep.tr hK0 (Keep.ofNone hk37)
 replace hl16 := Led.keep hl16 hk37 (fun _ _ f => f)
 replace ho31 := VotT.keep ho31 hk37 (fun _ _ f => f)
 have qhb14 := hb14
 have K42 : Keep none_ w38 w38 := Keep.refl _ _
 obtain rfl := List.mem_singleton.1 hL40
 refine GI_static [3, 4, 5, 6, 7, 8, 9] [(1, pt b7), (2, nt 0), (16, .pointer (some ⟨b7, 1, none⟩))] (by kernel_rfl) ?_
 refine GI_cell 29 (.tmp 16) 1 (pt v8) (some 17) (by kernel_rfl) (by kernel_rfl) (by kernel_rfl) qhb14 (fun f => f) (m := 1) (by kernel_rfl) rfl ?_
 refine GI_static [7, 8, 9] [(1, pt b7), (2, nt 0), (17, pt v8), (20, pt b7)] (by kernel_rfl) ?_
 refine GI_cell 28 (.tmp 20) 0 (pt l9) (some 21) (by kernel_rfl) (by kernel_rfl) (by kernel_rfl) qhb14 (fun f => f) (m := 1) (by kernel_rfl) rfl ?_
 refine GI_call0 { callee := (Callee.value (Operand.func 12)), args := #[(Operand.tmp 17), (Operand.tmp 21), (Operand.const (Value.int IntKind.i64 2)), (Operand.const (Value.int IntKind.i64 1)), (Operand.const (Value.int IntKind.i64 1)), (Operand.const (Value.int IntKind.i64 1)), (Operand.const (Value.int IntKind.i64 10))], argTypes := #[29, 28, 3, 3, 3, 3, 3] } 12 #[pt v8, pt l9, nt 2, nt 1, nt 1, nt 1, nt 10] (some 22) (by kernel_rfl) (by kernel_rfl) (by kernel_rfl) (by kernel_rfl) (by kernel_rfl) (delegate_spec F30 G11 v8 l9 knS1 knX ([] : List Ci) 2 1 1 1 10 _ ho31 hl16 dis36 (by first | decide | exact kn5)) ?_
 rintro _ w45 ⟨rfl, ⟨F47, F50, ho48, ho51, hfr49, hfr52, hdis53⟩, hk46⟩
 refine ⟨_, rfl, ?_⟩
 have hsz54 := Keep.size hk46
 replace hb14 := hb14.keep hk46 (fun hs => by rcases hs with hs | hs; (have u0 := own35 _ hs; have u1 := lt34 _ hs; omega); (have u0 := own24 _ hs; have u1 := lt25 _ hs; omega))
 replace hK0 := Keep.fresh hK0 hk46 (by intro i hi hs; first | exact hs | (rcases hs with hs | hs; (have u0 := own35 i hs; have u1 := lt34 i hs; omega); (have u0 := own24 i hs; have u1 := lt25 i hs; omega)))
 have own56 : ∀ q, F47 q → w1.heap.size ≤ q ∧ q ≠ b7 := fun q hq => by rcases hfr49 q hq with h | h; (have h1 := own35 q h; have h2 := lt34 q h; omega); omega
 have lt55 := VotT.lt ho48
 have own58 : ∀ q, F50 q → w1.heap.size ≤ q ∧ q ≠ b7 := fun q hq => by rcases hfr52 q hq with h | h; (have h1 := own24 q h; have h2 := lt25 q h; omega); omega
 have lt57 := Led.lt ho51
 replace ho48 : VotT F47 w45 v8 knS2 := by rw [show delS knX knS1 2 1 1 1 10 = knS2 from rfl] at ho48; exact ho48
 replace ho51 : Led F50 w45 l9 knX knC2 := by rw [show delC2 knX ([] : List Ci) knS1 2 1 1 1 10 = knC2 from rfl] at ho51; exact ho51
 refine GI_pick [(1, pt b7), (2, nt 0), (22, nt (delE knX knS1 2 1 1 1 10))] (by kernel_rfl) ?_
 refine GI_eq [(1, pt b7), (2, nt 0), (22, nt 0)] (by rw [kn2]) ?_
 refine GI_static [] [(1, pt b7), (2, nt 0), (3, nt 0)] (by kernel_rfl) ?_
 refine GI_end ?_
 refine X_then ?_
 refine V_seq ?_
 refine V_draws (acts [9]) none_ [[0, 1, 2, 3, 4, 5, 6, 7, 8, 9, 10]] (by kernel_rfl) (by repeat first | exact sure_body (by rintro _ _ ⟨h, _⟩; exact ⟨_, h⟩) | refine sure_then ?_ | refine sure_block ?_ | refine sure_join ?_) (by kernel_rfl) ?_
 intro w60 hk59 he61 L hL62
 have hsz63 := Keep.size hk59
 replace hb14 := hb14.keep hk59 (fun f => f)
 replace hK0 := Keep.tr hK0 (Keep.ofNone hk59)
 replace ho48 := VotT.keep ho48 hk59 (fun _ _ f => f)
 replace ho51 := Led.keep ho51 hk59 (fun _ _ f => f)
 have qhb14 := hb14
 have K64 : Keep none_ w60 w60 := Keep.refl _ _
 obtain rfl := List.mem_singleton.1 hL62
 refine GI_static [3, 4, 5, 6, 7, 8, 9, 10] [(1, pt b7), (2, nt 0), (3, nt 0), (25, .pointer (some ⟨b7, 1, none⟩))] (by kernel_rfl) ?_
 refine GI_cell 29 (.tmp 25) 1 (pt v8) (some 26) (by kernel_rfl) (by kernel_rfl) (by kernel_rfl) qhb14 (fun f => f) (m := 1) (by kernel_rfl) rfl ?_
 refine GI_static [7, 8, 9, 10] [(1, pt b7), (2, nt 0), (3, nt 0), (26, pt v8), (29, pt b7)] (by kernel_rfl) ?_
 refine GI_cell 28 (.tmp 29) 0 (pt l9) (some 30) (by kernel_rfl) (by kernel_rfl) (by kernel_rfl) qhb14 (fun f => f) (m := 1) (by kernel_rfl) rfl ?_
 refine GI_static [9, 10] [(1, pt b7), (2, nt 0), (3, nt 0), (26, pt v8), (30, pt l9), (31, .agg #[nt 1, .bool true, nt 2, nt 10, nt 0, nt 0])] (by kernel_rfl) ?_
 refine GI_call0 { callee := (Callee.value (Operand.func 9)), args := #[(Operand.tmp 26), (Operand.tmp 30), (Operand.const (Value.int IntKind.i64 1)), (Operand.const (Value.int IntKind.i64 0)), (Operand.tmp 31)], argTypes := #[29, 28, 3, 3, 26] } 9 #[pt v8, pt l9, nt 1, nt 0, .agg #[nt 1, .bool true, nt 2, nt 10, nt 0, nt 0]] (some 32) (by kernel_rfl) (by kernel_rfl) (by kernel_rfl) (by kernel_rfl) (by kernel_rfl) (vote_spec F47 F50 v8 l9 knS2 knX knC2 1 0 (Vt.mk 1 true 2 10 0 0) _ ho48 ho51 hdis53 (by first | decide | exact kn5)) ?_
 rintro _ w67 ⟨rfl, ⟨F69, F72, ho70, ho73, hfr71, hfr74, hdis75⟩, hk68⟩
 refine ⟨_, rfl, ?_⟩
 have hsz76 := Keep.size hk68
 replace hb14 := hb14.keep hk68 (fun hs => by rcases hs with hs | hs; (have u0 := own56 _ hs; have u1 := lt55 _ hs; omega); (have u0 := own58 _ hs; have u1 := lt57 _ hs; omega))
 replace hK0 := Keep.fresh hK0 hk68 (by intro i hi hs; first | exact hs | (rcases hs with hs | hs; (have u0 := own56 i hs; have u1 := lt55 i hs; omega); (have u0 := own58 i hs; have u1 := lt57 i hs; omega)))
 have own78 : ∀ q, F69 q → w1.heap.size ≤ q ∧ q ≠ b7 := fun q hq => by rcases hfr71 q hq with h | h; (have h1 := own56 q h; have h2 := lt55 q h; omega); omega
 have lt77 := VotT.lt ho70
 have own80 : ∀ q, F72 q → w1.heap.size ≤ q ∧ q ≠ b7 := fun q hq => by rcases hfr74 q hq with h | h; (have h1 := own58 q h; have h2 := lt57 q h; omega); omega
 have lt79 := Led.lt ho73
 replace ho70 : VotT F69 w67 v8 knS3 := by rw [show voteS knX knS2 1 0 (Vt.mk 1 true 2 10 0 0) = knS3 from rfl] at ho70; exact ho70
 replace ho73 : Led F72 w67 l9 knX knC3 := by rw [show voteC knX knC2 knS2 1 0 (Vt.mk 1 true 2 10 0 0) = knC3 from rfl] at ho73; exact ho73
 refine GI_pick [(1, pt b7), (2, nt 0), (3, nt 0), (32, nt (voteE knX knS2 1 0 (Vt.mk 1 true 2 10 0 0)))] (by kernel_rfl) ?_
 refine GI_eq [(1, pt b7), (2, nt 0), (3, nt 0), (32, nt 0)] (by rw [show voteE knX knS2 1 0 (Vt.mk 1 true 2 10 0 0) = 0 from kn3]) ?_
 refine GI_static [] [(1, pt b7), (2, nt 0), (3, nt 0), (4, nt 0)] (by kernel_rfl) ?_
 refine GI_end ?_
 refine X_then ?_
 refine V_seq ?_
 refine V_region ?_
 refine OI_static 10 [(39, .bool true), (42, .pointer (some ⟨b7, 1, none⟩))] (by kernel_rfl) ?_
 refine OI_cell 29 (.tmp 42) 1 (pt v8) (some 43) (by kernel_rfl) (by kernel_rfl) hb14 (m := 1) (by kernel_rfl) rfl ?_
 refine OI_call { callee := (Callee.value (Operand.func 13)), args := #[(Operand.tmp 43), (Operand.const (Value.int IntKind.i64 0))], argTypes := #[29, 3] } 13 #[pt v8, nt 0] (some 44) (by kernel_rfl) (by kernel_rfl) (by kernel_rfl) (tally_spec F69 v8 knS3 0 _ (ho70).1) ?_
 rintro _ w81 ⟨rfl, hk82⟩
 refine ⟨_, rfl, ?_⟩
 have hsz83 := Keep.size hk82
 replace hK0 := Keep.tr hK0 (Keep.ofNone hk82)
 replace ho70 := VotT.keep ho70 hk82 (fun _ _ f => f)
 replace ho73 := Led.keep ho73 hk82 (fun _ _ f => f)
 refine OI_pick [(39, .bool true), (44, .agg (Tly.cells (tallyT knS3 0)).toArray)] (by kernel_rfl) ?_
 refine OI_eq [(39, .bool true), (44, .agg #[nt 30, nt 0, nt 20])] (by rw [kn4]; rfl) ?_
 refine OI_static 13 [(39, .bool true), (44, .agg #[nt 30, nt 0, nt 20]), (45, .agg #[nt 30, nt 0, nt 20])] (by kernel_rfl) ?_
 refine OI_pure (some 46) ((Op.binOp BinOp.eql 43 (Operand.tmp 44) (Operand.tmp 45) 43)) (by kernel_rfl) (pure_eql_same (xs := [nt 30, nt 0, nt 20]) (by kernel_rfl) (by kernel_rfl) (by kernel_rfl) (by kernel_rfl)) ?_
 refine OI_static 16 [(0, .bool true)] (by kernel_rfl) ?_
 refine OI_end rfl ?_
 refine X_then ?_
 refine V_ret ?_
 exact X_return (.bool true) rfl ⟨rfl, hK0⟩
end Go.Al


namespace Go.Al
open Go Go.RowKit Go.Proofs
theorem w64_eq (x : Int) : w64 x = (x + 9223372036854775808) % 18446744073709551616 - 9223372036854775808 := by
  show IntKind.i64.wrap x = _
  rw [IntKind.wrap_i64]
theorem addT_sub (t g h : Tly) : addT (subT (addT t g) g) h = addT t h := by
  unfold subT addT negT
  simp only [w64_eq, Tly.mk.injEq]
  refine ⟨?_, ?_, ?_⟩ <;> omega
theorem raise_lt {cs : List Ci} {m : Nat} (h : cs.length < m) (a t n : Int) : (raiseC cs a t n).length < m + 1 := by have := raiseC_len cs a t n; omega
theorem votes1 {n : Int} (h1 : 0 ≤ n) (h2 : n ≤ 1073741824) : cvVotes n 1 = n := by
  unfold cvVotes
  rw [if_neg (by decide), w64_id (by omega) (by omega)]; omega
theorem gotW_zero {v c : Int} (h1 : -9223372036854775808 ≤ v ∧ v ≤ 9223372036854775807) (h2 : -9223372036854775808 ≤ c ∧ c ≤ 9223372036854775807) : gotW ⟨0, 0⟩ ⟨v, c⟩ = ⟨v, c⟩ := by
  unfold gotW
  simp only [Int.zero_add]
  rw [w64_id h1.1 h1.2, w64_id h2.1 h2.2]
/-! ### A vote that is cast anew -/
def twS1 : VS := openS VS.zero 0 0
end Go.Al


namespace Go.Al
open Go Go.RowKit Go.Proofs
theorem gets_one {s : VS} {a t : Int} {wt : Wgt} (r0 : RecS) (c : Int × Vt) (q : PollS) (h0 : s.rc a t = r0) (hv : vrow s a t = [c]) (hp : s.ps[c.1.toNat]? = some (some q)) (hq : q.state = 0) :
    getsS s a t wt = (s.setR a t { r0 with got := gotW r0.got wt }).setP c.1.toNat { q with t := addT (subT q.t (gainT c.2 r0.got)) (gainT c.2 (gotW r0.got wt)) } := by
  unfold getsS
  rw [h0, hv]
  show retally1 _ _ _ c = _
  unfold retally1
  show (match s.ps[c.1.toNat]? with | some (some q) => _ | _ => _) = _
  rw [hp]; dsimp only
  rw [if_pos hq]; rfl
theorem cv_bnd {n level B : Int} (h1 : 0 ≤ n) (h2 : n ≤ B) (hB : B ≤ 1073741824) (h3 : 0 ≤ level ∧ level ≤ 6) : 0 ≤ cvVotes n level ∧ cvVotes n level ≤ 6 * B := by
  unfold cvVotes
  have ht : Int.tdiv n 10 = n / 10 := Int.tdiv_eq_ediv_of_nonneg h1
  rcases (by omega : level = 0 ∨ level = 1 ∨ level = 2 ∨ level = 3 ∨ level = 4 ∨ level = 5 ∨ level = 6) with rfl | rfl | rfl | rfl | rfl | rfl | rfl
  · rw [if_pos rfl, ht, w64_id (by omega) (by omega)]; omega
  all_goals (rw [if_neg (by decide), w64_id (by omega) (by omega)]; omega)
end Go.Al


namespace Go.Al
open Go Go.RowKit Go.Proofs
/-! ### What is lent to one who splits -/
def spX : List Acc := newX [0, 1000, 1000] 10
def spV (a n s : Int) : Vt := ⟨3, false, 0, a, n, s⟩
def spA (a : Int) : Vt := ⟨1, true, 1, a, 0, 0⟩
def spG (a n s : Int) : Tly := addT Tly.zero (gainT (spV a n s) ⟨0, 0⟩)
def spS2 (a n s : Int) : VS := { twS1.setP 0 ⟨0, spG a n s, 0, 0⟩ with cs := [⟨1, 0, spV a n s⟩] }
def spS3 (a n s level lent : Int) : VS := ((spS2 a n s).setR 2 0 ⟨some ⟨1, level, lent⟩, ⟨0, 0⟩, 0, 0⟩).setR 1 0 ⟨none, ⟨cvVotes lent level, lent⟩, 0, 0⟩
def spS4 (a n s level lent : Int) : VS := { (spS3 a n s level lent).setP 0 ⟨0, addT Tly.zero (gainT (spA a) ⟨cvVotes lent level, lent⟩), 0, 0⟩ with cs := [⟨1, 0, spA a⟩] }
theorem sp0 : newX (msk24 ([0, 1000, 1000].take 10)) 10 = spX := by kernel_rfl
theorem spV_ok {a n s : Int} (ha : 0 ≤ a ∧ a ≤ 300) (hn : 0 ≤ n ∧ n ≤ 300) (hs : 0 ≤ s ∧ s ≤ 300) : okV (spV a n s) := ⟨by simp only [spV]; omega, .inr (.inr ⟨rfl, rfl, rfl⟩)⟩
theorem spA_ok {a : Int} (ha : 0 ≤ a ∧ a ≤ 1073741824) : okV (spA a) := ⟨by simp only [spA]; omega, .inl ⟨rfl, by show (0 : Int) ≤ 1; decide, by show (1 : Int) ≤ 6; decide, rfl, rfl⟩⟩
theorem sp2 {a n s : Int} (ha : 0 ≤ a ∧ a ≤ 300) (hn : 0 ≤ n ∧ n ≤ 300) (hs : 0 ≤ s ∧ s ≤ 300) : voteE spX twS1 1 0 (spV a n s) = 0 ∧ voteS spX twS1 1 0 (spV a n s) = spS2 a n s ∧ ∀ cs, voteC spX cs twS1 1 0 (spV a n s) = raiseC cs 1 0 (capI (spV a n s)) := by
  have hok := spV_ok ha hn hs
  have hc := (capI_ok hok).1
  obtain ⟨g1, g2, g3⟩ := vote_go (xs := spX) (s := twS1) (who := 1) (ref := 0) (x := spV a n s) (q := ⟨0, Tly.zero, 0, 0⟩) (by decide) hok (by kernel_rfl) rfl (by kernel_rfl) (by rw [hc, show (acct spX 1).free = 1000 by kernel_rfl]; simp only [spV]; omega) (.inr (by rw [show vrow twS1 1 0 = [] by kernel_rfl]; decide))
  exact ⟨g1, by rw [g2]; kernel_rfl, g3⟩
theorem sp3 {a n s level lent : Int} (hl : 0 ≤ level ∧ level ≤ 6) (hn : 0 ≤ lent ∧ lent ≤ 1000) : delE spX (spS2 a n s) 2 0 1 level lent = 0 ∧ delS spX (spS2 a n s) 2 0 1 level lent = spS3 a n s level lent ∧ ∀ cs, delC2 spX cs (spS2 a n s) 2 0 1 level lent = raiseC cs 2 0 lent := by
  have hb := cv_bnd hn.1 hn.2 (by decide) hl
  obtain ⟨g1, g2, g3⟩ := del_go (xs := spX) (s := spS2 a n s) (who := 2) (t := 0) (to := 1) (level := level) (n := lent) (by decide) (by decide) (by decide) hl ⟨hn.1, by omega⟩ (by decide) (by kernel_rfl) (by kernel_rfl) (by rw [show (acct spX 2).free = 1000 by kernel_rfl]; exact hn.2)
  refine ⟨g1, ?_, g3⟩
  rw [g2, gets_one RecS.zero (0, spV a n s) ⟨0, spG a n s, 0, 0⟩ (by kernel_rfl) (by kernel_rfl) (by kernel_rfl) rfl, show RecS.zero.got = ⟨0, 0⟩ from rfl, gotW_zero (by omega) (by omega)]
  rw [show gainT (spV a n s) ⟨cvVotes lent level, lent⟩ = gainT (spV a n s) ⟨0, 0⟩ by kernel_rfl]
  show VS.setP _ _ { (⟨0, spG a n s, 0, 0⟩ : PollS) with t := addT (subT (addT Tly.zero (gainT (spV a n s) ⟨0, 0⟩)) (gainT (spV a n s) ⟨0, 0⟩)) (gainT (spV a n s) ⟨0, 0⟩) } = _
  rw [addT_sub]; kernel_rfl
theorem sp4 {a n s level lent : Int} (ha : 0 ≤ a ∧ a ≤ 300) : voteE spX (spS3 a n s level lent) 1 0 (spA a) = 0 ∧ voteS spX (spS3 a n s level lent) 1 0 (spA a) = spS4 a n s level lent ∧ ∀ cs, voteC spX cs (spS3 a n s level lent) 1 0 (spA a) = raiseC cs 1 0 (capI (spA a)) := by
  have hok := spA_ok (a := a) ⟨ha.1, by omega⟩
  have hc := (capI_ok hok).1
  obtain ⟨g1, g2, g3⟩ := vote_go (xs := spX) (s := spS3 a n s level lent) (who := 1) (ref := 0) (x := spA a) (q := ⟨0, spG a n s, 0, 0⟩) (by decide) hok (by kernel_rfl) rfl (by kernel_rfl) (by rw [hc, show (acct spX 1).free = 1000 by kernel_rfl]; simp only [spA]; omega) (.inl (by kernel_rfl))
  refine ⟨g1, ?_, g3⟩
  rw [g2, show voteT (spS3 a n s level lent) 1 0 (spA a) ⟨0, spG a n s, 0, 0⟩ = addT (subT (addT Tly.zero (gainT (spV a n s) ⟨0, 0⟩)) (gainT (spV a n s) ⟨0, 0⟩)) (gainT (spA a) ⟨cvVotes lent level, lent⟩) by kernel_rfl, addT_sub]
  kernel_rfl
theorem w64_0 (x : Int) : w64 (0 + w64 x) = w64 x := by simp only [w64_eq]; omega
theorem sp5 {a n s level lent : Int} (ha : 0 ≤ a ∧ a ≤ 300) (hs : 0 ≤ s ∧ s ≤ 300) : tallyT (spS3 a n s level lent) 0 = ⟨w64 (Int.tdiv a 10), w64 (Int.tdiv n 10), a + s⟩ := by
  rw [show tallyT (spS3 a n s level lent) 0 = ⟨w64 (0 + w64 (Int.tdiv a 10)), w64 (0 + w64 (Int.tdiv n 10)), w64 (0 + w64 (a + s))⟩ by kernel_rfl, w64_0, w64_0, w64_0, w64_id (x := a + s) (by omega) (by omega)]
theorem sp6 {a n s level lent : Int} (ha : 0 ≤ a ∧ a ≤ 300) (hl : 0 ≤ level ∧ level ≤ 6) (hn : 0 ≤ lent ∧ lent ≤ 1000) : tallyT (spS4 a n s level lent) 0 = ⟨a + cvVotes lent level, 0, a + lent⟩ := by
  have hb := cv_bnd hn.1 hn.2 (by decide) hl
  rw [show tallyT (spS4 a n s level lent) 0 = ⟨w64 (0 + w64 (cvVotes a 1 + cvVotes lent level)), w64 (0 + 0), w64 (0 + w64 (a + lent))⟩ by kernel_rfl, w64_0, w64_0, votes1 ha.1 (by omega), w64_id (x := a + cvVotes lent level) (by omega) (by omega), w64_id (x := a + lent) (by omega) (by omega)]
  rfl
end Go.Al


namespace Go.Al
open Go Go.RowKit Go.Proofs
set_option maxRecDepth 10000 in
set_option maxHeartbeats 1000000 in
theorem walk_VotingSplits (a n s lent level : Int) (w : World) : Calls Try.prog 4 #[.int .i64 a, .int .i64 n, .int .i64 s, .int .i64 lent, .int .i64 level] w fun e w' => e = .returned (.bool true) ∧ Keep none_ w w' := by
 have hK0 : Keep none_ w w := Keep.refl _ _
 have hzhK0 := Keep.size hK0
 refine enterV Try.func4 rfl [nt a, nt n, nt s, nt lent, nt level] 141 rfl rfl rfl ?_
 refine V_pick [(0, nt a), (1, nt n), (2, nt s), (3, nt lent), (4, nt level)] rfl ?_
 refine V_seq ?_
 refine V_region ?_
 refine OI_static 1 [(0, nt a), (1, nt n), (2, nt s), (3, nt lent), (4, nt level)] (by kernel_rfl) ?_
 refine OI_end rfl ?_
 refine X_then ?_
 refine V_seq ?_
 refine V_seq ?_
 refine V_region ?_
 refine OI_static 3 [(0, nt a), (1, nt n), (2, nt s), (3, nt lent), (4, nt level), (18, .bool (decide (a < 0)))] (by kernel_rfl) ?_
 by_cases hg1 : a < 0
 ·
  refine OI_eq [(0, nt a), (1, nt n), (2, nt s), (3, nt lent), (4, nt level), (18, .bool true)] (by first | simp [hg1] | rfl) ?_
  refine OI_static 38 [(0, nt a), (1, nt n), (2, nt s), (3, nt lent), (4, nt level), (53, .bool true)] (by kernel_rfl) ?_
  refine OI_end rfl ?_
  refine X_then ?_
  refine V_true rfl ?_
  refine V_seq ?_
  refine V_region ?_
  refine OI_static 1 [(10, .bool true)] (by kernel_rfl) ?_
  refine OI_end rfl ?_
  refine X_then ?_
  refine V_ret ?_
  refine X_ret_then ?_
  exact X_return (.bool true) rfl ⟨rfl, hK0⟩
 ·
  refine OI_eq [(0, nt a), (1, nt n), (2, nt s), (3, nt lent), (4, nt level), (18, .bool false)] (by first | simp [hg1] | rfl) ?_
  refine OI_static 7 [(0, nt a), (1, nt n), (2, nt s), (3, nt lent), (4, nt level), (22, .bool (decide (a > 300)))] (by kernel_rfl) ?_
  by_cases hg2 : a > 300
  ·
   refine OI_eq [(0, nt a), (1, nt n), (2, nt s), (3, nt lent), (4, nt level), (22, .bool true)] (by first | simp [hg2] | rfl) ?_
   refine OI_static 38 [(0, nt a), (1, nt n), (2, nt s), (3, nt lent), (4, nt level), (53, .bool true)] (by kernel_rfl) ?_
   refine OI_end rfl ?_
   refine X_then ?_
   refine V_true rfl ?_
   refine V_seq ?_
   refine V_region ?_
   refine OI_static 1 [(10, .bool true)] (by kernel_rfl) ?_
   refine OI_end rfl ?_
   refine X_then ?_
   refine V_ret ?_
   refine X_ret_then ?_
   exact X_return (.bool true) rfl ⟨rfl, hK0⟩
  ·
   refine OI_eq [(0, nt a), (1, nt n), (2, nt s), (3, nt lent), (4, nt level), (22, .bool false)] (by first | simp [hg2] | rfl) ?_
   refine OI_static 11 [(0, nt a), (1, nt n), (2, nt s), (3, nt lent), (4, nt level), (26, .bool (decide (n < 0)))] (by kernel_rfl) ?_
   by_cases hg3 : n < 0
   ·
    refine OI_eq [(0, nt a), (1, nt n), (2, nt s), (3, nt lent), (4, nt level), (26, .bool true)] (by first | simp [hg3] | rfl) ?_
    refine OI_static 38 [(0, nt a), (1, nt n), (2, nt s), (3, nt lent), (4, nt level), (53, .bool true)] (by kernel_rfl) ?_
    refine OI_end rfl ?_
    refine X_then ?_
    refine V_true rfl ?_
    refine V_seq ?_
    refine V_region ?_
    refine OI_static 1 [(10, .bool true)] (by kernel_rfl) ?_
    refine OI_end rfl ?_
    refine X_then ?_
    refine V_ret ?_
    refine X_ret_then ?_
    exact X_return (.bool true) rfl ⟨rfl, hK0⟩
   ·
    refine OI_eq [(0, nt a), (1, nt n), (2, nt s), (3, nt lent), (4, nt level), (26, .bool false)] (by first | simp [hg3] | rfl) ?_
    refine OI_static 15 [(0, nt a), (1, nt n), (2, nt s), (3, nt lent), (4, nt level), (30, .bool (decide (n > 300)))] (by kernel_rfl) ?_
    by_cases hg4 : n > 300
    ·
     refine OI_eq [(0, nt a), (1, nt n), (2, nt s), (3, nt lent), (4, nt level), (30, .bool true)] (by first | simp [hg4] | rfl) ?_
     refine OI_static 38 [(0, nt a), (1, nt n), (2, nt s), (3, nt lent), (4, nt level), (53, .bool true)] (by kernel_rfl) ?_
     refine OI_end rfl ?_
     refine X_then ?_
     refine V_true rfl ?_
     refine V_seq ?_
     refine V_region ?_
     refine OI_static 1 [(10, .bool true)] (by kernel_rfl) ?_
     refine OI_end rfl ?_
     refine X_then ?_
     refine V_ret ?_
     refine X_ret_then ?_
     exact X_return (.bool true) rfl ⟨rfl, hK0⟩
    ·
     refine OI_eq [(0, nt a), (1, nt n), (2, nt s), (3, nt lent), (4, nt level), (30, .bool false)] (by first | simp [hg4] | rfl) ?_
     refine OI_static 19 [(0, nt a), (1, nt n), (2, nt s), (3, nt lent), (4, nt level), (34, .bool (decide (s < 0)))] (by kernel_rfl) ?_
     by_cases hg5 : s < 0
     ·
      refine OI_eq [(0, nt a), (1, nt n), (2, nt s), (3, nt lent), (4, nt level), (34, .bool true)] (by first | simp [hg5] | rfl) ?_
      refine OI_static 38 [(0, nt a), (1, nt n), (2, nt s), (3, nt lent), (4, nt level), (53, .bool true)] (by kernel_rfl) ?_
      refine OI_end rfl ?_
      refine X_then ?_
      refine V_true rfl ?_
      refine V_seq ?_
      refine V_region ?_
      refine OI_static 1 [(10, .bool true)] (by kernel_rfl) ?_
      refine OI_end rfl ?_
      refine X_then ?_
      refine V_ret ?_
      refine X_ret_then ?_
      exact X_return (.bool true) rfl ⟨rfl, hK0⟩
     ·
      refine OI_eq [(0, nt a), (1, nt n), (2, nt s), (3, nt lent), (4, nt level), (34, .bool false)] (by first | simp [hg5] | rfl) ?_
      refine OI_static 23 [(0, nt a), (1, nt n), (2, nt s), (3, nt lent), (4, nt level), (38, .bool (decide (s > 300)))] (by kernel_rfl) ?_
      by_cases hg6 : s > 300
      ·
       refine OI_eq [(0, nt a), (1, nt n), (2, nt s), (3, nt lent), (4, nt level), (38, .bool true)] (by first | simp [hg6] | rfl) ?_
       refine OI_static 38 [(0, nt a), (1, nt n), (2, nt s), (3, nt lent), (4, nt level), (53, .bool true)] (by kernel_rfl) ?_
       refine OI_end rfl ?_
       refine X_then ?_
       refine V_true rfl ?_
       refine V_seq ?_
       refine V_region ?_
       refine OI_static 1 [(10, .bool true)] (by kernel_rfl) ?_
       refine OI_end rfl ?_
       refine X_then ?_
       refine V_ret ?_
       refine X_ret_then ?_
       exact X_return (.bool true) rfl ⟨rfl, hK0⟩
      ·
       refine OI_eq [(0, nt a), (1, nt n), (2, nt s), (3, nt lent), (4, nt level), (38, .bool false)] (by first | simp [hg6] | rfl) ?_
       refine OI_static 27 [(0, nt a), (1, nt n), (2, nt s), (3, nt lent), (4, nt level), (42, .bool (decide (lent < 0)))] (by kernel_rfl) ?_
       by_cases hg7 : lent < 0
       ·
        refine OI_eq [(0, nt a), (1, nt n), (2, nt s), (3, nt lent), (4, nt level), (42, .bool true)] (by first | simp [hg7] | rfl) ?_
        refine OI_static 38 [(0, nt a), (1, nt n), (2, nt s), (3, nt lent), (4, nt level), (53, .bool true)] (by kernel_rfl) ?_
        refine OI_end rfl ?_
        refine X_then ?_
        refine V_true rfl ?_
        refine V_seq ?_
        refine V_region ?_
        refine OI_static 1 [(10, .bool true)] (by kernel_rfl) ?_
        refine OI_end rfl ?_
        refine X_then ?_
        refine V_ret ?_
        refine X_ret_then ?_
        exact X_return (.bool true) rfl ⟨rfl, hK0⟩
       ·
        refine OI_eq [(0, nt a), (1, nt n), (2, nt s), (3, nt lent), (4, nt level), (42, .bool false)] (by first | simp [hg7] | rfl) ?_
        refine OI_static 31 [(0, nt a), (1, nt n), (2, nt s), (3, nt lent), (4, nt level), (46, .bool (decide (lent > 1000)))] (by kernel_rfl) ?_
        by_cases hg8 : lent > 1000
        ·
         refine OI_eq [(0, nt a), (1, nt n), (2, nt s), (3, nt lent), (4, nt level), (46, .bool true)] (by first | simp [hg8] | rfl) ?_
         refine OI_static 38 [(0, nt a), (1, nt n), (2, nt s), (3, nt lent), (4, nt level), (53, .bool true)] (by kernel_rfl) ?_
         refine OI_end rfl ?_
         refine X_then ?_
         refine V_true rfl ?_
         refine V_seq ?_
         refine V_region ?_
         refine OI_static 1 [(10, .bool true)] (by kernel_rfl) ?_
         refine OI_end rfl ?_
         refine X_then ?_
         refine V_ret ?_
         refine X_ret_then ?_
         exact X_return (.bool true) rfl ⟨rfl, hK0⟩
        ·
         refine OI_eq [(0, nt a), (1, nt n), (2, nt s), (3, nt lent), (4, nt level), (46, .bool false)] (by first | simp [hg8] | rfl) ?_
         refine OI_static 35 [(0, nt a), (1, nt n), (2, nt s), (3, nt lent), (4, nt level), (50, .bool (decide (level < 0)))] (by kernel_rfl) ?_
         by_cases hg9 : level < 0
         ·
          refine OI_eq [(0, nt a), (1, nt n), (2, nt s), (3, nt lent), (4, nt level), (50, .bool true)] (by first | simp [hg9] | rfl) ?_
          refine OI_static 38 [(0, nt a), (1, nt n), (2, nt s), (3, nt lent), (4, nt level), (53, .bool true)] (by kernel_rfl) ?_
          refine OI_end rfl ?_
          refine X_then ?_
          refine V_true rfl ?_
          refine V_seq ?_
          refine V_region ?_
          refine OI_static 1 [(10, .bool true)] (by kernel_rfl) ?_
          refine OI_end rfl ?_
          refine X_then ?_
          refine V_ret ?_
          refine X_ret_then ?_
          exact X_return (.bool true) rfl ⟨rfl, hK0⟩
         ·
          refine OI_eq [(0, nt a), (1, nt n), (2, nt s), (3, nt lent), (4, nt level), (50, .bool false)] (by first | simp [hg9] | rfl) ?_
          refine OI_static 38 [(0, nt a), (1, nt n), (2, nt s), (3, nt lent), (4, nt level), (53, .bool (decide (level > 6)))] (by kernel_rfl) ?_
          refine OI_end rfl ?_
          refine X_then ?_
          refine V_if (level > 6) (by kernel_rfl) (fun hc10 => ?_) (fun hc10 => ?_)
          ·
           refine V_seq ?_
           refine V_region ?_
           refine OI_static 1 [(10, .bool true)] (by kernel_rfl) ?_
           refine OI_end rfl ?_
           refine X_then ?_
           refine V_ret ?_
           refine X_ret_then ?_
           exact X_return (.bool true) rfl ⟨rfl, hK0⟩
          ·
           refine V_skip ?_
           refine X_then ?_
           refine V_seq ?_
           refine V_region ?_
           refine OI_slit (E := 3) (zv := nt 0) (sz := 1) (by_ := 8) 24 3 #[(0, (Operand.const (Value.int IntKind.i64 0))), (1, (Operand.const (Value.int IntKind.i64 1000))), (2, (Operand.const (Value.int IntKind.i64 1000)))] [nt 0, nt 1000, nt 1000] [nt 0, nt 1000, nt 1000] (some 54) (by kernel_rfl) (by kernel_rfl) (by kernel_rfl) (by omega) rfl (by omega) (by intro v hv; simp only [List.mem_cons, List.not_mem_nil, or_false] at hv; rcases hv with rfl | rfl | rfl <;> rfl) (by kernel_rfl) rfl ?_
           intro b11 w11 e11 hb11 k11 z11
           have hsz12 := Keep.size k11
           replace hK0 := Keep.tr hK0 (Keep.ofNone k11)
           have hb11lt := hb11.lt
           refine OI_call { callee := (Callee.value (Operand.func 7)), args := #[(Operand.tmp 54)], argTypes := #[24] } 7 #[.slice (some ⟨b11, 0, none⟩) 3 3] (some 55) (by kernel_rfl) (by kernel_rfl) (by kernel_rfl) (begin_weak (some ⟨b11, 0, none⟩) 3 [0, 1000, 1000] _ (slt_blk (xs := [0, 1000, 1000]) (f := intc) hb11 (fun _ => rfl) rfl).arg (by simp)) ?_
           rintro _ w15 ⟨b17, v18, l19, F20, G21, xv22, yv23, rfl, hb24, ho25, hl26, hk16, hge27, hF28, hG29, hd30⟩
           refine ⟨_, rfl, ?_⟩
           have hsz31 := Keep.size hk16
           replace hb11 := hb11.keep hk16 (fun f => f)
           replace hK0 := Keep.tr hK0 (Keep.ofNone hk16)
           have hb17lt := hb24.lt
           have own32 : ∀ q, F20 q → w11.heap.size ≤ q ∧ q ≠ b11 ∧ q ≠ b17 := fun q hq => by have h1 := hF28 q hq; omega
           have lt33 := VotT.lt ho25
           have hb17lt := hb24.lt
           have own34 : ∀ q, G21 q → w11.heap.size ≤ q ∧ q ≠ b11 ∧ q ≠ b17 := fun q hq => by have h1 := hG29 q hq; omega
           have lt35 := Led.lt hl26
           replace hl26 : Led G21 w15 l19 spX ([] : List Ci) := by rw [sp0] at hl26; exact hl26
           refine OI_static 3 [(0, nt a), (1, nt n), (2, nt s), (3, nt lent), (4, nt level), (11, pt b17)] (by kernel_rfl) ?_
           refine OI_end rfl ?_
           refine X_then ?_
           refine V_seq ?_
           refine V_seq ?_
           refine V_region ?_
           refine OI_static 2 [(0, nt a), (1, nt n), (2, nt s), (3, nt lent), (4, nt level), (11, pt b17), (57, .bool false)] (by kernel_rfl) ?_
           refine OI_end rfl ?_
           refine X_then ?_
           refine V_false rfl ?_
           refine V_skip ?_
           refine X_then ?_
           refine V_seq ?_
           refine V_region ?_
           refine OI_static 3 [(0, nt a), (1, nt n), (2, nt s), (3, nt lent), (4, nt level), (11, pt b17), (60, .pointer (some ⟨b17, 1, none⟩))] (by kernel_rfl) ?_
           refine OI_cell 29 (.tmp 60) 1 (pt v18) (some 61) (by kernel_rfl) (by kernel_rfl) hb24 (m := 1) (by kernel_rfl) rfl ?_
           refine OI_call { callee := (Callee.value (Operand.func 8)), args := #[(Operand.tmp 61), (Operand.const (Value.int IntKind.i64 0)), (Operand.const (Value.int IntKind.i64 0))], argTypes := #[29, 3, 3] } 8 #[pt v18, nt 0, nt 0] (some 62) (by kernel_rfl) (by kernel_rfl) (by kernel_rfl) (open_specT F20 v18 VS.zero 0 0 _ ho25) ?_
           rintro _ w38 ⟨rfl, ⟨F40, ho41, hfr42⟩, hk39⟩
           refine ⟨_, rfl, ?_⟩
           have hsz43 := Keep.size hk39
           replace hb24 := hb24.keep hk39 (fun hs => by have h1 := own32 _ hs; have h2 := lt33 _ hs; omega)
           replace hK0 := Keep.fresh hK0 hk39 (by intro i hi hs; first | exact hs | (exfalso; have h1 := own32 i hs; have h2 := lt33 i hs; omega) | (have h1 := own32 i hs; have h2 := lt33 i hs; show _ ∨ _; omega))
           replace hl26 := Led.keep hl26 hk39 (fun q hq hs => hd30 q hs hq)
           have own45 : ∀ q, F40 q → w11.heap.size ≤ q ∧ q ≠ b17 := fun q hq => by rcases hfr42 q hq with h | h; (have h1 := own32 q h; have h2 := lt33 q h; omega); omega
           have lt44 := VotT.lt ho41
           have dis46 : ∀ q, F40 q → ¬ G21 q := fun q h1 h2 => by rcases hfr42 q h1 with h | h; exact hd30 q h h2; (have h4 := lt35 q h2; omega)
           replace ho41 : VotT F40 w38 v18 twS1 := by rw [show openS VS.zero 0 0 = twS1 from rfl] at ho41; exact ho41
           refine OI_end rfl ?_
           refine X_then ?_
           refine V_seq ?_
           refine V_draws (acts [12]) none_ [[0, 1, 2, 3, 4, 5, 6, 7, 8, 9, 10, 11, 12, 13]] (by kernel_rfl) (by repeat first | exact sure_body (by rintro _ _ ⟨h, _⟩; exact ⟨_, h⟩) | refine sure_then ?_ | refine sure_block ?_ | refine sure_join ?_) (by kernel_rfl) ?_
           intro w48 hk47 he49 L hL50
           have hsz51 := Keep.size hk47
           replace hb24 := hb24.keep hk47 (fun f => f)
           replace hK0 := Keep.tr hK0 (Keep.ofNone hk47)
           replace hl26 := Led.keep hl26 hk47 (fun _ _ f => f)
           replace ho41 := VotT.keep ho41 hk47 (fun _ _ f => f)
           have qhb24 := hb24
           have K52 : Keep none_ w48 w48 := Keep.refl _ _
           obtain rfl := List.mem_singleton.1 hL50
           refine GI_static [3, 4, 5, 6, 7, 8, 9, 10, 11, 12, 13] [(0, nt a), (1, nt n), (2, nt s), (3, nt lent), (4, nt level), (11, pt b17), (65, .pointer (some ⟨b17, 1, none⟩))] (by kernel_rfl) ?_
           refine GI_cell 29 (.tmp 65) 1 (pt v18) (some 66) (by kernel_rfl) (by kernel_rfl) (by kernel_rfl) qhb24 (fun f => f) (m := 1) (by kernel_rfl) rfl ?_
           refine GI_static [7, 8, 9, 10, 11, 12, 13] [(0, nt a), (1, nt n), (2, nt s), (3, nt lent), (4, nt level), (11, pt b17), (66, pt v18), (69, pt b17)] (by kernel_rfl) ?_
           refine GI_cell 28 (.tmp 69) 0 (pt l19) (some 70) (by kernel_rfl) (by kernel_rfl) (by kernel_rfl) qhb24 (fun f => f) (m := 1) (by kernel_rfl) rfl ?_
           refine GI_static [12, 13] [(0, nt a), (1, nt n), (2, nt s), (3, nt lent), (4, nt level), (11, pt b17), (66, pt v18), (70, pt l19), (74, .agg #[nt 3, .bool false, nt 0, nt a, nt n, nt s])] (by kernel_rfl) ?_
           obtain ⟨s2a, s2b, s2c⟩ := sp2 (a := a) (n := n) (s := s) (by omega) (by omega) (by omega)
           refine GI_call0 { callee := (Callee.value (Operand.func 9)), args := #[(Operand.tmp 66), (Operand.tmp 70), (Operand.const (Value.int IntKind.i64 1)), (Operand.const (Value.int IntKind.i64 0)), (Operand.tmp 74)], argTypes := #[29, 28, 3, 3, 26] } 9 #[pt v18, pt l19, nt 1, nt 0, .agg #[nt 3, .bool false, nt 0, nt a, nt n, nt s]] (some 75) (by kernel_rfl) (by kernel_rfl) (by kernel_rfl) (by kernel_rfl) (by kernel_rfl) (vote_spec F40 G21 v18 l19 twS1 spX ([] : List Ci) 1 0 (Vt.mk 3 false 0 a n s) _ ho41 hl26 dis46 (by first | decide | exact Nat.lt_trans (raise_lt (m := 1) (by decide) _ _ _) (by decide) | exact Nat.lt_trans (raise_lt (raise_lt (m := 1) (by decide) _ _ _) _ _ _) (by decide) | exact Nat.lt_trans (raise_lt (raise_lt (raise_lt (m := 1) (by decide) _ _ _) _ _ _) _ _ _) (by decide) | exact Nat.lt_trans (raise_lt (raise_lt (raise_lt (raise_lt (m := 1) (by decide) _ _ _) _ _ _) _ _ _) _ _ _) (by decide))) ?_
           rintro _ w55 ⟨rfl, ⟨F57, F60, ho58, ho61, hfr59, hfr62, hdis63⟩, hk56⟩
           refine ⟨_, rfl, ?_⟩
           have hsz64 := Keep.size hk56
           replace hb24 := hb24.keep hk56 (fun hs => by rcases hs with hs | hs; (have u0 := own45 _ hs; have u1 := lt44 _ hs; omega); (have u0 := own34 _ hs; have u1 := lt35 _ hs; omega))
           replace hK0 := Keep.fresh hK0 hk56 (by intro i hi hs; first | exact hs | (rcases hs with hs | hs; (have u0 := own45 i hs; have u1 := lt44 i hs; omega); (have u0 := own34 i hs; have u1 := lt35 i hs; omega)))
           have own66 : ∀ q, F57 q → w11.heap.size ≤ q ∧ q ≠ b17 := fun q hq => by rcases hfr59 q hq with h | h; (have h1 := own45 q h; have h2 := lt44 q h; omega); omega
           have lt65 := VotT.lt ho58
           have own68 : ∀ q, F60 q → w11.heap.size ≤ q ∧ q ≠ b17 := fun q hq => by rcases hfr62 q hq with h | h; (have h1 := own34 q h; have h2 := lt35 q h; omega); omega
           have lt67 := Led.lt ho61
           replace ho58 : VotT F57 w55 v18 (spS2 a n s) := by rw [show voteS spX twS1 1 0 (Vt.mk 3 false 0 a n s) = spS2 a n s from s2b] at ho58; exact ho58
           replace ho61 : Led F60 w55 l19 spX (raiseC ([] : List Ci) 1 0 (capI (spV a n s))) := by rw [show voteC spX ([] : List Ci) twS1 1 0 (Vt.mk 3 false 0 a n s) = raiseC [] 1 0 (capI (spV a n s)) from s2c _] at ho61; exact ho61
           refine GI_pick [(0, nt a), (1, nt n), (2, nt s), (3, nt lent), (4, nt level), (11, pt b17), (75, nt (voteE spX twS1 1 0 (Vt.mk 3 false 0 a n s)))] (by kernel_rfl) ?_
           refine GI_eq [(0, nt a), (1, nt n), (2, nt s), (3, nt lent), (4, nt level), (11, pt b17), (75, nt 0)] (by rw [show voteE spX twS1 1 0 (Vt.mk 3 false 0 a n s) = 0 from s2a]) ?_
           refine GI_static [] [(0, nt a), (1, nt n), (2, nt s), (3, nt lent), (4, nt level), (11, pt b17), (12, nt 0)] (by kernel_rfl) ?_
           refine GI_end ?_
           refine X_then ?_
           refine V_seq ?_
           refine V_draws (acts [10]) none_ [[0, 1, 2, 3, 4, 5, 6, 7, 8, 9, 10, 11]] (by kernel_rfl) (by repeat first | exact sure_body (by rintro _ _ ⟨h, _⟩; exact ⟨_, h⟩) | refine sure_then ?_ | refine sure_block ?_ | refine sure_join ?_) (by kernel_rfl) ?_
           intro w70 hk69 he71 L hL72
           have hsz73 := Keep.size hk69
           replace hb24 := hb24.keep hk69 (fun f => f)
           replace hK0 := Keep.tr hK0 (Keep.ofNone hk69)
           replace ho58 := VotT.keep ho58 hk69 (fun _ _ f => f)
           replace ho61 := Led.keep ho61 hk69 (fun _ _ f => f)
           have qhb24 := hb24
           have K74 : Keep none_ w70 w70 := Keep.refl _ _
           obtain rfl := List.mem_singleton.1 hL72
           refine GI_static [3, 4, 5, 6, 7, 8, 9, 10, 11] [(0, nt a), (1, nt n), (2, nt s), (3, nt lent), (4, nt level), (11, pt b17), (12, nt 0), (78, .pointer (some ⟨b17, 1, none⟩))] (by kernel_rfl) ?_
           refine GI_cell 29 (.tmp 78) 1 (pt v18) (some 79) (by kernel_rfl) (by kernel_rfl) (by kernel_rfl) qhb24 (fun f => f) (m := 1) (by kernel_rfl) rfl ?_
           refine GI_static [7, 8, 9, 10, 11] [(0, nt a), (1, nt n), (2, nt s), (3, nt lent), (4, nt level), (11, pt b17), (12, nt 0), (79, pt v18), (82, pt b17)] (by kernel_rfl) ?_
           refine GI_cell 28 (.tmp 82) 0 (pt l19) (some 83) (by kernel_rfl) (by kernel_rfl) (by kernel_rfl) qhb24 (fun f => f) (m := 1) (by kernel_rfl) rfl ?_
           refine GI_static [10, 11] [(0, nt a), (1, nt n), (2, nt s), (3, nt lent), (4, nt level), (11, pt b17), (12, nt 0), (79, pt v18), (83, pt l19), (84, nt level), (85, nt lent)] (by kernel_rfl) ?_
           obtain ⟨s3a, s3b, s3c⟩ := sp3 (a := a) (n := n) (s := s) (level := level) (lent := lent) (by omega) (by omega)
           refine GI_call0 { callee := (Callee.value (Operand.func 12)), args := #[(Operand.tmp 79), (Operand.tmp 83), (Operand.const (Value.int IntKind.i64 2)), (Operand.const (Value.int IntKind.i64 0)), (Operand.const (Value.int IntKind.i64 1)), (Operand.tmp 84), (Operand.tmp 85)], argTypes := #[29, 28, 3, 3, 3, 3, 3] } 12 #[pt v18, pt l19, nt 2, nt 0, nt 1, nt level, nt lent] (some 86) (by kernel_rfl) (by kernel_rfl) (by kernel_rfl) (by kernel_rfl) (by kernel_rfl) (delegate_spec F57 F60 v18 l19 (spS2 a n s) spX (raiseC ([] : List Ci) 1 0 (capI (spV a n s))) 2 0 1 level lent _ ho58 ho61 hdis63 (by first | decide | exact Nat.lt_trans (raise_lt (m := 1) (by decide) _ _ _) (by decide) | exact Nat.lt_trans (raise_lt (raise_lt (m := 1) (by decide) _ _ _) _ _ _) (by decide) | exact Nat.lt_trans (raise_lt (raise_lt (raise_lt (m := 1) (by decide) _ _ _) _ _ _) _ _ _) (by decide) | exact Nat.lt_trans (raise_lt (raise_lt (raise_lt (raise_lt (m := 1) (by decide) _ _ _) _ _ _) _ _ _) _ _ _) (by decide))) ?_
           rintro _ w77 ⟨rfl, ⟨F79, F82, ho80, ho83, hfr81, hfr84, hdis85⟩, hk78⟩
           refine ⟨_, rfl, ?_⟩
           have hsz86 := Keep.size hk78
           replace hb24 := hb24.keep hk78 (fun hs => by rcases hs with hs | hs; (have u0 := own66 _ hs; have u1 := lt65 _ hs; omega); (have u0 := own68 _ hs; have u1 := lt67 _ hs; omega))
           replace hK0 := Keep.fresh hK0 hk78 (by intro i hi hs; first | exact hs | (rcases hs with hs | hs; (have u0 := own66 i hs; have u1 := lt65 i hs; omega); (have u0 := own68 i hs; have u1 := lt67 i hs; omega)))
           have own88 : ∀ q, F79 q → w11.heap.size ≤ q ∧ q ≠ b17 := fun q hq => by rcases hfr81 q hq with h | h; (have h1 := own66 q h; have h2 := lt65 q h; omega); omega
           have lt87 := VotT.lt ho80
           have own90 : ∀ q, F82 q → w11.heap.size ≤ q ∧ q ≠ b17 := fun q hq => by rcases hfr84 q hq with h | h; (have h1 := own68 q h; have h2 := lt67 q h; omega); omega
           have lt89 := Led.lt ho83
           replace ho80 : VotT F79 w77 v18 (spS3 a n s level lent) := by rw [s3b] at ho80; exact ho80
           replace ho83 : Led F82 w77 l19 spX (raiseC (raiseC ([] : List Ci) 1 0 (capI (spV a n s))) 2 0 lent) := by rw [s3c _] at ho83; exact ho83
           refine GI_pick [(0, nt a), (1, nt n), (2, nt s), (3, nt lent), (4, nt level), (11, pt b17), (12, nt 0), (86, nt (delE spX (spS2 a n s) 2 0 1 level lent))] (by kernel_rfl) ?_
           refine GI_eq [(0, nt a), (1, nt n), (2, nt s), (3, nt lent), (4, nt level), (11, pt b17), (12, nt 0), (86, nt 0)] (by rw [s3a]) ?_
           refine GI_static [] [(0, nt a), (1, nt n), (2, nt s), (3, nt lent), (4, nt level), (11, pt b17), (12, nt 0), (13, nt 0)] (by kernel_rfl) ?_
           refine GI_end ?_
           refine X_then ?_
           refine V_seq ?_
           refine V_region ?_
           refine OI_static 3 [(0, nt a), (1, nt n), (2, nt s), (3, nt lent), (4, nt level), (11, pt b17), (12, nt 0), (13, nt 0), (89, .pointer (some ⟨b17, 1, none⟩))] (by kernel_rfl) ?_
           refine OI_cell 29 (.tmp 89) 1 (pt v18) (some 90) (by kernel_rfl) (by kernel_rfl) hb24 (m := 1) (by kernel_rfl) rfl ?_
           refine OI_call { callee := (Callee.value (Operand.func 13)), args := #[(Operand.tmp 90), (Operand.const (Value.int IntKind.i64 0))], argTypes := #[29, 3] } 13 #[pt v18, nt 0] (some 91) (by kernel_rfl) (by kernel_rfl) (by kernel_rfl) (tally_spec F79 v18 (spS3 a n s level lent) 0 _ (ho80).1) ?_
           rintro _ w91 ⟨rfl, hk92⟩
           refine ⟨_, rfl, ?_⟩
           have hsz93 := Keep.size hk92
           replace hb24 := hb24.keep hk92 (fun f => f)
           replace hK0 := Keep.tr hK0 (Keep.ofNone hk92)
           replace ho80 := VotT.keep ho80 hk92 (fun _ _ f => f)
           replace ho83 := Led.keep ho83 hk92 (fun _ _ f => f)
           refine OI_pick [(0, nt a), (1, nt n), (2, nt s), (3, nt lent), (4, nt level), (11, pt b17), (12, nt 0), (13, nt 0), (91, .agg (Tly.cells (tallyT (spS3 a n s level lent) 0)).toArray)] (by kernel_rfl) ?_
           refine OI_eq [(0, nt a), (1, nt n), (2, nt s), (3, nt lent), (4, nt level), (11, pt b17), (12, nt 0), (13, nt 0), (91, .agg #[nt (IntKind.i64.wrap (Int.tdiv a 10)), nt (IntKind.i64.wrap (Int.tdiv n 10)), nt (a + s)])] (by rw [sp5 (by omega) (by omega)]; rfl) ?_
           refine OI_alloc 43 (.agg #[nt 0, nt 0, nt 0]) [nt 0, nt 0, nt 0] (some 14) (by kernel_rfl) (by kernel_rfl) (by kernel_rfl) ?_
           intro b94 w94 e94 hb94 k94 z94
           have hsz95 := Keep.size k94
           replace hb24 := hb24.keep k94 (fun f => f)
           replace hK0 := Keep.tr hK0 (Keep.ofNone k94)
           replace ho80 := VotT.keep ho80 k94 (fun _ _ f => f)
           replace ho83 := Led.keep ho83 k94 (fun _ _ f => f)
           have hb94lt := hb94.lt
           refine OI_set (m := 3) (kd := true) 43 (.tmp 14) (.tmp 91) 0 (.agg #[nt (IntKind.i64.wrap (Int.tdiv a 10)), nt (IntKind.i64.wrap (Int.tdiv n 10)), nt (a + s)]) [nt (IntKind.i64.wrap (Int.tdiv a 10)), nt (IntKind.i64.wrap (Int.tdiv n 10)), nt (a + s)] none (by kernel_rfl) (by kernel_rfl) (by kernel_rfl) hb94 (by kernel_rfl) (by kernel_rfl) (by kernel_rfl) (Nat.le_of_ble_eq_true (by kernel_rfl)) (by simp [Value.oneCell']) ?_
           intro w96 hb94_99 hk97 hz98
           replace hb94_99 : Blk w96 b94 [nt (IntKind.i64.wrap (Int.tdiv a 10)), nt (IntKind.i64.wrap (Int.tdiv n 10)), nt (a + s)] 43 := hb94_99
           have hsz100 := Keep.size hk97
           replace hb24 := hb24.keep hk97 (by show ¬ (_ = _); omega)
           replace hK0 := Keep.fresh hK0 hk97 (by intro i hi hs; first | exact hs | exact Or.inl hs | exact Or.inr hs | (exfalso; have hs2 : i = b94 := hs; omega))
           replace ho80 := VotT.keep ho80 hk97 (fun q hq hs => by have hs : q = b94 := hs; have g0 := own88 q hq; have g1 := lt87 q hq; omega)
           replace ho83 := Led.keep ho83 hk97 (fun q hq hs => by have hs : q = b94 := hs; have g0 := own90 q hq; have g1 := lt89 q hq; omega)
           refine OI_end rfl ?_
           refine X_then ?_
           refine V_seq ?_
           refine V_draws (acts [10]) none_ [[0, 1, 2, 3, 4, 5, 6, 7, 8, 9, 10, 11]] (by kernel_rfl) (by repeat first | exact sure_body (by rintro _ _ ⟨h, _⟩; exact ⟨_, h⟩) | refine sure_then ?_ | refine sure_block ?_ | refine sure_join ?_) (by kernel_rfl) ?_
           intro w102 hk101 he103 L hL104
           have hsz105 := Keep.size hk101
           replace hb24 := hb24.keep hk101 (fun f => f)
           replace hb94_99 := hb94_99.keep hk101 (fun f => f)
           replace hK0 := Keep.tr hK0 (Keep.ofNone hk101)
           replace ho80 := VotT.keep ho80 hk101 (fun _ _ f => f)
           replace ho83 := Led.keep ho83 hk101 (fun _ _ f => f)
           have qhb24 := hb24
           have qhb94_99 := hb94_99
           have K106 : Keep none_ w102 w102 := Keep.refl _ _
           obtain rfl := List.mem_singleton.1 hL104
           refine GI_static [3, 4, 5, 6, 7, 8, 9, 10, 11] [(0, nt a), (1, nt n), (2, nt s), (3, nt lent), (4, nt level), (11, pt b17), (12, nt 0), (13, nt 0), (14, pt b94), (94, .pointer (some ⟨b17, 1, none⟩))] (by kernel_rfl) ?_
           refine GI_cell 29 (.tmp 94) 1 (pt v18) (some 95) (by kernel_rfl) (by kernel_rfl) (by kernel_rfl) qhb24 (fun f => f) (m := 1) (by kernel_rfl) rfl ?_
           refine GI_static [7, 8, 9, 10, 11] [(0, nt a), (1, nt n), (2, nt s), (3, nt lent), (4, nt level), (11, pt b17), (12, nt 0), (13, nt 0), (14, pt b94), (95, pt v18), (98, pt b17)] (by kernel_rfl) ?_
           refine GI_cell 28 (.tmp 98) 0 (pt l19) (some 99) (by kernel_rfl) (by kernel_rfl) (by kernel_rfl) qhb24 (fun f => f) (m := 1) (by kernel_rfl) rfl ?_
           refine GI_static [10, 11] [(0, nt a), (1, nt n), (2, nt s), (3, nt lent), (4, nt level), (11, pt b17), (12, nt 0), (13, nt 0), (14, pt b94), (95, pt v18), (99, pt l19), (101, .agg #[nt 1, .bool true, nt 1, nt a, nt 0, nt 0])] (by kernel_rfl) ?_
           obtain ⟨s4a, s4b, s4c⟩ := sp4 (a := a) (n := n) (s := s) (level := level) (lent := lent) (by omega)
           refine GI_call0 { callee := (Callee.value (Operand.func 9)), args := #[(Operand.tmp 95), (Operand.tmp 99), (Operand.const (Value.int IntKind.i64 1)), (Operand.const (Value.int IntKind.i64 0)), (Operand.tmp 101)], argTypes := #[29, 28, 3, 3, 26] } 9 #[pt v18, pt l19, nt 1, nt 0, .agg #[nt 1, .bool true, nt 1, nt a, nt 0, nt 0]] (some 102) (by kernel_rfl) (by kernel_rfl) (by kernel_rfl) (by kernel_rfl) (by kernel_rfl) (vote_spec F79 F82 v18 l19 (spS3 a n s level lent) spX (raiseC (raiseC ([] : List Ci) 1 0 (capI (spV a n s))) 2 0 lent) 1 0 (Vt.mk 1 true 1 a 0 0) _ ho80 ho83 hdis85 (by first | decide | exact Nat.lt_trans (raise_lt (m := 1) (by decide) _ _ _) (by decide) | exact Nat.lt_trans (raise_lt (raise_lt (m := 1) (by decide) _ _ _) _ _ _) (by decide) | exact Nat.lt_trans (raise_lt (raise_lt (raise_lt (m := 1) (by decide) _ _ _) _ _ _) _ _ _) (by decide) | exact Nat.lt_trans (raise_lt (raise_lt (raise_lt (raise_lt (m := 1) (by decide) _ _ _) _ _ _) _ _ _) _ _ _) (by decide))) ?_
           rintro _ w109 ⟨rfl, ⟨F111, F114, ho112, ho115, hfr113, hfr116, hdis117⟩, hk110⟩
           refine ⟨_, rfl, ?_⟩
           have hsz118 := Keep.size hk110
           replace hb24 := hb24.keep hk110 (fun hs => by rcases hs with hs | hs; (have u0 := own88 _ hs; have u1 := lt87 _ hs; omega); (have u0 := own90 _ hs; have u1 := lt89 _ hs; omega))
           replace hb94_99 := hb94_99.keep hk110 (fun hs => by rcases hs with hs | hs; (have u0 := own88 _ hs; have u1 := lt87 _ hs; omega); (have u0 := own90 _ hs; have u1 := lt89 _ hs; omega))
           replace hK0 := Keep.fresh hK0 hk110 (by intro i hi hs; first | exact hs | (rcases hs with hs | hs; (have u0 := own88 i hs; have u1 := lt87 i hs; omega); (have u0 := own90 i hs; have u1 := lt89 i hs; omega)))
           have own120 : ∀ q, F111 q → w11.heap.size ≤ q ∧ q ≠ b17 ∧ q ≠ b94 := fun q hq => by rcases hfr113 q hq with h | h; (have h1 := own88 q h; have h2 := lt87 q h; omega); omega
           have lt119 := VotT.lt ho112
           have own122 : ∀ q, F114 q → w11.heap.size ≤ q ∧ q ≠ b17 ∧ q ≠ b94 := fun q hq => by rcases hfr116 q hq with h | h; (have h1 := own90 q h; have h2 := lt89 q h; omega); omega
           have lt121 := Led.lt ho115
           replace ho112 : VotT F111 w109 v18 (spS4 a n s level lent) := by rw [show voteS spX (spS3 a n s level lent) 1 0 (Vt.mk 1 true 1 a 0 0) = spS4 a n s level lent from s4b] at ho112; exact ho112
           replace ho115 : Led F114 w109 l19 spX (raiseC (raiseC (raiseC ([] : List Ci) 1 0 (capI (spV a n s))) 2 0 lent) 1 0 (capI (spA a))) := by rw [show voteC spX (raiseC (raiseC ([] : List Ci) 1 0 (capI (spV a n s))) 2 0 lent) (spS3 a n s level lent) 1 0 (Vt.mk 1 true 1 a 0 0) = raiseC (raiseC (raiseC ([] : List Ci) 1 0 (capI (spV a n s))) 2 0 lent) 1 0 (capI (spA a)) from s4c _] at ho115; exact ho115
           refine GI_pick [(0, nt a), (1, nt n), (2, nt s), (3, nt lent), (4, nt level), (11, pt b17), (12, nt 0), (13, nt 0), (14, pt b94), (102, nt (voteE spX (spS3 a n s level lent) 1 0 (Vt.mk 1 true 1 a 0 0)))] (by kernel_rfl) ?_
           refine GI_eq [(0, nt a), (1, nt n), (2, nt s), (3, nt lent), (4, nt level), (11, pt b17), (12, nt 0), (13, nt 0), (14, pt b94), (102, nt 0)] (by rw [show voteE spX (spS3 a n s level lent) 1 0 (Vt.mk 1 true 1 a 0 0) = 0 from s4a]) ?_
           refine GI_static [] [(0, nt a), (1, nt n), (2, nt s), (3, nt lent), (4, nt level), (11, pt b17), (12, nt 0), (13, nt 0), (14, pt b94), (15, nt 0)] (by kernel_rfl) ?_
           refine GI_end ?_
           refine X_then ?_
           refine V_seq ?_
           refine V_region ?_
           refine OI_static 7 [(0, nt a), (1, nt n), (2, nt s), (3, nt lent), (4, nt level), (11, pt b17), (14, pt b94), (109, .bool true)] (by kernel_rfl) ?_
           refine OI_agg 43 (.tmp 14) 0 [nt (IntKind.i64.wrap (Int.tdiv a 10)), nt (IntKind.i64.wrap (Int.tdiv n 10)), nt (a + s)] (some 110) (by kernel_rfl) (by kernel_rfl) hb94_99 (m := 3) (by kernel_rfl) rfl rfl ?_
           have hw125 : IntKind.i64.wrap (a + s) = a + s := (wrap64_id (by omega) (by omega)).trans (by omega)
           refine OI_static 15 [(0, nt a), (3, nt lent), (4, nt level), (11, pt b17), (109, .bool true), (110, .agg #[nt (IntKind.i64.wrap (Int.tdiv a 10)), nt (IntKind.i64.wrap (Int.tdiv n 10)), nt (a + s)]), (112, nt (IntKind.i64.wrap (Int.tdiv a 10))), (114, nt (IntKind.i64.wrap (Int.tdiv n 10))), (117, nt (IntKind.i64.wrap (a + s)))] (by kernel_rfl) ?_
           refine OI_eq [(0, nt a), (3, nt lent), (4, nt level), (11, pt b17), (109, .bool true), (110, .agg #[nt (IntKind.i64.wrap (Int.tdiv a 10)), nt (IntKind.i64.wrap (Int.tdiv n 10)), nt (a + s)]), (112, nt (IntKind.i64.wrap (Int.tdiv a 10))), (114, nt (IntKind.i64.wrap (Int.tdiv n 10))), (117, nt (a + s))] (by rw [hw125]) ?_
           refine OI_static 16 [(0, nt a), (3, nt lent), (4, nt level), (11, pt b17), (109, .bool true), (110, .agg #[nt (IntKind.i64.wrap (Int.tdiv a 10)), nt (IntKind.i64.wrap (Int.tdiv n 10)), nt (a + s)]), (118, .agg #[nt (IntKind.i64.wrap (Int.tdiv a 10)), nt (IntKind.i64.wrap (Int.tdiv n 10)), nt (a + s)])] (by kernel_rfl) ?_
           refine OI_pure (some 119) ((Op.binOp BinOp.eql 43 (Operand.tmp 110) (Operand.tmp 118) 43)) (by kernel_rfl) (pure_eql_same (xs := [nt (IntKind.i64.wrap (Int.tdiv a 10)), nt (IntKind.i64.wrap (Int.tdiv n 10)), nt (a + s)]) (by kernel_rfl) (by kernel_rfl) (by kernel_rfl) (by kernel_rfl)) ?_
           refine OI_static 22 [(0, nt a), (3, nt lent), (4, nt level), (121, .bool true), (124, .pointer (some ⟨b17, 1, none⟩))] (by kernel_rfl) ?_
           refine OI_cell 29 (.tmp 124) 1 (pt v18) (some 125) (by kernel_rfl) (by kernel_rfl) hb24 (m := 1) (by kernel_rfl) rfl ?_
           refine OI_call { callee := (Callee.value (Operand.func 13)), args := #[(Operand.tmp 125), (Operand.const (Value.int IntKind.i64 0))], argTypes := #[29, 3] } 13 #[pt v18, nt 0] (some 126) (by kernel_rfl) (by kernel_rfl) (by kernel_rfl) (tally_spec F111 v18 (spS4 a n s level lent) 0 _ (ho112).1) ?_
           rintro _ w126 ⟨rfl, hk127⟩
           refine ⟨_, rfl, ?_⟩
           have hsz128 := Keep.size hk127
           replace hK0 := Keep.tr hK0 (Keep.ofNone hk127)
           replace ho112 := VotT.keep ho112 hk127 (fun _ _ f => f)
           replace ho115 := Led.keep ho115 hk127 (fun _ _ f => f)
           refine OI_pick [(0, nt a), (3, nt lent), (4, nt level), (121, .bool true), (126, .agg (Tly.cells (tallyT (spS4 a n s level lent) 0)).toArray)] (by kernel_rfl) ?_
           refine OI_eq [(0, nt a), (3, nt lent), (4, nt level), (121, .bool true), (126, .agg #[nt (a + (cvVotes lent level)), nt 0, nt (a + lent)])] (by rw [sp6 (by omega) (by omega) (by omega)]; rfl) ?_
           refine OI_static 27 [(0, nt a), (3, nt lent), (121, .bool true), (126, .agg #[nt (a + (cvVotes lent level)), nt 0, nt (a + lent)]), (127, nt a), (128, nt lent), (129, nt level)] (by kernel_rfl) ?_
           refine OI_call { callee := (Callee.value (Operand.func 14)), args := #[(Operand.tmp 128), (Operand.tmp 129)], argTypes := #[3, 3] } 14 #[nt lent, nt level] (some 130) (by kernel_rfl) (by kernel_rfl) (by kernel_rfl) (rVotes_spec lent level _) ?_
           rintro _ w126 ⟨rfl, rfl⟩
           refine ⟨_, rfl, ?_⟩
           have hcv9 := cv_bnd (n := lent) (level := level) (B := 1000) (by omega) (by omega) (by decide) (by omega)
           have hw132 : IntKind.i64.wrap (a + (cvVotes lent level)) = a + (cvVotes lent level) := (wrap64_id (by omega) (by omega)).trans (by omega)
           refine OI_static 29 [(0, nt a), (3, nt lent), (121, .bool true), (126, .agg #[nt (a + (cvVotes lent level)), nt 0, nt (a + lent)]), (131, nt (IntKind.i64.wrap (a + (cvVotes lent level))))] (by kernel_rfl) ?_
           refine OI_eq [(0, nt a), (3, nt lent), (121, .bool true), (126, .agg #[nt (a + (cvVotes lent level)), nt 0, nt (a + lent)]), (131, nt (a + (cvVotes lent level)))] (by rw [hw132]) ?_
           have hw133 : IntKind.i64.wrap (a + lent) = a + lent := (wrap64_id (by omega) (by omega)).trans (by omega)
           refine OI_static 32 [(121, .bool true), (126, .agg #[nt (a + (cvVotes lent level)), nt 0, nt (a + lent)]), (131, nt (a + (cvVotes lent level))), (134, nt (IntKind.i64.wrap (a + lent)))] (by kernel_rfl) ?_
           refine OI_eq [(121, .bool true), (126, .agg #[nt (a + (cvVotes lent level)), nt 0, nt (a + lent)]), (131, nt (a + (cvVotes lent level))), (134, nt (a + lent))] (by rw [hw133]) ?_
           refine OI_static 33 [(121, .bool true), (126, .agg #[nt (a + (cvVotes lent level)), nt 0, nt (a + lent)]), (135, .agg #[nt (a + (cvVotes lent level)), nt 0, nt (a + lent)])] (by kernel_rfl) ?_
           refine OI_pure (some 136) ((Op.binOp BinOp.eql 43 (Operand.tmp 126) (Operand.tmp 135) 43)) (by kernel_rfl) (pure_eql_same (xs := [nt (a + (cvVotes lent level)), nt 0, nt (a + lent)]) (by kernel_rfl) (by kernel_rfl) (by kernel_rfl) (by kernel_rfl)) ?_
           refine OI_static 36 [(138, .bool true)] (by kernel_rfl) ?_
           refine OI_call { callee := (Callee.value (Operand.func 11)), args := #[], argTypes := #[] } 11 #[] (some 139) (by kernel_rfl) (by kernel_rfl) (by kernel_rfl) (known_spec _) ?_
           rintro _ w134 ⟨rfl, hk135⟩
           refine ⟨_, rfl, ?_⟩
           have hsz136 := Keep.size hk135
           replace hK0 := Keep.tr hK0 (Keep.ofNone hk135)
           replace ho112 := VotT.keep ho112 hk135 (fun _ _ f => f)
           replace ho115 := Led.keep ho115 hk135 (fun _ _ f => f)
           refine OI_static 39 [(10, .bool true)] (by kernel_rfl) ?_
           refine OI_end rfl ?_
           refine X_then ?_
           refine V_ret ?_
           exact X_return (.bool true) rfl ⟨rfl, hK0⟩
end Go.Al

