/-
  Put together out of 8 texts: Walks of the laws of voting: a beginning. The laws of voting: locks; what succeeds. Walks of the laws of voting: what is lent counts. The laws of voting: a vote that is cast anew. The laws of voting: more of what is delegated. The laws of voting: what is lent to one who splits. The laws of voting: not more than what is free. Walks of the laws of voting: not more than what is free.
-/
import Derived.Test.YtglgnmoglbbkmaaVotingFundsB4
namespace Go.Al
open Go Go.RowKit Go.Proofs
set_option maxRecDepth 10000 in
theorem rnew6_weak (A : Option Addr) (cap : Nat) (fs : List Int) (w : World) (hA0 : ArgT w 1 intc A cap fs) (hn : fs.length ≤ 100000) : Calls Try.prog 18 #[.slice A fs.length cap] w fun e w' => ∃ pv n, e = .returned (.tuple #[.pointer pv, .int .i64 n]) ∧ Keep none_ w w' := by
 have hA := hA0
 have hK0 : Keep none_ w w := Keep.refl _ _
 have hzhK0 := Keep.size hK0
 refine enterV Try.func18 rfl [.slice A fs.length cap] 51 rfl rfl rfl ?_
 refine V_pick [(0, .slice A fs.length cap)] rfl ?_
 refine V_seq ?_
 refine V_region ?_
 refine OI_static 2 [(0, .slice A fs.length cap)] (by kernel_rfl) ?_
 refine OI_end rfl ?_
 refine X_then ?_
 refine V_seq ?_
 refine V_seq ?_
 refine V_region ?_
 refine OI_static 3 [(0, .slice A fs.length cap), (9, .bool (decide (((fs.length : Nat) : Int) > 10)))] (by kernel_rfl) ?_
 refine OI_end rfl ?_
 refine X_then ?_
 refine V_if (((fs.length : Nat) : Int) > 10) (by kernel_rfl) (fun hc1 => ?_) (fun hc1 => ?_)
 ·
  refine V_seq ?_
  refine V_region ?_
  refine OI_static 2 [(2, .pointer none), (3, nt 1)] (by kernel_rfl) ?_
  refine OI_end rfl ?_
  refine X_then ?_
  refine V_ret ?_
  refine X_ret_then ?_
  exact X_return (.tuple #[.pointer none, nt 1]) rfl ⟨_, _, rfl, hK0⟩
 ·
  refine V_skip ?_
  refine X_then ?_
  refine V_seq ?_
  refine V_region ?_
  refine OI_make (E := 108) (sz := 3) (by_ := 40) (m := 10) (kd := .i64) (zv := .agg #[nt 0, nt 0, .slice none 0 0]) 103 (.const (Value.int IntKind.i64 10)) (.const (Value.int IntKind.i64 10)) ((List.replicate 10 [nt 0, nt 0, .slice none 0 0]).flatten) (some 10) (by kernel_rfl) (by kernel_rfl) (by kernel_rfl) (by kernel_rfl) (by kernel_rfl) (by decide) (by decide) (by kernel_rfl) ?_
  intro b2 w2 e2 hb2 k2 z2
  have hsz3 := Keep.size k2
  replace hA := ArgT.keep0 hA k2
  replace hK0 := Keep.tr hK0 (Keep.ofNone k2)
  have hb2lt := hb2.lt
  refine OI_static 2 [(0, .slice A fs.length cap), (11, .agg #[.slice (some ⟨b2, 0, none⟩) 10 10])] (by kernel_rfl) ?_
  refine OI_box 105 (.tmp 11) (.agg #[.slice (some ⟨b2, 0, none⟩) 10 10]) [.slice (some ⟨b2, 0, none⟩) 10 10] (some 12) (by kernel_rfl) (by kernel_rfl) (by kernel_rfl) ?_
  intro b4 w4 e4 hb4 k4 z4
  have hsz5 := Keep.size k4
  replace hb2 := hb2.keep k4 (fun f => f)
  replace hA := ArgT.keep0 hA k4
  replace hK0 := Keep.tr hK0 (Keep.ofNone k4)
  have hb4lt := hb4.lt
  refine OI_static 4 [(0, .slice A fs.length cap), (4, pt b4)] (by kernel_rfl) ?_
  refine OI_end rfl ?_
  refine X_then ?_
  refine V_seq ?_
  refine V_region ?_
  refine OI_static 1 [(0, .slice A fs.length cap), (4, pt b4), (5, nt 0)] (by kernel_rfl) ?_
  refine OI_end rfl ?_
  refine X_then ?_
  refine V_seq ?_
  refine V_seq ?_
  refine V_region ?_
  refine OI_static 1 [(0, .slice A fs.length cap), (4, pt b4), (5, nt 0), (6, nt 0)] (by kernel_rfl) ?_
  refine OI_end rfl ?_
  refine X_then ?_
  refine V_block ?_
  refine V_pick [(0, .slice A fs.length cap), (4, pt b4), (5, nt 0), (6, nt 0)] rfl ?_
  refine V_loop (fun k wI e => ∃ i : Nat, ∃ s5 : Int, ∃ Lx : List Value, (k + i = fs.length) ∧ (Blk wI b2 Lx 108) ∧ (Lx.length = 30) ∧ Keep (only b2) w4 wI ∧ e = [(0, .slice A fs.length cap), (4, pt b4), (5, nt s5), (6, nt ((i : Nat) : Int))]) fs.length ⟨0, 0, (List.replicate 10 [nt 0, nt 0, .slice none 0 0]).flatten, by omega, hb2, by decide, Keep.refl _ _, rfl⟩ ?_
  rintro k7 w6 _ ⟨i, s5, Lx, hki, hB, hLx, hk8, rfl⟩
  have hsz9 := Keep.size hk8
  replace hb4 := hb4.keep hk8 (by show ¬ (_ = _); omega)
  replace hA := ArgT.keep hA hk8 hA0 (fun k hk hs => by have hs : k = b2 := hs; omega)
  replace hK0 := Keep.fresh hK0 hk8 (by intro i hi hs; first | exact hs | exact Or.inl hs | exact Or.inr hs | (exfalso; have hs2 : i = b2 := hs; omega))
  have hzhk8 := Keep.size hk8
  have hb2lt := hB.lt
  refine V_seq ?_
  refine V_seq ?_
  refine V_region ?_
  refine OI_static 4 [(0, .slice A fs.length cap), (4, pt b4), (5, nt s5), (6, nt ((i : Nat) : Int)), (16, .bool (decide (((i : Nat) : Int) < ((fs.length : Nat) : Int))))] (by kernel_rfl) ?_
  refine OI_end rfl ?_
  refine X_then ?_
  refine V_if (((i : Nat) : Int) < ((fs.length : Nat) : Int)) (by kernel_rfl) (fun hc10 => ?_) (fun hc10 => ?_)
  ·
   refine V_skip ?_
   refine X_then ?_
   refine V_seq ?_
   refine V_block ?_
   refine V_seq ?_
   refine V_seq ?_
   refine V_region ?_
   refine OI_static 2 [(0, .slice A fs.length cap), (4, pt b4), (5, nt s5), (6, nt ((i : Nat) : Int)), (19, .slice A fs.length cap), (20, nt ((i : Nat) : Int))] (by kernel_rfl) ?_
   obtain ⟨b11, o11, L11, rfl, hat11⟩ := ArgT.open_ hA (by first | omega | (simp only [List.length_map]; omega) | (simp; done) | (simp; omega))
   have hb11lt0 := ArgT.lt hA0 (by first | omega | (simp only [List.length_map]; omega) | (simp; done) | (simp; omega))
   have hb11lt := hat11.blk.lt
   refine OI_pure (some 21) (.indexAddr 24 (.tmp 19) (.tmp 20)) (by kernel_rfl) (pure_idxN (b := b11) (o := o11) (len := fs.length) (cap := cap) (kd := .i64) (j := i) (E := 3) (sz := 1) (by_ := 8) (by kernel_rfl) (by kernel_rfl) (by kernel_rfl) (by omega)) ?_
   obtain ⟨x12, hx13⟩ : ∃ x, fs[i]? = some x := ⟨_, List.getElem?_eq_getElem (by first | omega | (simp only [List.length_map]; omega))⟩
   refine OI_cellR 3 (.tmp 21) (o11 + i * 1) (nt x12) (some 22) (by kernel_rfl) (by kernel_rfl) hat11.blk (m := 1) (by kernel_rfl) (AtR.cell0 hat11 (es_at hx13) rfl) ?_
   refine OI_static 6 [(0, .slice (some ⟨b11, o11, none⟩) fs.length cap), (4, pt b4), (5, nt s5), (6, nt ((i : Nat) : Int)), (24, .bool (decide (x12 < 0)))] (by kernel_rfl) ?_
   by_cases hg14 : x12 < 0
   ·
    refine OI_eq [(0, .slice (some ⟨b11, o11, none⟩) fs.length cap), (4, pt b4), (5, nt s5), (6, nt ((i : Nat) : Int)), (24, .bool true)] (by first | simp [hg14] | rfl) ?_
    refine OI_static 12 [(0, .slice (some ⟨b11, o11, none⟩) fs.length cap), (4, pt b4), (5, nt s5), (6, nt ((i : Nat) : Int)), (25, undef), (26, undef), (27, undef), (28, undef), (29, undef), (30, .bool true)] (by kernel_rfl) ?_
    refine OI_end rfl ?_
    refine X_then ?_
    refine V_true rfl ?_
    refine V_seq ?_
    refine V_region ?_
    refine OI_static 2 [(2, .pointer none), (3, nt 1)] (by kernel_rfl) ?_
    refine OI_end rfl ?_
    refine X_then ?_
    refine V_ret ?_
    refine X_ret_then ?_
    refine X_ret_block ?_
    refine X_ret_then ?_
    refine X_ret_then ?_
    refine X_ret_block ?_
    refine X_ret_then ?_
    exact X_return (.tuple #[.pointer none, nt 1]) rfl ⟨_, _, rfl, hK0⟩
   ·
    refine OI_eq [(0, .slice (some ⟨b11, o11, none⟩) fs.length cap), (4, pt b4), (5, nt s5), (6, nt ((i : Nat) : Int)), (24, .bool false)] (by first | simp [hg14] | rfl) ?_
    refine OI_static 8 [(0, .slice (some ⟨b11, o11, none⟩) fs.length cap), (4, pt b4), (5, nt s5), (6, nt ((i : Nat) : Int)), (24, .bool false), (25, .slice (some ⟨b11, o11, none⟩) fs.length cap), (26, nt ((i : Nat) : Int))] (by kernel_rfl) ?_
    refine OI_pure (some 27) (.indexAddr 24 (.tmp 25) (.tmp 26)) (by kernel_rfl) (pure_idxN (b := b11) (o := o11) (len := fs.length) (cap := cap) (kd := .i64) (j := i) (E := 3) (sz := 1) (by_ := 8) (by kernel_rfl) (by kernel_rfl) (by kernel_rfl) (by omega)) ?_
    refine OI_cellR 3 (.tmp 27) (o11 + i * 1) (nt x12) (some 28) (by kernel_rfl) (by kernel_rfl) hat11.blk (m := 1) (by kernel_rfl) (AtR.cell0 hat11 (es_at hx13) rfl) ?_
    refine OI_static 12 [(0, .slice (some ⟨b11, o11, none⟩) fs.length cap), (4, pt b4), (5, nt s5), (6, nt ((i : Nat) : Int)), (25, .slice (some ⟨b11, o11, none⟩) fs.length cap), (26, nt ((i : Nat) : Int)), (27, .pointer (some ⟨b11, o11 + i * 1, none⟩)), (28, nt x12), (29, .bool (decide (x12 > 1073741824))), (30, .bool (decide (x12 > 1073741824)))] (by kernel_rfl) ?_
    refine OI_end rfl ?_
    refine X_then ?_
    refine V_if (x12 > 1073741824) (by kernel_rfl) (fun hc15 => ?_) (fun hc15 => ?_)
    ·
     refine V_seq ?_
     refine V_region ?_
     refine OI_static 2 [(2, .pointer none), (3, nt 1)] (by kernel_rfl) ?_
     refine OI_end rfl ?_
     refine X_then ?_
     refine V_ret ?_
     refine X_ret_then ?_
     refine X_ret_block ?_
     refine X_ret_then ?_
     refine X_ret_then ?_
     refine X_ret_block ?_
     refine X_ret_then ?_
     exact X_return (.tuple #[.pointer none, nt 1]) rfl ⟨_, _, rfl, hK0⟩
    ·
     refine V_skip ?_
     refine X_then ?_
     refine V_seq ?_
     refine V_draws (acts [11]) (only b2) [[0, 1, 2, 3, 4, 5, 6, 7, 8, 9, 10, 11]] (by kernel_rfl) (by repeat first | exact sure_body (by rintro _ _ ⟨_, _, h, _⟩; exact ⟨_, h⟩) | refine sure_then ?_ | refine sure_block ?_ | refine sure_join ?_) (by kernel_rfl) ?_
     intro w17 hk16 he18 L hL19
     have hsz20 := Keep.size hk16
     replace hB := hB.keep hk16 (fun f => f)
     replace hb4 := hb4.keep hk16 (fun f => f)
     replace hat11 := hat11.keep hk16 (fun f => f)
     replace hK0 := Keep.tr hK0 (Keep.ofNone hk16)
     replace hk8 := Keep.tr hk8 (Keep.ofNone hk16)
     have qhB := hB
     have qhb4 := hb4
     have qhat11 := hat11
     have K21 : Keep (only b2) w17 w17 := Keep.refl _ _
     obtain rfl := List.mem_singleton.1 hL19
     refine GI_static [3, 4, 5, 6, 7, 8, 9, 10, 11] [(0, .slice (some ⟨b11, o11, none⟩) fs.length cap), (4, pt b4), (5, nt s5), (6, nt ((i : Nat) : Int)), (25, .slice (some ⟨b11, o11, none⟩) fs.length cap), (26, nt ((i : Nat) : Int)), (27, .pointer (some ⟨b11, o11 + i * 1, none⟩)), (28, nt x12), (29, .bool (decide (x12 > 1073741824))), (33, pt b4)] (by kernel_rfl) ?_
     refine GI_cell 103 (.tmp 33) 0 (.slice (some ⟨b2, 0, none⟩) 10 10) (some 34) (by kernel_rfl) (by kernel_rfl) (by kernel_rfl) qhb4 (by show ¬ (_ = _); omega) (m := 1) (by kernel_rfl) rfl ?_
     refine GI_static [7, 8, 9, 10, 11] [(0, .slice (some ⟨b11, o11, none⟩) fs.length cap), (4, pt b4), (5, nt s5), (6, nt ((i : Nat) : Int)), (25, .slice (some ⟨b11, o11, none⟩) fs.length cap), (26, nt ((i : Nat) : Int)), (27, .pointer (some ⟨b11, o11 + i * 1, none⟩)), (28, nt x12), (29, .bool (decide (x12 > 1073741824))), (34, .slice (some ⟨b2, 0, none⟩) 10 10), (35, nt ((i : Nat) : Int)), (36, .slice (some ⟨b11, o11, none⟩) fs.length cap), (37, nt ((i : Nat) : Int))] (by kernel_rfl) ?_
     refine GI_pure (some 38) (.indexAddr 24 (.tmp 36) (.tmp 37)) (by kernel_rfl) (by kernel_rfl) (pure_idxN (b := b11) (o := o11) (len := fs.length) (cap := cap) (kd := .i64) (j := i) (E := 3) (sz := 1) (by_ := 8) (by kernel_rfl) (by kernel_rfl) (by kernel_rfl) (by omega)) ?_
     refine GI_cellR 3 (.tmp 38) (o11 + i * 1) (nt x12) (some 39) (by kernel_rfl) (by kernel_rfl) (by kernel_rfl) qhat11.blk (by show ¬ (_ = _); omega) (m := 1) (by kernel_rfl) (AtR.cell0 qhat11 (es_at hx13) rfl) ?_
     refine GI_pure (some 40) (.indexAddr 103 (.tmp 34) (.tmp 35)) (by kernel_rfl) (by kernel_rfl) (pure_idxN (b := b2) (o := 0) (len := 10) (cap := 10) (kd := .i64) (j := i) (E := 108) (sz := 3) (by_ := 40) (by kernel_rfl) (by kernel_rfl) (by kernel_rfl) (by omega)) ?_
     refine GI_static [11] [(0, .slice (some ⟨b11, o11, none⟩) fs.length cap), (4, pt b4), (5, nt s5), (6, nt ((i : Nat) : Int)), (25, .slice (some ⟨b11, o11, none⟩) fs.length cap), (26, nt ((i : Nat) : Int)), (27, .pointer (some ⟨b11, o11 + i * 1, none⟩)), (28, nt x12), (29, .bool (decide (x12 > 1073741824))), (39, nt x12), (41, .pointer (some ⟨b2, 0 + i * 3, none⟩))] (by kernel_rfl) ?_
     refine GI_final 11 (by kernel_rfl) (by kernel_rfl) ?_
     refine OI_set (m := 1) (kd := false) 3 (.tmp 41) (.tmp 39) (0 + i * 3) (nt x12) [nt x12] none (by kernel_rfl) (by kernel_rfl) (by kernel_rfl) hB (by kernel_rfl) (by kernel_rfl) (by kernel_rfl) (by rw [hLx]; show 0 + i * 3 + 1 ≤ 30; omega) (by simp [Value.oneCell']) ?_
     intro w22 hb2_25 hk23 hz24
     replace hb2_25 : Blk w22 b2 (over Lx (0 + i * 3) [nt x12]) 108 := hb2_25
     have hsz26 := Keep.size hk23
     replace hb4 := hb4.keep hk23 (by show ¬ (_ = _); omega)
     replace hat11 := hat11.keep hk23 (by show ¬ (_ = _); omega)
     replace hK0 := Keep.fresh hK0 hk23 (by intro i hi hs; first | exact hs | exact Or.inl hs | exact Or.inr hs | (exfalso; have hs2 : i = b2 := hs; omega))
     replace hk8 := Keep.fresh hk8 hk23 (by intro i hi hs; first | exact hs | exact Or.inl hs | exact Or.inr hs | (exfalso; have hs2 : i = b2 := hs; omega))
     refine OI_end rfl ?_
     refine X_then ?_
     refine V_region ?_
     refine OI_static 3 [(0, .slice (some ⟨b11, o11, none⟩) fs.length cap), (4, pt b4), (6, nt ((i : Nat) : Int)), (25, .slice (some ⟨b11, o11, none⟩) fs.length cap), (26, nt ((i : Nat) : Int)), (27, .pointer (some ⟨b11, o11 + i * 1, none⟩)), (28, nt x12), (29, .bool (decide (x12 > 1073741824))), (42, nt s5), (43, .slice (some ⟨b11, o11, none⟩) fs.length cap), (44, nt ((i : Nat) : Int))] (by kernel_rfl) ?_
     refine OI_pure (some 45) (.indexAddr 24 (.tmp 43) (.tmp 44)) (by kernel_rfl) (pure_idxN (b := b11) (o := o11) (len := fs.length) (cap := cap) (kd := .i64) (j := i) (E := 3) (sz := 1) (by_ := 8) (by kernel_rfl) (by kernel_rfl) (by kernel_rfl) (by omega)) ?_
     refine OI_cellR 3 (.tmp 45) (o11 + i * 1) (nt x12) (some 46) (by kernel_rfl) (by kernel_rfl) hat11.blk (m := 1) (by kernel_rfl) (AtR.cell0 hat11 (es_at hx13) rfl) ?_
     refine OI_static 7 [(0, .slice (some ⟨b11, o11, none⟩) fs.length cap), (4, pt b4), (5, nt (IntKind.i64.wrap (s5 + x12))), (6, nt ((i : Nat) : Int)), (25, .slice (some ⟨b11, o11, none⟩) fs.length cap), (26, nt ((i : Nat) : Int)), (27, .pointer (some ⟨b11, o11 + i * 1, none⟩)), (28, nt x12), (29, .bool (decide (x12 > 1073741824)))] (by kernel_rfl) ?_
     refine OI_end rfl ?_
     refine X_block ?_
     refine X_then ?_
     refine V_region ?_
     have hw27 : IntKind.i64.wrap (((i : Nat) : Int) + 1) = ((i + 1 : Nat) : Int) := (wrap64_id (by omega) (by omega)).trans (by omega)
     refine OI_static 2 [(0, .slice (some ⟨b11, o11, none⟩) fs.length cap), (4, pt b4), (5, nt (IntKind.i64.wrap (s5 + x12))), (18, nt (IntKind.i64.wrap (((i : Nat) : Int) + 1))), (25, .slice (some ⟨b11, o11, none⟩) fs.length cap), (26, nt ((i : Nat) : Int)), (27, .pointer (some ⟨b11, o11 + i * 1, none⟩)), (28, nt x12), (29, .bool (decide (x12 > 1073741824)))] (by kernel_rfl) ?_
     refine OI_eq [(0, .slice (some ⟨b11, o11, none⟩) fs.length cap), (4, pt b4), (5, nt (IntKind.i64.wrap (s5 + x12))), (18, nt ((i + 1 : Nat) : Int)), (25, .slice (some ⟨b11, o11, none⟩) fs.length cap), (26, nt ((i : Nat) : Int)), (27, .pointer (some ⟨b11, o11 + i * 1, none⟩)), (28, nt x12), (29, .bool (decide (x12 > 1073741824)))] (by rw [hw27]) ?_
     refine OI_static 3 [(0, .slice (some ⟨b11, o11, none⟩) fs.length cap), (4, pt b4), (5, nt (IntKind.i64.wrap (s5 + x12))), (6, nt ((i + 1 : Nat) : Int)), (25, .slice (some ⟨b11, o11, none⟩) fs.length cap), (26, nt ((i : Nat) : Int)), (27, .pointer (some ⟨b11, o11 + i * 1, none⟩)), (28, nt x12), (29, .bool (decide (x12 > 1073741824)))] (by kernel_rfl) ?_
     refine OI_end rfl ?_
     exact V_again (k7 - 1) (by omega) [(0, .slice (some ⟨b11, o11, none⟩) fs.length cap), (4, pt b4), (5, nt (IntKind.i64.wrap (s5 + x12))), (6, nt ((i + 1 : Nat) : Int))] rfl ⟨i + 1, IntKind.i64.wrap (s5 + x12), (over Lx (0 + i * 3) [nt x12]), by omega, hb2_25, by rw [over_length (by rw [hLx]; show 0 + i * 3 + 1 ≤ 30; omega)]; exact hLx, hk8, rfl⟩
  ·
   refine V_exit ?_
   refine X_exit_then ?_
   refine X_exit_then ?_
   refine X_exit_here ?_
   refine X_then ?_
   refine V_seq ?_
   refine V_seq ?_
   refine V_region ?_
   refine OI_static 2 [(4, pt b4), (49, .bool (decide (s5 > 1073741824)))] (by kernel_rfl) ?_
   refine OI_end rfl ?_
   refine X_then ?_
   refine V_if (s5 > 1073741824) (by kernel_rfl) (fun hc28 => ?_) (fun hc28 => ?_)
   ·
    refine V_seq ?_
    refine V_region ?_
    refine OI_static 2 [(2, .pointer none), (3, nt 1)] (by kernel_rfl) ?_
    refine OI_end rfl ?_
    refine X_then ?_
    refine V_ret ?_
    refine X_ret_then ?_
    exact X_return (.tuple #[.pointer none, nt 1]) rfl ⟨_, _, rfl, hK0⟩
   ·
    refine V_skip ?_
    refine X_then ?_
    refine V_seq ?_
    refine V_region ?_
    refine OI_static 3 [(2, pt b4), (3, nt 0)] (by kernel_rfl) ?_
    refine OI_end rfl ?_
    refine X_then ?_
    refine V_ret ?_
    exact X_return (.tuple #[pt b4, nt 0]) rfl ⟨_, _, rfl, hK0⟩

set_option maxRecDepth 10000 in
theorem rnew11_weak (w : World) : Calls Try.prog 20 #[] w fun e w' => ∃ pv, e = .returned (.pointer pv) ∧ Keep none_ w w' := by
 have hK0 : Keep none_ w w := Keep.refl _ _
 have hzhK0 := Keep.size hK0
 refine enterV Try.func20 rfl [] 5 rfl rfl rfl ?_
 refine V_pick [] rfl ?_
 refine V_seq ?_
 refine V_region ?_
 refine OI_static 1 [] (by kernel_rfl) ?_
 refine OI_end rfl ?_
 refine X_then ?_
 refine V_seq ?_
 refine V_draws (acts [0, 1, 3]) none_ [[0, 1, 2, 3, 4], [1, 0, 2, 3, 4]] (by kernel_rfl) (by repeat first | exact sure_body (by rintro _ _ ⟨_, h, _⟩; exact ⟨_, h⟩) | refine sure_then ?_ | refine sure_block ?_ | refine sure_join ?_) (by kernel_rfl) ?_
 intro w2 hk1 he3 L hL4
 have hsz5 := Keep.size hk1
 replace hK0 := Keep.tr hK0 (Keep.ofNone hk1)
 have K6 : Keep none_ w2 w2 := Keep.refl _ _
 simp only [List.mem_cons, List.not_mem_nil, or_false] at hL4
 rcases hL4 with rfl | rfl
 ·
  refine GI_make (E := 196) (sz := 7) (by_ := 56) (m := 12) (kd := .i64) (zv := .agg #[.bool false, nt 0, nt 0, nt 0, nt 0, nt 0, nt 0]) 111 (.const (Value.int IntKind.i64 12)) (.const (Value.int IntKind.i64 12)) ((List.replicate 12 [.bool false, nt 0, nt 0, nt 0, nt 0, nt 0, nt 0]).flatten) (some 1) (by kernel_rfl) (by kernel_rfl) K6 (by kernel_rfl) (by kernel_rfl) (by kernel_rfl) (by kernel_rfl) (by decide) (by decide) (by kernel_rfl) ?_
  intro b7 w7 e7 hb7 k7 z7 K8
  have hsz9 := Keep.size k7
  replace hK0 := Keep.tr hK0 (Keep.ofNone k7)
  have hb7lt := hb7.lt
  refine GI_make (E := 198) (sz := 9) (by_ := 88) (m := 40) (kd := .i64) (zv := .agg #[.slice none 0 0, .bool false, nt 0, nt 0, nt 0, nt 0, nt 0, nt 0, nt 0]) 112 (.const (Value.int IntKind.i64 40)) (.const (Value.int IntKind.i64 40)) ((List.replicate 40 [.slice none 0 0, .bool false, nt 0, nt 0, nt 0, nt 0, nt 0, nt 0, nt 0]).flatten) (some 2) (by kernel_rfl) (by kernel_rfl) K8 (by kernel_rfl) (by kernel_rfl) (by kernel_rfl) (by kernel_rfl) (by decide) (by decide) (by kernel_rfl) ?_
  intro b10 w10 e10 hb10 k10 z10 K11
  have hsz12 := Keep.size k10
  replace hb7 := hb7.keep k10 (fun f => f)
  replace hK0 := Keep.tr hK0 (Keep.ofNone k10)
  have hb10lt := hb10.lt
  refine GI_static [3, 4] [(3, .agg #[.slice (some ⟨b7, 0, none⟩) 12 12, .slice (some ⟨b10, 0, none⟩) 40 40])] (by kernel_rfl) ?_
  refine GI_box 114 (.tmp 3) (.agg #[.slice (some ⟨b7, 0, none⟩) 12 12, .slice (some ⟨b10, 0, none⟩) 40 40]) [.slice (some ⟨b7, 0, none⟩) 12 12, .slice (some ⟨b10, 0, none⟩) 40 40] (some 4) (by kernel_rfl) (by kernel_rfl) K11 (by kernel_rfl) (by kernel_rfl) ?_
  intro b13 w13 e13 hb13 k13 z13 K14
  have hsz15 := Keep.size k13
  replace hb7 := hb7.keep k13 (fun f => f)
  replace hb10 := hb10.keep k13 (fun f => f)
  replace hK0 := Keep.tr hK0 (Keep.ofNone k13)
  have hb13lt := hb13.lt
  refine GI_static [] [(0, pt b13)] (by kernel_rfl) ?_
  refine GI_end ?_
  refine X_then ?_
  refine V_ret ?_
  exact X_return _ rfl ⟨_, rfl, hK0⟩
 ·
  refine GI_make (E := 198) (sz := 9) (by_ := 88) (m := 40) (kd := .i64) (zv := .agg #[.slice none 0 0, .bool false, nt 0, nt 0, nt 0, nt 0, nt 0, nt 0, nt 0]) 112 (.const (Value.int IntKind.i64 40)) (.const (Value.int IntKind.i64 40)) ((List.replicate 40 [.slice none 0 0, .bool false, nt 0, nt 0, nt 0, nt 0, nt 0, nt 0, nt 0]).flatten) (some 2) (by kernel_rfl) (by kernel_rfl) K6 (by kernel_rfl) (by kernel_rfl) (by kernel_rfl) (by kernel_rfl) (by decide) (by decide) (by kernel_rfl) ?_
  intro b16 w16 e16 hb16 k16 z16 K17
  have hsz18 := Keep.size k16
  replace hK0 := Keep.tr hK0 (Keep.ofNone k16)
  have hb16lt := hb16.lt
  refine GI_make (E := 196) (sz := 7) (by_ := 56) (m := 12) (kd := .i64) (zv := .agg #[.bool false, nt 0, nt 0, nt 0, nt 0, nt 0, nt 0]) 111 (.const (Value.int IntKind.i64 12)) (.const (Value.int IntKind.i64 12)) ((List.replicate 12 [.bool false, nt 0, nt 0, nt 0, nt 0, nt 0, nt 0]).flatten) (some 1) (by kernel_rfl) (by kernel_rfl) K17 (by kernel_rfl) (by kernel_rfl) (by kernel_rfl) (by kernel_rfl) (by decide) (by decide) (by kernel_rfl) ?_
  intro b19 w19 e19 hb19 k19 z19 K20
  have hsz21 := Keep.size k19
  replace hb16 := hb16.keep k19 (fun f => f)
  replace hK0 := Keep.tr hK0 (Keep.ofNone k19)
  have hb19lt := hb19.lt
  refine GI_static [3, 4] [(3, .agg #[.slice (some ⟨b19, 0, none⟩) 12 12, .slice (some ⟨b16, 0, none⟩) 40 40])] (by kernel_rfl) ?_
  refine GI_box 114 (.tmp 3) (.agg #[.slice (some ⟨b19, 0, none⟩) 12 12, .slice (some ⟨b16, 0, none⟩) 40 40]) [.slice (some ⟨b19, 0, none⟩) 12 12, .slice (some ⟨b16, 0, none⟩) 40 40] (some 4) (by kernel_rfl) (by kernel_rfl) K20 (by kernel_rfl) (by kernel_rfl) ?_
  intro b22 w22 e22 hb22 k22 z22 K23
  have hsz24 := Keep.size k22
  replace hb16 := hb16.keep k22 (fun f => f)
  replace hb19 := hb19.keep k22 (fun f => f)
  replace hK0 := Keep.tr hK0 (Keep.ofNone k22)
  have hb22lt := hb22.lt
  refine GI_static [] [(0, pt b22)] (by kernel_rfl) ?_
  refine GI_end ?_
  refine X_then ?_
  refine V_ret ?_
  exact X_return _ rfl ⟨_, rfl, hK0⟩

def msk24 (fs : List Int) : List Int := fs.map fun x => bAnd x 16777215
theorem msk24_at {fs : List Int} {x : Int} (h : x ∈ msk24 fs) : 0 ≤ x ∧ x ≤ 16777215 := by
  obtain ⟨y, _, rfl⟩ := List.mem_map.1 h
  exact bAnd_le y 16777215 (by decide)
theorem msk24_step {fs : List Int} {i : Nat} {x : Int} (h : fs[i]? = some x) : msk24 (fs.take (i + 1)) = msk24 (fs.take i) ++ [bAnd x 16777215] := by
  obtain ⟨h1, rfl⟩ := List.getElem?_eq_some_iff.1 h
  unfold msk24; rw [List.take_succ_eq_append_getElem h1, List.map_append]; rfl
theorem tot_newX_step (fs : List Int) (n : Nat) : tot (newX fs (n + 1)) = tot (newX fs n) + (fs[n]?).getD 0 := by
  have happ : ∀ (a b : List Acc), tot (a ++ b) = tot a + tot b := by
    intro a b
    induction a with
    | nil => simp [tot]
    | cons y l ih => simp only [List.cons_append, tot, ih]; omega
  rw [newX_succ, happ]
  simp only [tot]
  omega
theorem newX_tot24 {fs : List Int} (h : ∀ x ∈ fs, 0 ≤ x ∧ x ≤ 16777215) : ∀ i : Nat, tot (newX fs i) ≤ i * 16777215
  | 0 => by simp [newX, tot]
  | i + 1 => by
    have ih := newX_tot24 h i
    rw [tot_newX_step]
    have : (fs[i]?).getD 0 ≤ 16777215 := by
      cases hf : fs[i]? with
      | none => simp
      | some x => exact (h x (List.mem_of_getElem? hf)).2
    omega
theorem msk24_ok {fs : List Int} (h : fs.length ≤ 10) : okP (msk24 fs) :=
  ⟨by simpa [msk24] using h, fun x hx => by have := msk24_at hx; omega, by have := newX_tot24 (fs := msk24 fs) (fun x hx => msk24_at hx) 10; omega⟩

set_option maxRecDepth 10000 in
theorem begin_weak (A : Option Addr) (cap : Nat) (fs : List Int) (w : World) (hA0 : ArgT w 1 intc A cap fs) (hn : fs.length ≤ 9223372036854775807) : Calls Try.prog 7 #[.slice A fs.length cap] w fun e w' => ∃ b v l F G xv yv, e = .returned (.pointer (some ⟨b, 0, none⟩)) ∧ Blk w' b [.pointer (some ⟨l, 0, none⟩), .pointer (some ⟨v, 0, none⟩), .pointer xv, .pointer yv, .int .i64 0] 33 ∧ VotT F w' v VS.zero ∧ Led G w' l (newX (msk24 (fs.take 10)) 10) [] ∧ Keep none_ w w' ∧ w.heap.size ≤ b ∧ (∀ q, F q → w.heap.size ≤ q ∧ q ≠ b) ∧ (∀ q, G q → w.heap.size ≤ q ∧ q ≠ b) ∧ (∀ q, F q → ¬ G q) := by
 have hA := hA0
 have hK0 : Keep none_ w w := Keep.refl _ _
 have hzhK0 := Keep.size hK0
 refine enterV Try.func7 rfl [.slice A fs.length cap] 58 rfl rfl rfl ?_
 refine V_pick [(0, .slice A fs.length cap)] rfl ?_
 refine V_seq ?_
 refine V_region ?_
 refine OI_static 1 [(0, .slice A fs.length cap)] (by kernel_rfl) ?_
 refine OI_end rfl ?_
 refine X_then ?_
 refine V_seq ?_
 refine V_region ?_
 refine OI_static 1 [(0, .slice A fs.length cap), (3, .slice none 0 0)] (by kernel_rfl) ?_
 refine OI_end rfl ?_
 refine X_then ?_
 refine V_seq ?_
 refine V_seq ?_
 refine V_region ?_
 refine OI_static 1 [(0, .slice A fs.length cap), (3, .slice none 0 0), (4, nt 0)] (by kernel_rfl) ?_
 refine OI_end rfl ?_
 refine X_then ?_
 refine V_block ?_
 refine V_pick [(0, .slice A fs.length cap), (3, .slice none 0 0), (4, nt 0)] rfl ?_
 refine V_loop (fun k wI e => ∃ i : Nat, ∃ A2 : Option Addr, ∃ cap2 : Nat, ∃ ms : List Int, (k + i = min fs.length 10) ∧ (ms = msk24 (fs.take i)) ∧ (SlT wI 1 intc A2 cap2 ms) ∧ (∀ q, inA A2 q → w.heap.size ≤ q) ∧ Keep none_ w wI ∧ e = [(0, .slice A fs.length cap), (3, .slice A2 ms.length cap2), (4, nt ((i : Nat) : Int))]) (min fs.length 10) ⟨0, none, 0, [], by omega, rfl, SlT.nil _ _ _, fun q h => (inA_none h).elim, Keep.refl _ _, rfl⟩ ?_
 rintro k2 w1 _ ⟨i, A2, cap2, ms, hki, hms, hA2, ow2, hk3, rfl⟩
 have hsz4 := Keep.size hk3
 replace hA := ArgT.keep0 hA hk3
 replace hK0 := Keep.tr hK0 (Keep.ofNone hk3)
 have hzhk3 := Keep.size hk3
 have lt2 := SlT.lt hA2
 have hml : ms.length = i := by rw [hms]; simp [msk24]; omega
 refine V_seq ?_
 refine V_seq ?_
 refine V_region ?_
 refine OI_static 5 [(0, .slice A fs.length cap), (3, .slice A2 ms.length cap2), (4, nt ((i : Nat) : Int)), (14, .bool (decide (((i : Nat) : Int) < ((fs.length : Nat) : Int))))] (by kernel_rfl) ?_
 by_cases hg5 : ((i : Nat) : Int) < ((fs.length : Nat) : Int)
 ·
  refine OI_eq [(0, .slice A fs.length cap), (3, .slice A2 ms.length cap2), (4, nt ((i : Nat) : Int)), (14, .bool true)] (by first | simp [hg5] | rfl) ?_
  refine OI_static 8 [(0, .slice A fs.length cap), (3, .slice A2 ms.length cap2), (4, nt ((i : Nat) : Int)), (15, nt ((i : Nat) : Int)), (16, .bool (decide (((i : Nat) : Int) < 10))), (17, .bool (decide (((i : Nat) : Int) < 10)))] (by kernel_rfl) ?_
  refine OI_end rfl ?_
  refine X_then ?_
  refine V_if (((i : Nat) : Int) < 10) (by kernel_rfl) (fun hc6 => ?_) (fun hc6 => ?_)
  ·
   refine V_skip ?_
   refine X_then ?_
   refine V_seq ?_
   refine V_block ?_
   refine V_region ?_
   refine OI_static 3 [(0, .slice A fs.length cap), (4, nt ((i : Nat) : Int)), (15, nt ((i : Nat) : Int)), (16, .bool (decide (((i : Nat) : Int) < 10))), (20, .slice A2 ms.length cap2), (21, .slice A fs.length cap), (22, nt ((i : Nat) : Int))] (by kernel_rfl) ?_
   obtain ⟨b7, o7, L7, rfl, hat7⟩ := ArgT.open_ hA (by first | omega | (simp only [List.length_map]; omega) | (simp; done) | (simp; omega))
   have hb7lt0 := ArgT.lt hA0 (by first | omega | (simp only [List.length_map]; omega) | (simp; done) | (simp; omega))
   have hb7lt := hat7.blk.lt
   refine OI_pure (some 23) (.indexAddr 24 (.tmp 21) (.tmp 22)) (by kernel_rfl) (pure_idxN (b := b7) (o := o7) (len := fs.length) (cap := cap) (kd := .i64) (j := i) (E := 3) (sz := 1) (by_ := 8) (by kernel_rfl) (by kernel_rfl) (by kernel_rfl) (by omega)) ?_
   obtain ⟨x8, hx9⟩ : ∃ x, fs[i]? = some x := ⟨_, List.getElem?_eq_getElem (by first | omega | (simp only [List.length_map]; omega))⟩
   refine OI_cellR 3 (.tmp 23) (o7 + i * 1) (nt x8) (some 24) (by kernel_rfl) (by kernel_rfl) hat7.blk (m := 1) (by kernel_rfl) (AtR.cell0 hat7 (es_at hx9) rfl) ?_
   refine OI_static 6 [(0, .slice (some ⟨b7, o7, none⟩) fs.length cap), (4, nt ((i : Nat) : Int)), (15, nt ((i : Nat) : Int)), (16, .bool (decide (((i : Nat) : Int) < 10))), (20, .slice A2 ms.length cap2), (25, nt (bAnd x8 16777215))] (by kernel_rfl) ?_
   refine OI_slit (E := 3) (zv := nt 0) (sz := 1) (by_ := 8) 24 1 #[(0, (Operand.tmp 25))] [nt (bAnd x8 16777215)] [nt (bAnd x8 16777215)] (some 26) (by kernel_rfl) (by kernel_rfl) (by kernel_rfl) (by omega) rfl (by omega) (by intro v hv; simp only [List.mem_cons, List.not_mem_nil, or_false] at hv; rcases hv with rfl <;> rfl) (by kernel_rfl) rfl ?_
   intro b10 w10 e10 hb10 k10 z10
   have hsz11 := Keep.size k10
   replace hat7 := hat7.keep k10 (fun f => f)
   replace hA2 := SlT.keep0 hA2 k10
   replace hK0 := Keep.tr hK0 (Keep.ofNone k10)
   replace hk3 := Keep.tr hk3 (Keep.ofNone k10)
   have hb10lt := hb10.lt
   refine OI_append (t := 24) (at2 := 24) (E := 3) (E2 := 3) (sz := 1) (by_ := 8) (zv := nt 0) (m := ms.length) (k := 1) (.tmp 20) (.tmp 26) (.slice A2 ms.length cap2) (.slice (some ⟨b10, 0, none⟩) 1 1) (some 27) (by kernel_rfl) (by kernel_rfl) (by kernel_rfl) (by kernel_rfl) (by kernel_rfl) (by kernel_rfl) (by kernel_rfl) (SlT.slr hA2) (slr_one hb10 (intc_len (bAnd x8 16777215))) (intc_one (bAnd x8 16777215)) (by first | omega | (simp only [List.length_nil]; omega)) (by omega) (by first | omega | (simp only [List.length_nil]; omega)) (by omega) ?_
   intro vv9 w12 hap
   obtain ⟨A12, cap12, rfl, hA12, hk12, own12x⟩ := app_one (f := intc) (xs := ms) (x := (bAnd x8 16777215)) (A := A2) (cap := cap2) hap (fun x _ => intc_len x) (intc_len _)
   have own12 : ∀ q, inA A12 q → w.heap.size ≤ q := fun q hq => by rcases own12x q hq with h | h; exact ow2 q h; (show w.heap.size ≤ q; omega)
   have hsz13 := Keep.size hk12
   replace hat7 := hat7.keep hk12 (fun hs => by have h1 := ow2 _ hs; have h2 := lt2 _ hs; omega)
   replace hK0 := Keep.fresh hK0 hk12 (by intro i hi hs; first | exact hs | (exfalso; have h1 := ow2 i hs; have h2 := lt2 i hs; omega) | (have h1 := ow2 i hs; have h2 := lt2 i hs; show _ ∨ _; omega))
   replace hk3 := Keep.fresh hk3 hk12 (by intro i hi hs; first | exact hs | (exfalso; have h1 := ow2 i hs; have h2 := lt2 i hs; omega) | (have h1 := ow2 i hs; have h2 := lt2 i hs; show _ ∨ _; omega))
   have lt12 := SlT.lt hA12
   refine OI_static 9 [(0, .slice (some ⟨b7, o7, none⟩) fs.length cap), (3, .slice A12 ((ms ++ [bAnd x8 16777215]).length) cap12), (4, nt ((i : Nat) : Int)), (15, nt ((i : Nat) : Int)), (16, .bool (decide (((i : Nat) : Int) < 10)))] (by kernel_rfl) ?_
   refine OI_end rfl ?_
   refine X_block ?_
   refine X_then ?_
   refine V_region ?_
   have hw14 : IntKind.i64.wrap (((i : Nat) : Int) + 1) = ((i + 1 : Nat) : Int) := (wrap64_id (by omega) (by omega)).trans (by omega)
   refine OI_static 2 [(0, .slice (some ⟨b7, o7, none⟩) fs.length cap), (3, .slice A12 ((ms ++ [bAnd x8 16777215]).length) cap12), (15, nt ((i : Nat) : Int)), (16, .bool (decide (((i : Nat) : Int) < 10))), (19, nt (IntKind.i64.wrap (((i : Nat) : Int) + 1)))] (by kernel_rfl) ?_
   refine OI_eq [(0, .slice (some ⟨b7, o7, none⟩) fs.length cap), (3, .slice A12 ((ms ++ [bAnd x8 16777215]).length) cap12), (15, nt ((i : Nat) : Int)), (16, .bool (decide (((i : Nat) : Int) < 10))), (19, nt ((i + 1 : Nat) : Int))] (by rw [hw14]) ?_
   refine OI_static 3 [(0, .slice (some ⟨b7, o7, none⟩) fs.length cap), (3, .slice A12 ((ms ++ [bAnd x8 16777215]).length) cap12), (4, nt ((i + 1 : Nat) : Int)), (15, nt ((i : Nat) : Int)), (16, .bool (decide (((i : Nat) : Int) < 10)))] (by kernel_rfl) ?_
   refine OI_end rfl ?_
   exact V_again (k2 - 1) (by omega) [(0, .slice (some ⟨b7, o7, none⟩) fs.length cap), (3, .slice A12 ((ms ++ [bAnd x8 16777215]).length) cap12), (4, nt ((i + 1 : Nat) : Int))] rfl ⟨i + 1, A12, cap12, ms ++ [bAnd x8 16777215], by omega, by rw [msk24_step hx9, ← hms], hA12, own12, hk3, rfl⟩
  ·
   refine V_exit ?_
   refine X_exit_then ?_
   refine X_exit_then ?_
   refine X_exit_here ?_
   refine X_then ?_
   refine V_seq ?_
   refine V_region ?_
   refine OI_static 1 [(3, .slice A2 ms.length cap2), (29, .slice A2 ms.length cap2)] (by kernel_rfl) ?_
   have hie : i = min fs.length 10 := by omega
   have htk : fs.take i = fs.take 10 := by rw [hie]; rcases Nat.le_total fs.length 10 with h9 | h9; (rw [Nat.min_eq_left h9, List.take_length, List.take_of_length_le h9]); rw [Nat.min_eq_right h9]
   rw [htk] at hms
   have hok9 := msk24_ok (fs := fs.take 10) (by rw [List.length_take]; omega)
   rw [← hms] at hok9
   refine OI_call { callee := (Callee.value (Operand.func 17)), args := #[(Operand.tmp 29)], argTypes := #[24] } 17 #[.slice A2 ms.length cap2] (some 30) (by kernel_rfl) (by kernel_rfl) (by kernel_rfl) (new_ok A2 cap2 ms _ (SlT.arg hA2) (by omega) hok9) ?_
   rintro _ w15 ⟨l17, F18, rfl, ho19, hk16, hge20⟩
   refine ⟨_, rfl, ?_⟩
   have hsz21 := Keep.size hk16
   replace hA := ArgT.keep0 hA hk16
   replace hA2 := SlT.keep0 hA2 hk16
   replace hK0 := Keep.tr hK0 (Keep.ofNone hk16)
   have own22 : ∀ q, F18 q → w1.heap.size ≤ q := fun q hq => by have h1 := hge20 q hq; omega
   have lt23 := Led.lt ho19
   have dis24 : ∀ q, F18 q → ¬ inA A2 q := fun q h1 h2 => by have h3 := hge20 q h1; have h4 := lt2 q h2; omega
   have hl17lt : l17 < w15.heap.size := Led.lt ho19 _ (Led.at_ ho19)
   have hl17ge := hge20 _ (Led.at_ ho19)
   refine OI_static 7 [(3, .slice A2 ms.length cap2), (5, pt l17), (6, nt 0)] (by kernel_rfl) ?_
   refine OI_end rfl ?_
   refine X_then ?_
   refine V_seq ?_
   refine V_region ?_
   refine OI_static 1 [(5, pt l17), (6, nt 0), (34, .slice A2 ms.length cap2)] (by kernel_rfl) ?_
   refine OI_call { callee := (Callee.value (Operand.func 18)), args := #[(Operand.tmp 34)], argTypes := #[24] } 18 #[.slice A2 ms.length cap2] (some 35) (by kernel_rfl) (by kernel_rfl) (by kernel_rfl) (rnew6_weak A2 cap2 ms _ (SlT.arg hA2) (by omega)) ?_
   rintro _ w25 ⟨pv27, n28, rfl, hk26⟩
   refine ⟨_, rfl, ?_⟩
   have hsz29 := Keep.size hk26
   replace hA := ArgT.keep0 hA hk26
   replace hA2 := SlT.keep0 hA2 hk26
   replace hK0 := Keep.tr hK0 (Keep.ofNone hk26)
   replace ho19 := Led.keep ho19 hk26 (fun _ _ f => f)
   refine OI_static 7 [(5, pt l17), (6, nt 0), (7, .pointer pv27)] (by kernel_rfl) ?_
   refine OI_end rfl ?_
   refine X_then ?_
   refine V_seq ?_
   refine V_region ?_
   refine OI_static 1 [(5, pt l17), (6, nt 0), (7, .pointer pv27), (38, pt l17)] (by kernel_rfl) ?_
   refine OI_call { callee := (Callee.value (Operand.func 19)), args := #[], argTypes := #[] } 19 #[] (some 39) (by kernel_rfl) (by kernel_rfl) (by kernel_rfl) (new_votT _) ?_
   rintro _ w32 ⟨g34, F35, rfl, ho36, hk33, hge37⟩
   refine ⟨_, rfl, ?_⟩
   have hsz38 := Keep.size hk33
   replace hA := ArgT.keep0 hA hk33
   replace hA2 := SlT.keep0 hA2 hk33
   replace hK0 := Keep.tr hK0 (Keep.ofNone hk33)
   replace ho19 := Led.keep ho19 hk33 (fun _ _ f => f)
   have own39 : ∀ q, F35 q → w25.heap.size ≤ q := fun q hq => by have h1 := hge37 q hq; omega
   have lt40 := VotT.lt ho36
   have dis41 : ∀ q, F35 q → ¬ inA A2 q := fun q h1 h2 => by have h3 := hge37 q h1; have h4 := lt2 q h2; omega
   have dis42 : ∀ q, F35 q → ¬ F18 q := fun q h1 h2 => by have h3 := hge37 q h1; have h4 := lt23 q h2; omega
   have hg34lt : g34 < w32.heap.size := VotT.lt ho36 _ (VotT.at_ ho36)
   have hg34ge := hge37 _ (VotT.at_ ho36)
   refine OI_static 3 [(5, pt l17), (6, nt 0), (38, pt l17), (39, pt g34), (40, .pointer pv27)] (by kernel_rfl) ?_
   refine OI_call { callee := (Callee.value (Operand.func 20)), args := #[], argTypes := #[] } 20 #[] (some 41) (by kernel_rfl) (by kernel_rfl) (by kernel_rfl) (rnew11_weak _) ?_
   rintro _ w43 ⟨pv45, rfl, hk44⟩
   refine ⟨_, rfl, ?_⟩
   have hsz46 := Keep.size hk44
   replace hA := ArgT.keep0 hA hk44
   replace hA2 := SlT.keep0 hA2 hk44
   replace hK0 := Keep.tr hK0 (Keep.ofNone hk44)
   replace ho19 := Led.keep ho19 hk44 (fun _ _ f => f)
   replace ho36 := VotT.keep ho36 hk44 (fun _ _ f => f)
   refine OI_static 5 [(5, pt l17), (6, nt 0), (42, .agg #[pt l17, pt g34, .pointer pv27, .pointer pv45, nt 0])] (by kernel_rfl) ?_
   refine OI_box 33 (.tmp 42) (.agg #[pt l17, pt g34, .pointer pv27, .pointer pv45, nt 0]) [pt l17, pt g34, .pointer pv27, .pointer pv45, nt 0] (some 43) (by kernel_rfl) (by kernel_rfl) (by kernel_rfl) ?_
   intro b47 w47 e47 hb47 k47 z47
   have hsz48 := Keep.size k47
   replace hA := ArgT.keep0 hA k47
   replace hA2 := SlT.keep0 hA2 k47
   replace hK0 := Keep.tr hK0 (Keep.ofNone k47)
   replace ho19 := Led.keep ho19 k47 (fun _ _ f => f)
   replace ho36 := VotT.keep ho36 k47 (fun _ _ f => f)
   have hb47lt := hb47.lt
   refine OI_static 7 [(5, pt l17), (6, nt 0), (9, pt b47)] (by kernel_rfl) ?_
   refine OI_end rfl ?_
   refine X_then ?_
   refine V_seq ?_
   refine V_seq ?_
   refine V_region ?_
   refine OI_static 10 [(9, pt b47), (50, .bool false), (53, .pointer (some ⟨b47, 1, none⟩))] (by kernel_rfl) ?_
   refine OI_cell 29 (.tmp 53) 1 (pt g34) (some 54) (by kernel_rfl) (by kernel_rfl) hb47 (m := 1) (by kernel_rfl) rfl ?_
   refine OI_static 13 [(9, pt b47), (56, .bool false)] (by kernel_rfl) ?_
   refine OI_end rfl ?_
   refine X_then ?_
   refine V_false rfl ?_
   refine V_skip ?_
   refine X_then ?_
   refine V_seq ?_
   refine V_region ?_
   refine OI_static 2 [(2, pt b47)] (by kernel_rfl) ?_
   refine OI_end rfl ?_
   refine X_then ?_
   refine V_ret ?_
   exact X_return _ rfl ⟨b47, g34, l17, F35, F18, pv27, pv45, rfl, hb47, ho36, by rw [hms] at ho19; exact ho19, hK0, by omega, fun q hq => ⟨by have h1 := own39 q hq; omega, by have h1 := lt40 q hq; omega⟩, fun q hq => ⟨by have h1 := own22 q hq; omega, by have h1 := lt23 q hq; omega⟩, dis42⟩
 ·
  refine OI_eq [(0, .slice A fs.length cap), (3, .slice A2 ms.length cap2), (4, nt ((i : Nat) : Int)), (14, .bool false)] (by first | simp [hg5] | rfl) ?_
  refine OI_static 8 [(0, .slice A fs.length cap), (3, .slice A2 ms.length cap2), (4, nt ((i : Nat) : Int)), (15, undef), (16, undef), (17, .bool false)] (by kernel_rfl) ?_
  refine OI_end rfl ?_
  refine X_then ?_
  refine V_false rfl ?_
  refine V_exit ?_
  refine X_exit_then ?_
  refine X_exit_then ?_
  refine X_exit_here ?_
  refine X_then ?_
  refine V_seq ?_
  refine V_region ?_
  refine OI_static 1 [(3, .slice A2 ms.length cap2), (29, .slice A2 ms.length cap2)] (by kernel_rfl) ?_
  have hie : i = min fs.length 10 := by omega
  have htk : fs.take i = fs.take 10 := by rw [hie]; rcases Nat.le_total fs.length 10 with h9 | h9; (rw [Nat.min_eq_left h9, List.take_length, List.take_of_length_le h9]); rw [Nat.min_eq_right h9]
  rw [htk] at hms
  have hok9 := msk24_ok (fs := fs.take 10) (by rw [List.length_take]; omega)
  rw [← hms] at hok9
  refine OI_call { callee := (Callee.value (Operand.func 17)), args := #[(Operand.tmp 29)], argTypes := #[24] } 17 #[.slice A2 ms.length cap2] (some 30) (by kernel_rfl) (by kernel_rfl) (by kernel_rfl) (new_ok A2 cap2 ms _ (SlT.arg hA2) (by omega) hok9) ?_
  rintro _ w49 ⟨l51, F52, rfl, ho53, hk50, hge54⟩
  refine ⟨_, rfl, ?_⟩
  have hsz55 := Keep.size hk50
  replace hA := ArgT.keep0 hA hk50
  replace hA2 := SlT.keep0 hA2 hk50
  replace hK0 := Keep.tr hK0 (Keep.ofNone hk50)
  have own56 : ∀ q, F52 q → w1.heap.size ≤ q := fun q hq => by have h1 := hge54 q hq; omega
  have lt57 := Led.lt ho53
  have dis58 : ∀ q, F52 q → ¬ inA A2 q := fun q h1 h2 => by have h3 := hge54 q h1; have h4 := lt2 q h2; omega
  have hl51lt : l51 < w49.heap.size := Led.lt ho53 _ (Led.at_ ho53)
  have hl51ge := hge54 _ (Led.at_ ho53)
  refine OI_static 7 [(3, .slice A2 ms.length cap2), (5, pt l51), (6, nt 0)] (by kernel_rfl) ?_
  refine OI_end rfl ?_
  refine X_then ?_
  refine V_seq ?_
  refine V_region ?_
  refine OI_static 1 [(5, pt l51), (6, nt 0), (34, .slice A2 ms.length cap2)] (by kernel_rfl) ?_
  refine OI_call { callee := (Callee.value (Operand.func 18)), args := #[(Operand.tmp 34)], argTypes := #[24] } 18 #[.slice A2 ms.length cap2] (some 35) (by kernel_rfl) (by kernel_rfl) (by kernel_rfl) (rnew6_weak A2 cap2 ms _ (SlT.arg hA2) (by omega)) ?_
  rintro _ w59 ⟨pv61, n62, rfl, hk60⟩
  refine ⟨_, rfl, ?_⟩
  have hsz63 := Keep.size hk60
  replace hA := ArgT.keep0 hA hk60
  replace hA2 := SlT.keep0 hA2 hk60
  replace hK0 := Keep.tr hK0 (Keep.ofNone hk60)
  replace ho53 := Led.keep ho53 hk60 (fun _ _ f => f)
  refine OI_static 7 [(5, pt l51), (6, nt 0), (7, .pointer pv61)] (by kernel_rfl) ?_
  refine OI_end rfl ?_
  refine X_then ?_
  refine V_seq ?_
  refine V_region ?_
  refine OI_static 1 [(5, pt l51), (6, nt 0), (7, .pointer pv61), (38, pt l51)] (by kernel_rfl) ?_
  refine OI_call { callee := (Callee.value (Operand.func 19)), args := #[], argTypes := #[] } 19 #[] (some 39) (by kernel_rfl) (by kernel_rfl) (by kernel_rfl) (new_votT _) ?_
  rintro _ w66 ⟨g68, F69, rfl, ho70, hk67, hge71⟩
  refine ⟨_, rfl, ?_⟩
  have hsz72 := Keep.size hk67
  replace hA := ArgT.keep0 hA hk67
  replace hA2 := SlT.keep0 hA2 hk67
  replace hK0 := Keep.tr hK0 (Keep.ofNone hk67)
  replace ho53 := Led.keep ho53 hk67 (fun _ _ f => f)
  have own73 : ∀ q, F69 q → w59.heap.size ≤ q := fun q hq => by have h1 := hge71 q hq; omega
  have lt74 := VotT.lt ho70
  have dis75 : ∀ q, F69 q → ¬ inA A2 q := fun q h1 h2 => by have h3 := hge71 q h1; have h4 := lt2 q h2; omega
  have dis76 : ∀ q, F69 q → ¬ F52 q := fun q h1 h2 => by have h3 := hge71 q h1; have h4 := lt57 q h2; omega
  have hg68lt : g68 < w66.heap.size := VotT.lt ho70 _ (VotT.at_ ho70)
  have hg68ge := hge71 _ (VotT.at_ ho70)
  refine OI_static 3 [(5, pt l51), (6, nt 0), (38, pt l51), (39, pt g68), (40, .pointer pv61)] (by kernel_rfl) ?_
  refine OI_call { callee := (Callee.value (Operand.func 20)), args := #[], argTypes := #[] } 20 #[] (some 41) (by kernel_rfl) (by kernel_rfl) (by kernel_rfl) (rnew11_weak _) ?_
  rintro _ w77 ⟨pv79, rfl, hk78⟩
  refine ⟨_, rfl, ?_⟩
  have hsz80 := Keep.size hk78
  replace hA := ArgT.keep0 hA hk78
  replace hA2 := SlT.keep0 hA2 hk78
  replace hK0 := Keep.tr hK0 (Keep.ofNone hk78)
  replace ho53 := Led.keep ho53 hk78 (fun _ _ f => f)
  replace ho70 := VotT.keep ho70 hk78 (fun _ _ f => f)
  refine OI_static 5 [(5, pt l51), (6, nt 0), (42, .agg #[pt l51, pt g68, .pointer pv61, .pointer pv79, nt 0])] (by kernel_rfl) ?_
  refine OI_box 33 (.tmp 42) (.agg #[pt l51, pt g68, .pointer pv61, .pointer pv79, nt 0]) [pt l51, pt g68, .pointer pv61, .pointer pv79, nt 0] (some 43) (by kernel_rfl) (by kernel_rfl) (by kernel_rfl) ?_
  intro b81 w81 e81 hb81 k81 z81
  have hsz82 := Keep.size k81
  replace hA := ArgT.keep0 hA k81
  replace hA2 := SlT.keep0 hA2 k81
  replace hK0 := Keep.tr hK0 (Keep.ofNone k81)
  replace ho53 := Led.keep ho53 k81 (fun _ _ f => f)
  replace ho70 := VotT.keep ho70 k81 (fun _ _ f => f)
  have hb81lt := hb81.lt
  refine OI_static 7 [(5, pt l51), (6, nt 0), (9, pt b81)] (by kernel_rfl) ?_
  refine OI_end rfl ?_
  refine X_then ?_
  refine V_seq ?_
  refine V_seq ?_
  refine V_region ?_
  refine OI_static 10 [(9, pt b81), (50, .bool false), (53, .pointer (some ⟨b81, 1, none⟩))] (by kernel_rfl) ?_
  refine OI_cell 29 (.tmp 53) 1 (pt g68) (some 54) (by kernel_rfl) (by kernel_rfl) hb81 (m := 1) (by kernel_rfl) rfl ?_
  refine OI_static 13 [(9, pt b81), (56, .bool false)] (by kernel_rfl) ?_
  refine OI_end rfl ?_
  refine X_then ?_
  refine V_false rfl ?_
  refine V_skip ?_
  refine X_then ?_
  refine V_seq ?_
  refine V_region ?_
  refine OI_static 2 [(2, pt b81)] (by kernel_rfl) ?_
  refine OI_end rfl ?_
  refine X_then ?_
  refine V_ret ?_
  exact X_return _ rfl ⟨b81, g68, l51, F69, F52, pv61, pv79, rfl, hb81, ho70, by rw [hms] at ho53; exact ho53, hK0, by omega, fun q hq => ⟨by have h1 := own73 q hq; omega, by have h1 := lt74 q hq; omega⟩, fun q hq => ⟨by have h1 := own56 q hq; omega, by have h1 := lt57 q hq; omega⟩, dis76⟩
end Go.Al


namespace Go.Al
open Go Go.RowKit Go.Proofs
/-! ### Locks, by accounts and ids -/
theorem mem_getC {cs : List Ci} : Srt cs → ∀ c ∈ cs, getC c.a c.b cs = some c.v := by
  induction cs with
  | nil => intro _ c hc; cases hc
  | cons x l ih =>
    intro hs c hc
    have hs2 := List.pairwise_cons.1 hs
    simp only [getC]
    rcases List.mem_cons.1 hc with rfl | hc
    · rw [if_pos ⟨rfl, rfl⟩]
    · rw [if_neg (fun h => by have := hs2.1 c hc; unfold ltC at this; omega)]
      exact ih hs2.2 c hc
theorem getC_mem {a b v : Int} : ∀ {cs : List Ci}, getC a b cs = some v → ⟨a, b, v⟩ ∈ cs
  | [], h => by cases h
  | x :: l, h => by
    simp only [getC] at h
    split at h
    · rename_i he
      cases h
      obtain ⟨x1, x2, x3⟩ := x
      simp only at he
      rw [he.1, he.2]; exact List.mem_cons_self ..
    · exact List.mem_cons_of_mem _ (getC_mem h)
theorem getC_set (a b x : Int) : ∀ (cs : List Ci), Srt cs → ∀ a' b', getC a' b' (setC a b x cs) = if a' = a ∧ b' = b then some x else getC a' b' cs
  | [], _, a', b' => by
    simp only [setC, getC]
    by_cases h : a' = a ∧ b' = b
    · rw [if_pos ⟨h.1.symm, h.2.symm⟩, if_pos h]
    · rw [if_neg (fun e => h ⟨e.1.symm, e.2.symm⟩), if_neg h]
  | c :: l, hs, a', b' => by
    have hs2 := List.pairwise_cons.1 hs
    have ih := getC_set a b x l hs2.2 a' b'
    simp only [setC]
    split
    · rename_i he
      simp only [getC]
      by_cases h : a' = a ∧ b' = b
      · rw [if_pos ⟨h.1.symm, h.2.symm⟩, if_pos h]
      · rw [if_neg (fun e => h ⟨e.1.symm, e.2.symm⟩), if_neg h, if_neg (fun e => h ⟨by omega, by omega⟩)]
    · rename_i he
      split
      · simp only [getC]
        rw [ih]
        by_cases h : a' = a ∧ b' = b
        · rw [if_pos h, if_pos h, if_neg (fun e => he ⟨by omega, by omega⟩)]
        · rw [if_neg h, if_neg h]
      · simp only [getC]
        by_cases h : a' = a ∧ b' = b
        · rw [if_pos ⟨h.1.symm, h.2.symm⟩, if_pos h]
        · rw [if_neg (fun e => h ⟨e.1.symm, e.2.symm⟩), if_neg h]
theorem getC_gt {a b : Int} {cs : List Ci} (h : ∀ y ∈ cs, ltC a b y.a y.b) : getC a b cs = none := (none_later h).1
theorem getC_del (a b : Int) : ∀ (cs : List Ci), Srt cs → ∀ a' b', getC a' b' (delC a b cs) = if a' = a ∧ b' = b then none else getC a' b' cs
  | [], _, a', b' => by simp only [delC, getC]; split <;> rfl
  | c :: l, hs, a', b' => by
    have hs2 := List.pairwise_cons.1 hs
    have ih := getC_del a b l hs2.2 a' b'
    simp only [delC]
    split
    · rename_i he
      by_cases h : a' = a ∧ b' = b
      · rw [if_pos h]
        exact getC_gt (fun y hy => by have := hs2.1 y hy; rw [h.1, h.2, ← he.1, ← he.2]; exact this)
      · rw [if_neg h]; simp only [getC]
        rw [if_neg (fun e => h ⟨by omega, by omega⟩)]
    · rename_i he
      simp only [getC]
      rw [ih]
      by_cases h : a' = a ∧ b' = b
      · rw [if_pos h, if_pos h, if_neg (fun e => he ⟨by omega, by omega⟩)]
      · rw [if_neg h, if_neg h]
def LkOk (cs : List Ci) : Prop := Srt cs ∧ ∀ c ∈ cs, 0 < c.v ∧ c.v ≤ 1073741824
def lkv (cs : List Ci) (a t : Int) : Int := (getC a t cs).getD 0
theorem lockM_le : ∀ (l : List (Int × Int)) (m b : Int), lockM l m ≤ b ↔ m ≤ b ∧ ∀ q ∈ l, q.2 ≤ b
  | [], m, b => by simp [lockM]
  | q :: l, m, b => by
    simp only [lockM]
    rw [lockM_le l _ b]
    simp only [List.mem_cons, forall_eq_or_imp]
    split <;> constructor <;> rintro ⟨h1, h2⟩
    · exact ⟨by omega, h1, h2⟩
    · exact ⟨h2.1, h2.2⟩
    · exact ⟨h1, by omega, h2⟩
    · exact ⟨h1, h2.2⟩
theorem lockedL_le (cs : List Ci) (a b : Int) : lockedL cs a ≤ b ↔ 0 ≤ b ∧ ∀ c ∈ cs, c.a = a → c.v ≤ b := by
  unfold lockedL rowL
  rw [lockM_le]
  constructor
  · rintro ⟨h1, h2⟩
    exact ⟨h1, fun c hc ha => h2 (c.b, c.v) (List.mem_map.2 ⟨c, List.mem_filter.2 ⟨hc, by simp [ha]⟩, rfl⟩)⟩
  · rintro ⟨h1, h2⟩
    refine ⟨h1, fun q hq => ?_⟩
    obtain ⟨c, hc, rfl⟩ := List.mem_map.1 hq
    obtain ⟨h3, h4⟩ := List.mem_filter.1 hc
    exact h2 c h3 (by simpa using h4)
theorem lockedL_lkv {cs : List Ci} (h : LkOk cs) (a b : Int) : lockedL cs a ≤ b ↔ 0 ≤ b ∧ ∀ t, lkv cs a t ≤ b := by
  rw [lockedL_le]
  constructor
  · rintro ⟨h1, h2⟩
    refine ⟨h1, fun t => ?_⟩
    unfold lkv
    cases hg : getC a t cs with
    | none => exact h1
    | some v => exact h2 _ (getC_mem hg) rfl
  · rintro ⟨h1, h2⟩
    refine ⟨h1, fun c hc ha => ?_⟩
    have := h2 c.b
    unfold lkv at this
    rw [← ha, mem_getC h.1 c hc] at this
    exact this
theorem lkv_bnd {cs : List Ci} (h : LkOk cs) (a t : Int) : 0 ≤ lkv cs a t ∧ lkv cs a t ≤ 1073741824 := by
  unfold lkv
  cases hg : getC a t cs with
  | none => exact ⟨Int.le_refl _, by decide⟩
  | some v => have := h.2 _ (getC_mem hg); exact ⟨by show 0 ≤ v; simp only at this; omega, by show v ≤ _; simp only at this; omega⟩
theorem LkOk.nil : LkOk [] := ⟨Srt.nil, fun c hc => by cases hc⟩
theorem setC_mem3 {a b v : Int} {y : Ci} : ∀ {cs : List Ci}, y ∈ setC a b v cs → y = ⟨a, b, v⟩ ∨ y ∈ cs
  | [], h => by simp only [setC, List.mem_singleton] at h; exact .inl h
  | x :: l, h => by
    simp only [setC] at h
    split at h
    · rcases List.mem_cons.1 h with h | h
      · exact .inl h
      · exact .inr (List.mem_cons_of_mem _ h)
    · split at h
      · rcases List.mem_cons.1 h with rfl | h
        · exact .inr (List.mem_cons_self ..)
        · exact (setC_mem3 h).imp id (List.mem_cons_of_mem _)
      · rcases List.mem_cons.1 h with h | h
        · exact .inl h
        · exact .inr h
theorem delC_mem3 {a b : Int} {y : Ci} : ∀ {cs : List Ci}, y ∈ delC a b cs → y ∈ cs
  | [], h => by simp [delC] at h
  | x :: l, h => by
    simp only [delC] at h
    split at h
    · exact List.mem_cons_of_mem _ h
    · rcases List.mem_cons.1 h with rfl | h
      · exact List.mem_cons_self ..
      · exact List.mem_cons_of_mem _ (delC_mem3 h)
theorem LkOk.lock {cs : List Ci} (h : LkOk cs) (a t n : Int) : LkOk (lockC cs a t n) := by
  unfold lockC
  split
  · split
    · exact ⟨(h.1.del a t).1, fun c hc => h.2 c (delC_mem3 hc)⟩
    · refine ⟨(Srt.set h.1).1, fun c hc => ?_⟩
      rcases setC_mem3 hc with rfl | hc
      · simp only; omega
      · exact h.2 c hc
  · exact h
theorem lkv_lock {cs : List Ci} (h : LkOk cs) {a : Int} (ha : isA a = true) (t n a' t' : Int) : lkv (lockC cs a t n) a' t' = if a' = a ∧ t' = t then (if n ≤ 0 ∨ n > 1073741824 then 0 else n) else lkv cs a' t' := by
  unfold lkv lockC
  rw [if_pos ha]
  split
  · rw [getC_del a t cs h.1]; split <;> rfl
  · rw [getC_set a t n cs h.1]; split <;> rfl
theorem hasAt_iff {cs : List Ci} (h : LkOk cs) {a t n : Int} : hasAt t n (rowL a cs) = true ↔ ∃ v, getC a t cs = some v ∧ n ≤ v := by
  unfold hasAt rowL
  rw [List.any_eq_true]
  constructor
  · rintro ⟨x, hx, h2⟩
    obtain ⟨c, hc, rfl⟩ := List.mem_map.1 hx
    obtain ⟨h3, h4⟩ := List.mem_filter.1 hc
    simp only [Bool.and_eq_true, decide_eq_true_eq] at h2
    have h5 : c.a = a := by simpa using h4
    exact ⟨c.v, by rw [← h5, ← h2.1]; exact mem_getC h.1 c h3, h2.2⟩
  · rintro ⟨v, hv, hn⟩
    exact ⟨(t, v), List.mem_map.2 ⟨⟨a, t, v⟩, List.mem_filter.2 ⟨getC_mem hv, by simp⟩, rfl⟩, by simp [hn]⟩
theorem LkOk.raise {cs : List Ci} (h : LkOk cs) (a t n : Int) : LkOk (raiseC cs a t n) := by
  unfold raiseC
  split
  · exact h
  · exact h.lock _ _ _
theorem lkv_raise {cs : List Ci} (h : LkOk cs) {a : Int} (ha : isA a = true) {n : Int} (hn : 0 ≤ n) (hn2 : n ≤ 1073741824) (t a' t' : Int) : lkv (raiseC cs a t n) a' t' = if a' = a ∧ t' = t then imax (lkv cs a t) n else lkv cs a' t' := by
  unfold raiseC
  by_cases hh : hasAt t n (rowL a cs) = true
  · rw [if_pos hh]
    obtain ⟨v, hv, h2⟩ := (hasAt_iff h).1 hh
    split
    · rename_i he
      rw [he.1, he.2]; unfold lkv imax; rw [hv]
      show v = if n > v then n else v
      rw [if_neg (by omega)]
    · rfl
  · rw [if_neg hh, lkv_lock h ha]
    split
    · have hlt : lkv cs a t < n ∨ (lkv cs a t = 0 ∧ n = 0) := by
        unfold lkv
        cases hg : getC a t cs with
        | none => show (0 : Int) < n ∨ (0 : Int) = 0 ∧ n = 0; omega
        | some v =>
          left
          show v < n
          rcases Int.lt_or_le v n with h9 | h9
          · exact h9
          · exact absurd ((hasAt_iff h).2 ⟨v, hg, h9⟩) hh
      have hb := lkv_bnd h a t
      unfold imax
      split
      · split <;> omega
      · rw [if_pos (by omega)]
    · rfl
theorem imax_le (a b c : Int) : imax a b ≤ c ↔ a ≤ c ∧ b ≤ c := by unfold imax; split <;> omega
theorem eq_of_le {a b : Int} (h : ∀ c, a ≤ c ↔ b ≤ c) : a = b := by have h1 := (h a).1 (Int.le_refl _); have h2 := (h b).2 (Int.le_refl _); omega
theorem locked_raise {cs : List Ci} (h : LkOk cs) {a : Int} (ha : isA a = true) {n : Int} (hn : 0 ≤ n) (hn2 : n ≤ 1073741824) (t : Int) : lockedL (raiseC cs a t n) a = imax (lockedL cs a) n := by
  refine eq_of_le fun c => ?_
  rw [lockedL_lkv (h.raise a t n), imax_le, lockedL_lkv h]
  constructor
  · rintro ⟨h1, h2⟩
    have h3 := h2 t
    rw [lkv_raise h ha hn hn2, if_pos ⟨rfl, rfl⟩, imax_le] at h3
    refine ⟨⟨h1, fun t' => ?_⟩, h3.2⟩
    by_cases ht : t' = t
    · rw [ht]; exact h3.1
    · have := h2 t'; rw [lkv_raise h ha hn hn2, if_neg (fun e => ht e.2)] at this; exact this
  · rintro ⟨⟨h1, h2⟩, h3⟩
    refine ⟨h1, fun t' => ?_⟩
    rw [lkv_raise h ha hn hn2]
    split
    · rw [imax_le]; exact ⟨h2 t, h3⟩
    · exact h2 t'
theorem locked_other {cs : List Ci} (h : LkOk cs) {a b : Int} (ha : isA a = true) {n : Int} (hn : 0 ≤ n) (hn2 : n ≤ 1073741824) (t : Int) (hab : b ≠ a) : lockedL (raiseC cs a t n) b = lockedL cs b := by
  refine eq_of_le fun c => ?_
  rw [lockedL_lkv (h.raise a t n), lockedL_lkv h]
  have : ∀ t', lkv (raiseC cs a t n) b t' = lkv cs b t' := fun t' => by rw [lkv_raise h ha hn hn2, if_neg (fun e => hab e.1)]
  simp only [this]
theorem locked0 (a : Int) : lockedL [] a = 0 := rfl
theorem setC_len (a b v : Int) : ∀ cs : List Ci, (setC a b v cs).length ≤ cs.length + 1
  | [] => by simp [setC]
  | x :: l => by
    have := setC_len a b v l
    simp only [setC]
    split
    · simp
    · split
      · simp only [List.length_cons]; omega
      · simp
theorem delC_len (a b : Int) : ∀ cs : List Ci, (delC a b cs).length ≤ cs.length
  | [] => by simp [delC]
  | x :: l => by
    have := delC_len a b l
    simp only [delC]
    split <;> simp <;> omega
theorem lockC_len (cs : List Ci) (a i n : Int) : (lockC cs a i n).length ≤ cs.length + 1 := by
  unfold lockC
  split
  · split
    · have := delC_len a i cs; omega
    · exact setC_len _ _ _ _
  · omega
theorem raiseC_len (cs : List Ci) (a i n : Int) : (raiseC cs a i n).length ≤ cs.length + 1 := by
  unfold raiseC
  split
  · omega
  · exact lockC_len _ _ _ _
/-! ### What succeeds -/
theorem vote_go {xs : List Acc} {s : VS} {who ref : Int} {x : Vt} {q : PollS} (h1 : 0 ≤ who ∧ who ≤ 9) (h2 : okV x) (h3 : pollAt s ref = some q) (h4 : q.state = 0) (h5 : (s.rc who q.track).d = none) (h6 : capI x ≤ (acct xs who).free) (h7 : (GV.getC who ref s.cs).isSome = true ∨ (vrow s who q.track).length < 6) :
    voteE xs s who ref x = 0 ∧ voteS xs s who ref x = { s.setP ref.toNat { q with t := voteT s who ref x q } with cs := GV.setC who ref x s.cs } ∧ ∀ cs, voteC xs cs s who ref x = raiseC cs who q.track (capI x) := by
  have hE : voteE xs s who ref x = 0 := by
    unfold voteE
    rw [if_neg (by rintro (h9 | h9); exact h9 h1; exact h9 h2), h3]; dsimp only
    rw [if_neg (fun h9 => h9 h4), if_neg (by rw [h5]; decide), if_neg (by omega), if_neg ?_]
    rintro ⟨h8, h9⟩
    rcases h7 with h7 | h7
    · rw [h7] at h8; cases h8
    · omega
  refine ⟨hE, ?_, fun cs => ?_⟩
  · unfold voteS; rw [if_pos hE, h3]
  · unfold voteC; rw [if_pos hE, h3]
theorem del_go {xs : List Acc} {s : VS} {who t to level n : Int} (h1 : 0 ≤ who ∧ who ≤ 9) (h2 : 0 ≤ to ∧ to ≤ 9) (h3 : 0 ≤ t ∧ t ≤ 3) (h4 : 0 ≤ level ∧ level ≤ 6) (h5 : 0 ≤ n ∧ n ≤ 1073741824) (h6 : who ≠ to) (h7 : (s.rc who t).d = none) (h8 : vrow s who t = []) (h9 : n ≤ (acct xs who).free) :
    delE xs s who t to level n = 0 ∧ delS xs s who t to level n = getsS (s.setR who t { s.rc who t with d := some (DelS.mk to level n) }) to t (Wgt.mk (cvVotes n level) n) ∧ ∀ cs, delC2 xs cs s who t to level n = raiseC cs who t n := by
  have hE : delE xs s who t to level n = 0 := by
    unfold delE
    rw [if_neg (by rintro (h | h | h | h | h | h); exact h h1; exact h h2; exact h h3; exact h h4; exact h h5; exact h h6), if_neg (by rw [h7]; decide), if_neg (by rw [h8]; decide), if_neg (by omega)]
  refine ⟨hE, ?_, fun cs => ?_⟩
  · unfold delS; rw [if_pos hE]
  · unfold delC2; rw [if_pos hE]
theorem w64_id {x : Int} (h1 : -9223372036854775808 ≤ x) (h2 : x ≤ 9223372036854775807) : w64 x = x := wrap64_id (by omega) (by omega)
theorem capI_ok {x : Vt} (h : okV x) : capI x = x.a + x.n + x.s ∧ 0 ≤ capI x ∧ capI x ≤ 1073741824 := by
  have hb := h.1
  have e : capI x = x.a + x.n + x.s := by unfold capI; rw [w64_id (x := x.a + x.n) (by omega) (by omega), w64_id (by omega) (by omega)]
  rw [e]; omega
end Go.Al


namespace Go.Al
open Go Go.RowKit Go.Proofs
/-! ### What is lent counts -/
def knX : List Acc := newX [0, 10, 10] 10
def knV : Vt := ⟨1, true, 2, 10, 0, 0⟩
def knS1 : VS := openS VS.zero 0 1
def knS2 : VS := delS knX knS1 2 1 1 1 10
def knC2 : List Ci := delC2 knX [] knS1 2 1 1 1 10
def knS3 : VS := voteS knX knS2 1 0 knV
def knC3 : List Ci := voteC knX knC2 knS2 1 0 knV
theorem kn1 : openE VS.zero 0 1 = 0 := by kernel_rfl
theorem kn2 : delE knX knS1 2 1 1 1 10 = 0 := by kernel_rfl
theorem kn3 : voteE knX knS2 1 0 knV = 0 := by kernel_rfl
theorem kn4 : tallyT knS3 0 = ⟨30, 0, 20⟩ := by kernel_rfl
theorem kn0 : newX (msk24 ([0, 10, 10].take 10)) 10 = knX := by kernel_rfl
theorem kn5 : knC2.length < 100000 := by rw [show knC2.length = 1 by kernel_rfl]; decide

set_option maxRecDepth 10000 in
theorem known_spec (w : World) : Calls Try.prog 11 #[] w fun e w' => e = .returned (.bool true) ∧ Keep none_ w w' := by
 have hK0 : Keep none_ w w := Keep.refl _ _
 have hzhK0 := Keep.size hK0
 refine enterV Try.func11 rfl [] 48 rfl rfl rfl ?_
 refine V_pick [] rfl ?_
 refine V_seq ?_
 refine V_region ?_
 refine OI_static 1 [] (by kernel_rfl) ?_
 refine OI_end rfl ?_
 refine X_then ?_
 refine V_seq ?_
 refine V_region ?_
 refine OI_slit (E := 3) (zv := nt 0) (sz := 1) (by_ := 8) 24 3 #[(0, (Operand.const (Value.int IntKind.i64 0))), (1, (Operand.const (Value.int IntKind.i64 10))), (2, (Operand.const (Value.int IntKind.i64 10)))] [nt 0, nt 10, nt 10] [nt 0, nt 10, nt 10] (some 5) (by kernel_rfl) (by kernel_rfl) (by kernel_rfl) (by omega) rfl (by omega) (by intro v hv; simp only [List.mem_cons, List.not_mem_nil, or_false] at hv; rcases hv with rfl | rfl | rfl <;> rfl) (by kernel_rfl) rfl ?_
 intro b1 w1 e1 hb1 k1 z1
 have hsz2 := Keep.size k1
 replace hK0 := Keep.tr hK0 (Keep.ofNone k1)
 have hb1lt := hb1.lt
 refine OI_call { callee := (Callee.value (Operand.func 7)), args := #[(Operand.tmp 5)], argTypes := #[24] } 7 #[.slice (some ⟨b1, 0, none⟩) 3 3] (some 6) (by kernel_rfl) (by kernel_rfl) (by kernel_rfl) (begin_weak (some ⟨b1, 0, none⟩) 3 [0, 10, 10] _ (slt_blk (xs := [0, 10, 10]) (f := intc) hb1 (fun _ => rfl) rfl).arg (by simp)) ?_
 rintro _ w5 ⟨b7, v8, l9, F10, G11, xv12, yv13, rfl, hb14, ho15, hl16, hk6, hge17, hF18, hG19, hd20⟩
 refine ⟨_, rfl, ?_⟩
 have hsz21 := Keep.size hk6
 replace hb1 := hb1.keep hk6 (fun f => f)
 replace hK0 := Keep.tr hK0 (Keep.ofNone hk6)
 have hb7lt := hb14.lt
 have own22 : ∀ q, F10 q → w1.heap.size ≤ q ∧ q ≠ b1 ∧ q ≠ b7 := fun q hq => by have h1 := hF18 q hq; omega
 have lt23 := VotT.lt ho15
 have hb7lt := hb14.lt
 have own24 : ∀ q, G11 q → w1.heap.size ≤ q ∧ q ≠ b1 ∧ q ≠ b7 := fun q hq => by have h1 := hG19 q hq; omega
 have lt25 := Led.lt hl16
 replace hl16 : Led G11 w5 l9 knX ([] : List Ci) := by rw [kn0] at hl16; exact hl16
 refine OI_static 3 [(1, pt b7)] (by kernel_rfl) ?_
 refine OI_end rfl ?_
 refine X_then ?_
 refine V_seq ?_
 refine V_seq ?_
 refine V_region ?_
 refine OI_static 2 [(1, pt b7), (8, .bool false)] (by kernel_rfl) ?_
 refine OI_end rfl ?_
 refine X_then ?_
 refine V_false rfl ?_
 refine V_skip ?_
 refine X_then ?_
 refine V_seq ?_
 refine V_region ?_
 refine OI_static 3 [(1, pt b7), (11, .pointer (some ⟨b7, 1, none⟩))] (by kernel_rfl) ?_
 refine OI_cell 29 (.tmp 11) 1 (pt v8) (some 12) (by kernel_rfl) (by kernel_rfl) hb14 (m := 1) (by kernel_rfl) rfl ?_
 refine OI_call { callee := (Callee.value (Operand.func 8)), args := #[(Operand.tmp 12), (Operand.const (Value.int IntKind.i64 0)), (Operand.const (Value.int IntKind.i64 1))], argTypes := #[29, 3, 3] } 8 #[pt v8, nt 0, nt 1] (some 13) (by kernel_rfl) (by kernel_rfl) (by kernel_rfl) (open_specT F10 v8 VS.zero 0 1 _ ho15) ?_
 rintro _ w28 ⟨rfl, ⟨F30, ho31, hfr32⟩, hk29⟩
 refine ⟨_, rfl, ?_⟩
 have hsz33 := Keep.size hk29
 replace hb14 := hb14.keep hk29 (fun hs => by have h1 := own22 _ hs; have h2 := lt23 _ hs; omega)
 replace hK0 := Keep.fresh hK0 hk29 (by intro i hi hs; first | exact hs | (exfalso; have h1 := own22 i hs; have h2 := lt23 i hs; omega) | (have h1 := own22 i hs; have h2 := lt23 i hs; show _ ∨ _; omega))
 replace hl16 := Led.keep hl16 hk29 (fun q hq hs => hd20 q hs hq)
 have own35 : ∀ q, F30 q → w1.heap.size ≤ q ∧ q ≠ b7 := fun q hq => by rcases hfr32 q hq with h | h; (have h1 := own22 q h; have h2 := lt23 q h; omega); omega
 have lt34 := VotT.lt ho31
 have dis36 : ∀ q, F30 q → ¬ G11 q := fun q h1 h2 => by rcases hfr32 q h1 with h | h; exact hd20 q h h2; (have h4 := lt25 q h2; omega)
 replace ho31 : VotT F30 w28 v8 knS1 := by rw [show openS VS.zero 0 1 = knS1 from rfl] at ho31; exact ho31
 refine OI_pick [(1, pt b7), (13, nt (openE VS.zero 0 1))] (by kernel_rfl) ?_
 refine OI_eq [(1, pt b7), (13, nt 0)] (by rw [kn1]) ?_
 refine OI_static 6 [(1, pt b7), (2, nt 0)] (by kernel_rfl) ?_
 refine OI_end rfl ?_
 refine X_then ?_
 refine V_seq ?_
 refine V_draws (acts [8]) none_ [[0, 1, 2, 3, 4, 5, 6, 7, 8, 9]] (by kernel_rfl) (by repeat first | exact sure_body (by rintro _ _ ⟨h, _⟩; exact ⟨_, h⟩) | refine sure_then ?_ | refine sure_block ?_ | refine sure_join ?_) (by kernel_rfl) ?_
 intro w38 hk37 he39 L hL40
 have hsz41 := Keep.size hk37
 replace hb14 := hb14.keep hk37 (fun f => f)
 replace hK0 := Keep.tr hK0 (Keep.ofNone hk37)
 replace hl16 := Led.keep hl16 hk37 (fun _ _ f => f)
 replace ho31 := VotT.keep ho31 hk37 (fun _ _ f => f)
 have qhb14 := hb14
 have K42 : Keep none_ w38 w38 := Keep.refl _ _
 obtain rfl := List.mem_singleton.1 hL40
 refine GI_static [3, 4, 5, 6, 7, 8, 9] [(1, pt b7), (2, nt 0), (16, .pointer (some ⟨b7, 1, none⟩))] (by kernel_rfl) ?_
 refine GI_cell 29 (.tmp 16) 1 (pt v8) (some 17) (by kernel_rfl) (by kernel_rfl) (by kernel_rfl) qhb14 (fun f => f) (m := 1) (by kernel_rfl) rfl ?_
 refine GI_static [7, 8, 9] [(1, pt b7), (2, nt 0), (17, pt v8), (20, pt b7)] (by kernel_rfl) ?_
 refine GI_cell 28 (.tmp 20) 0 (pt l9) (some 21) (by kernel_rfl) (by kernel_rfl) (by kernel_rfl) qhb14 (fun f => f) (m := 1) (by kernel_rfl) rfl ?_
 refine GI_call0 { callee := (Callee.value (Operand.func 12)), args := #[(Operand.tmp 17), (Operand.tmp 21), (Operand.const (Value.int IntKind.i64 2)), (Operand.const (Value.int IntKind.i64 1)), (Operand.const (Value.int IntKind.i64 1)), (Operand.const (Value.int IntKind.i64 1)), (Operand.const (Value.int IntKind.i64 10))], argTypes := #[29, 28, 3, 3, 3, 3, 3] } 12 #[pt v8, pt l9, nt 2, nt 1, nt 1, nt 1, nt 10] (some 22) (by kernel_rfl) (by kernel_rfl) (by kernel_rfl) (by kernel_rfl) (by kernel_rfl) (delegate_spec F30 G11 v8 l9 knS1 knX ([] : List Ci) 2 1 1 1 10 _ ho31 hl16 dis36 (by first | decide | exact kn5)) ?_
 rintro _ w45 ⟨rfl, ⟨F47, F50, ho48, ho51, hfr49, hfr52, hdis53⟩, hk46⟩
 refine ⟨_, rfl, ?_⟩
 have hsz54 := Keep.size hk46
 replace hb14 := hb14.keep hk46 (fun hs => by rcases hs with hs | hs; (have u0 := own35 _ hs; have u1 := lt34 _ hs; omega); (have u0 := own24 _ hs; have u1 := lt25 _ hs; omega))
 replace hK0 := Keep.fresh hK0 hk46 (by intro i hi hs; first | exact hs | (rcases hs with hs | hs; (have u0 := own35 i hs; have u1 := lt34 i hs; omega); (have u0 := own24 i hs; have u1 := lt25 i hs; omega)))
 have own56 : ∀ q, F47 q → w1.heap.size ≤ q ∧ q ≠ b7 := fun q hq => by rcases hfr49 q hq with h | h; (have h1 := own35 q h; have h2 := lt34 q h; omega); omega
 have lt55 := VotT.lt ho48
 have own58 : ∀ q, F50 q → w1.heap.size ≤ q ∧ q ≠ b7 := fun q hq => by rcases hfr52 q hq with h | h; (have h1 := own24 q h; have h2 := lt25 q h; omega); omega
 have lt57 := Led.lt ho51
 replace ho48 : VotT F47 w45 v8 knS2 := by rw [show delS knX knS1 2 1 1 1 10 = knS2 from rfl] at ho48; exact ho48
 replace ho51 : Led F50 w45 l9 knX knC2 := by rw [show delC2 knX ([] : List Ci) knS1 2 1 1 1 10 = knC2 from rfl] at ho51; exact ho51
 refine GI_pick [(1, pt b7), (2, nt 0), (22, nt (delE knX knS1 2 1 1 1 10))] (by kernel_rfl) ?_
 refine GI_eq [(1, pt b7), (2, nt 0), (22, nt 0)] (by rw [kn2]) ?_
 refine GI_static [] [(1, pt b7), (2, nt 0), (3, nt 0)] (by kernel_rfl) ?_
 refine GI_end ?_
 refine X_then ?_
 refine V_seq ?_
 refine V_draws (acts [9]) none_ [[0, 1, 2, 3, 4, 5, 6, 7, 8, 9, 10]] (by kernel_rfl) (by repeat first | exact sure_body (by rintro _ _ ⟨h, _⟩; exact ⟨_, h⟩) | refine sure_then ?_ | refine sure_block ?_ | refine sure_join ?_) (by kernel_rfl) ?_
 intro w60 hk59 he61 L hL62
 have hsz63 := Keep.size hk59
 replace hb14 := hb14.keep hk59 (fun f => f)
 replace hK0 := Keep.tr hK0 (Keep.ofNone hk59)
 replace ho48 := VotT.keep ho48 hk59 (fun _ _ f => f)
 replace ho51 := Led.keep ho51 hk59 (fun _ _ f => f)
 have qhb14 := hb14
 have K64 : Keep none_ w60 w60 := Keep.refl _ _
 obtain rfl := List.mem_singleton.1 hL62
 refine GI_static [3, 4, 5, 6, 7, 8, 9, 10] [(1, pt b7), (2, nt 0), (3, nt 0), (25, .pointer (some ⟨b7, 1, none⟩))] (by kernel_rfl) ?_
 refine GI_cell 29 (.tmp 25) 1 (pt v8) (some 26) (by kernel_rfl) (by kernel_rfl) (by kernel_rfl) qhb14 (fun f => f) (m := 1) (by kernel_rfl) rfl ?_
 refine GI_static [7, 8, 9, 10] [(1, pt b7), (2, nt 0), (3, nt 0), (26, pt v8), (29, pt b7)] (by kernel_rfl) ?_
 refine GI_cell 28 (.tmp 29) 0 (pt l9) (some 30) (by kernel_rfl) (by kernel_rfl) (by kernel_rfl) qhb14 (fun f => f) (m := 1) (by kernel_rfl) rfl ?_
 refine GI_static [9, 10] [(1, pt b7), (2, nt 0), (3, nt 0), (26, pt v8), (30, pt l9), (31, .agg #[nt 1, .bool true, nt 2, nt 10, nt 0, nt 0])] (by kernel_rfl) ?_
 refine GI_call0 { callee := (Callee.value (Operand.func 9)), args := #[(Operand.tmp 26), (Operand.tmp 30), (Operand.const (Value.int IntKind.i64 1)), (Operand.const (Value.int IntKind.i64 0)), (Operand.tmp 31)], argTypes := #[29, 28, 3, 3, 26] } 9 #[pt v8, pt l9, nt 1, nt 0, .agg #[nt 1, .bool true, nt 2, nt 10, nt 0, nt 0]] (some 32) (by kernel_rfl) (by kernel_rfl) (by kernel_rfl) (by kernel_rfl) (by kernel_rfl) (vote_spec F47 F50 v8 l9 knS2 knX knC2 1 0 (Vt.mk 1 true 2 10 0 0) _ ho48 ho51 hdis53 (by first | decide | exact kn5)) ?_
 rintro _ w67 ⟨rfl, ⟨F69, F72, ho70, ho73, hfr71, hfr74, hdis75⟩, hk68⟩
 refine ⟨_, rfl, ?_⟩
 have hsz76 := Keep.size hk68
 replace hb14 := hb14.keep hk68 (fun hs => by rcases hs with hs | hs; (have u0 := own56 _ hs; have u1 := lt55 _ hs; omega); (have u0 := own58 _ hs; have u1 := lt57 _ hs; omega))
 replace hK0 := Keep.fresh hK0 hk68 (by intro i hi hs; first | exact hs | (rcases hs with hs | hs; (have u0 := own56 i hs; have u1 := lt55 i hs; omega); (have u0 := own58 i hs; have u1 := lt57 i hs; omega)))
 have own78 : ∀ q, F69 q → w1.heap.size ≤ q ∧ q ≠ b7 := fun q hq => by rcases hfr71 q hq with h | h; (have h1 := own56 q h; have h2 := lt55 q h; omega); omega
 have lt77 := VotT.lt ho70
 have own80 : ∀ q, F72 q → w1.heap.size ≤ q ∧ q ≠ b7 := fun q hq => by rcases hfr74 q hq with h | h; (have h1 := own58 q h; have h2 := lt57 q h; omega); omega
 have lt79 := Led.lt ho73
 replace ho70 : VotT F69 w67 v8 knS3 := by rw [show voteS knX knS2 1 0 (Vt.mk 1 true 2 10 0 0) = knS3 from rfl] at ho70; exact ho70
 replace ho73 : Led F72 w67 l9 knX knC3 := by rw [show voteC knX knC2 knS2 1 0 (Vt.mk 1 true 2 10 0 0) = knC3 from rfl] at ho73; exact ho73
 refine GI_pick [(1, pt b7), (2, nt 0), (3, nt 0), (32, nt (voteE knX knS2 1 0 (Vt.mk 1 true 2 10 0 0)))] (by kernel_rfl) ?_
 refine GI_eq [(1, pt b7), (2, nt 0), (3, nt 0), (32, nt 0)] (by rw [show voteE knX knS2 1 0 (Vt.mk 1 true 2 10 0 0) = 0 from kn3]) ?_
 refine GI_static [] [(1, pt b7), (2, nt 0), (3, nt 0), (4, nt 0)] (by kernel_rfl) ?_
 refine GI_end ?_
 refine X_then ?_
 refine V_seq ?_
 refine V_region ?_
 refine OI_static 10 [(39, .bool true), (42, .pointer (some ⟨b7, 1, none⟩))] (by kernel_rfl) ?_
 refine OI_cell 29 (.tmp 42) 1 (pt v8) (some 43) (by kernel_rfl) (by kernel_rfl) hb14 (m := 1) (by kernel_rfl) rfl ?_
 refine OI_call { callee := (Callee.value (Operand.func 13)), args := #[(Operand.tmp 43), (Operand.const (Value.int IntKind.i64 0))], argTypes := #[29, 3] } 13 #[pt v8, nt 0] (some 44) (by kernel_rfl) (by kernel_rfl) (by kernel_rfl) (tally_spec F69 v8 knS3 0 _ (ho70).1) ?_
 rintro _ w81 ⟨rfl, hk82⟩
 refine ⟨_, rfl, ?_⟩
 have hsz83 := Keep.size hk82
 replace hK0 := Keep.tr hK0 (Keep.ofNone hk82)
 replace ho70 := VotT.keep ho70 hk82 (fun _ _ f => f)
 replace ho73 := Led.keep ho73 hk82 (fun _ _ f => f)
 refine OI_pick [(39, .bool true), (44, .agg (Tly.cells (tallyT knS3 0)).toArray)] (by kernel_rfl) ?_
 refine OI_eq [(39, .bool true), (44, .agg #[nt 30, nt 0, nt 20])] (by rw [kn4]; rfl) ?_
 refine OI_static 13 [(39, .bool true), (44, .agg #[nt 30, nt 0, nt 20]), (45, .agg #[nt 30, nt 0, nt 20])] (by kernel_rfl) ?_
 refine OI_pure (some 46) ((Op.binOp BinOp.eql 43 (Operand.tmp 44) (Operand.tmp 45) 43)) (by kernel_rfl) (pure_eql_same (xs := [nt 30, nt 0, nt 20]) (by kernel_rfl) (by kernel_rfl) (by kernel_rfl) (by kernel_rfl)) ?_
 refine OI_static 16 [(0, .bool true)] (by kernel_rfl) ?_
 refine OI_end rfl ?_
 refine X_then ?_
 refine V_ret ?_
 exact X_return (.bool true) rfl ⟨rfl, hK0⟩
end Go.Al


namespace Go.Al
open Go Go.RowKit Go.Proofs
theorem w64_eq (x : Int) : w64 x = (x + 9223372036854775808) % 18446744073709551616 - 9223372036854775808 := by
  show IntKind.i64.wrap x = _
  rw [IntKind.wrap_i64]
theorem addT_sub (t g h : Tly) : addT (subT (addT t g) g) h = addT t h := by
  unfold subT addT negT
  simp only [w64_eq, Tly.mk.injEq]
  refine ⟨?_, ?_, ?_⟩ <;> omega
theorem raise_lt {cs : List Ci} {m : Nat} (h : cs.length < m) (a t n : Int) : (raiseC cs a t n).length < m + 1 := by have := raiseC_len cs a t n; omega
theorem gotW_zero {v c : Int} (h1 : -9223372036854775808 ≤ v ∧ v ≤ 9223372036854775807) (h2 : -9223372036854775808 ≤ c ∧ c ≤ 9223372036854775807) : gotW ⟨0, 0⟩ ⟨v, c⟩ = ⟨v, c⟩ := by
  unfold gotW
  simp only [Int.zero_add]
  rw [w64_id h1.1 h1.2, w64_id h2.1 h2.2]
/-! ### A vote that is cast anew -/
def twS1 : VS := openS VS.zero 0 0
end Go.Al


namespace Go.Al
open Go Go.RowKit Go.Proofs
theorem gets_one {s : VS} {a t : Int} {wt : Wgt} (r0 : RecS) (c : Int × Vt) (q : PollS) (h0 : s.rc a t = r0) (hv : vrow s a t = [c]) (hp : s.ps[c.1.toNat]? = some (some q)) (hq : q.state = 0) :
    getsS s a t wt = (s.setR a t { r0 with got := gotW r0.got wt }).setP c.1.toNat { q with t := addT (subT q.t (gainT c.2 r0.got)) (gainT c.2 (gotW r0.got wt)) } := by
  unfold getsS
  rw [h0, hv]
  show retally1 _ _ _ c = _
  unfold retally1
  show (match s.ps[c.1.toNat]? with | some (some q) => _ | _ => _) = _
  rw [hp]; dsimp only
  rw [if_pos hq]; rfl
theorem cv_bnd {n level B : Int} (h1 : 0 ≤ n) (h2 : n ≤ B) (hB : B ≤ 1073741824) (h3 : 0 ≤ level ∧ level ≤ 6) : 0 ≤ cvVotes n level ∧ cvVotes n level ≤ 6 * B := by
  unfold cvVotes
  have ht : Int.tdiv n 10 = n / 10 := Int.tdiv_eq_ediv_of_nonneg h1
  rcases (by omega : level = 0 ∨ level = 1 ∨ level = 2 ∨ level = 3 ∨ level = 4 ∨ level = 5 ∨ level = 6) with rfl | rfl | rfl | rfl | rfl | rfl | rfl
  · rw [if_pos rfl, ht, w64_id (by omega) (by omega)]; omega
  all_goals (rw [if_neg (by decide), w64_id (by omega) (by omega)]; omega)
theorem bAnd_id {x : Int} {k : Nat} (hk : k ≤ 62) (h1 : 0 ≤ x) (h2 : x < 2 ^ k) : bAnd x (2 ^ k - 1) = x := by
  obtain ⟨n, rfl⟩ : ∃ n : Nat, x = n := ⟨x.toNat, by omega⟩
  have hp : (2 ^ k : Nat) ≤ 2 ^ 62 := Nat.pow_le_pow_right (by decide) hk
  have hpos : 0 < (2 ^ k : Nat) := Nat.pow_pos (by decide)
  have hn : n < 2 ^ k := by have : ((n : Nat) : Int) < ((2 ^ k : Nat) : Int) := by simpa using h2
                            omega
  unfold bAnd
  have e1 : (BitVec.ofInt 64 (n : Int) &&& BitVec.ofInt 64 ((2 : Int) ^ k - 1)).toNat = n := by
    rw [BitVec.toNat_and, BitVec.toNat_ofInt, BitVec.toNat_ofInt]
    have a1 : ((n : Int) % ((2 ^ 64 : Nat) : Int)).toNat = n := by
      rw [Int.emod_eq_of_lt (by omega) (by omega)]; omega
    have a2 : (((2 : Int) ^ k - 1) % ((2 ^ 64 : Nat) : Int)).toNat = 2 ^ k - 1 := by
      have : ((2 : Int) ^ k) = ((2 ^ k : Nat) : Int) := by simp
      rw [this, Int.emod_eq_of_lt (by omega) (by omega)]; omega
    rw [a1, a2, Nat.and_two_pow_sub_one_eq_mod, Nat.mod_eq_of_lt hn]
  rw [e1]
  exact w64_id (by omega) (by omega)
theorem vote_six {xs : List Acc} {s : VS} {who ref : Int} {x : Vt} {q : PollS} (h1 : 0 ≤ who ∧ who ≤ 9) (h2 : okV x) (h3 : pollAt s ref = some q) (h4 : q.state = 0) (h5 : (s.rc who q.track).d = none) (h6 : capI x > (acct xs who).free) : voteE xs s who ref x = 6 := by
  unfold voteE
  rw [if_neg (by rintro (h9 | h9); exact h9 h1; exact h9 h2), h3]; dsimp only
  rw [if_neg (fun h9 => h9 h4), if_neg (by rw [h5]; decide), if_pos h6]
theorem vote_not {xs : List Acc} {s : VS} {who ref : Int} {x : Vt} {k : Int} (h : voteE xs s who ref x = k) (hk : k ≠ 0) : voteS xs s who ref x = s ∧ ∀ cs, voteC xs cs s who ref x = cs := by
  refine ⟨?_, fun cs => ?_⟩
  · unfold voteS; rw [h, if_neg hk]
  · unfold voteC; rw [h, if_neg hk]
theorem del_not {xs : List Acc} {s : VS} {who t to level n k : Int} (h : delE xs s who t to level n = k) (hk : k ≠ 0) : delS xs s who t to level n = s ∧ ∀ cs, delC2 xs cs s who t to level n = cs := by
  refine ⟨?_, fun cs => ?_⟩
  · unfold delS; rw [h, if_neg hk]
  · unfold delC2; rw [h, if_neg hk]
theorem del_six {xs : List Acc} {s : VS} {who t to level n : Int} (h1 : 0 ≤ who ∧ who ≤ 9) (h2 : 0 ≤ to ∧ to ≤ 9) (h3 : 0 ≤ t ∧ t ≤ 3) (h4 : 0 ≤ level ∧ level ≤ 6) (h5 : 0 ≤ n ∧ n ≤ 1073741824) (h6 : who ≠ to) (h7 : (s.rc who t).d = none) (h8 : vrow s who t = []) (h9 : n > (acct xs who).free) : delE xs s who t to level n = 6 := by
  unfold delE
  rw [if_neg (by rintro (h | h | h | h | h | h); exact h h1; exact h h2; exact h h3; exact h h4; exact h h5; exact h h6), if_neg (by rw [h7]; decide), if_neg (by rw [h8]; decide), if_pos h9]
end Go.Al


namespace Go.Al
open Go Go.RowKit Go.Proofs
/-! ### What is lent to one who splits -/
theorem w64_0 (x : Int) : w64 (0 + w64 x) = w64 x := by simp only [w64_eq]; omega
end Go.Al


namespace Go.Al
open Go Go.RowKit Go.Proofs
/-! ### Not more than what is free -/
def fuX (free : Int) : List Acc := newX [0, free, free] 10
def fuV (n : Int) : Vt := ⟨1, true, 6, n, 0, 0⟩
def fuS2 (n : Int) : VS := { twS1.setP 0 ⟨0, addT Tly.zero (gainT (fuV n) ⟨0, 0⟩), 0, 0⟩ with cs := [⟨1, 0, fuV n⟩] }
def fuS3 (n : Int) : VS := ((fuS2 n).setR 2 0 ⟨some ⟨1, 6, n⟩, ⟨0, 0⟩, 0, 0⟩).setR 1 0 ⟨none, ⟨cvVotes n 6, n⟩, 0, 0⟩
def fuS4 (n : Int) : VS := (fuS3 n).setP 0 ⟨0, addT (subT (addT Tly.zero (gainT (fuV n) ⟨0, 0⟩)) (gainT (fuV n) ⟨0, 0⟩)) (gainT (fuV n) ⟨cvVotes n 6, n⟩), 0, 0⟩
theorem fu0 {free : Int} (h1 : 0 ≤ free) (h2 : free ≤ 1048576) : newX (msk24 ([0, free, free].take 10)) 10 = fuX free := by
  show newX [bAnd 0 16777215, bAnd free 16777215, bAnd free 16777215] 10 = _
  rw [show bAnd free 16777215 = free from bAnd_id (k := 24) (by decide) h1 (by show free < 16777216; omega), show bAnd 0 16777215 = 0 by kernel_rfl]
  rfl
theorem fuF1 (free : Int) : (acct (fuX free) 1).free = free := by kernel_rfl
theorem fuF2 (free : Int) : (acct (fuX free) 2).free = free := by kernel_rfl
theorem fuV_ok {n : Int} (h : 0 ≤ n ∧ n ≤ 2097152) : okV (fuV n) := ⟨by simp only [fuV]; omega, .inl ⟨rfl, by show (0 : Int) ≤ 6; decide, by show (6 : Int) ≤ 6; decide, rfl, rfl⟩⟩
theorem fu2 {free n : Int} (h : 0 ≤ n ∧ n ≤ 2097152) (hn : n ≤ free) : voteE (fuX free) twS1 1 0 (fuV n) = 0 ∧ voteS (fuX free) twS1 1 0 (fuV n) = fuS2 n ∧ ∀ cs, voteC (fuX free) cs twS1 1 0 (fuV n) = raiseC cs 1 0 (capI (fuV n)) := by
  have hok := fuV_ok h
  have hc := (capI_ok hok).1
  obtain ⟨g1, g2, g3⟩ := vote_go (xs := fuX free) (s := twS1) (who := 1) (ref := 0) (x := fuV n) (q := ⟨0, Tly.zero, 0, 0⟩) (by decide) hok (by kernel_rfl) rfl (by kernel_rfl) (by rw [hc, fuF1]; simp only [fuV]; omega) (.inr (by rw [show vrow twS1 1 0 = [] by kernel_rfl]; decide))
  exact ⟨g1, by rw [g2]; kernel_rfl, g3⟩
theorem fu2n {free n : Int} (h : 0 ≤ n ∧ n ≤ 2097152) (hn : n > free) : voteE (fuX free) twS1 1 0 (fuV n) = 6 ∧ voteS (fuX free) twS1 1 0 (fuV n) = twS1 ∧ ∀ cs, voteC (fuX free) cs twS1 1 0 (fuV n) = cs := by
  have hok := fuV_ok h
  have hc := (capI_ok hok).1
  have g := vote_six (xs := fuX free) (s := twS1) (who := 1) (ref := 0) (x := fuV n) (q := ⟨0, Tly.zero, 0, 0⟩) (by decide) hok (by kernel_rfl) rfl (by kernel_rfl) (by rw [hc, fuF1]; simp only [fuV]; omega)
  exact ⟨g, vote_not g (by decide)⟩
theorem fu3 {free n : Int} (h : 0 ≤ n ∧ n ≤ 2097152) (hn : n ≤ free) : delE (fuX free) (fuS2 n) 2 0 1 6 n = 0 ∧ delS (fuX free) (fuS2 n) 2 0 1 6 n = fuS4 n ∧ ∀ cs, delC2 (fuX free) cs (fuS2 n) 2 0 1 6 n = raiseC cs 2 0 n := by
  have hb := cv_bnd (level := 6) h.1 h.2 (by decide) (by decide)
  obtain ⟨g1, g2, g3⟩ := del_go (xs := fuX free) (s := fuS2 n) (who := 2) (t := 0) (to := 1) (level := 6) (n := n) (by decide) (by decide) (by decide) (by decide) ⟨h.1, by omega⟩ (by decide) (by kernel_rfl) (by kernel_rfl) (by rw [fuF2]; exact hn)
  refine ⟨g1, ?_, g3⟩
  rw [g2, gets_one RecS.zero (0, fuV n) ⟨0, addT Tly.zero (gainT (fuV n) ⟨0, 0⟩), 0, 0⟩ (by kernel_rfl) (by kernel_rfl) (by kernel_rfl) rfl, show RecS.zero.got = ⟨0, 0⟩ from rfl, gotW_zero (by omega) (by omega)]
  rfl
theorem fu3n {free n : Int} (h : 0 ≤ n ∧ n ≤ 2097152) (hn : n > free) : delE (fuX free) twS1 2 0 1 6 n = 6 ∧ delS (fuX free) twS1 2 0 1 6 n = twS1 ∧ ∀ cs, delC2 (fuX free) cs twS1 2 0 1 6 n = cs := by
  have g := del_six (xs := fuX free) (s := twS1) (who := 2) (t := 0) (to := 1) (level := 6) (n := n) (by decide) (by decide) (by decide) (by decide) ⟨h.1, by omega⟩ (by decide) (by kernel_rfl) (by kernel_rfl) (by rw [fuF2]; exact hn)
  exact ⟨g, del_not g (by decide)⟩
theorem fu5 {n : Int} (h : 0 ≤ n ∧ n ≤ 2097152) : tallyT (fuS4 n) 0 = ⟨12 * n, 0, 2 * n⟩ := by
  have e : cvVotes n 6 = 6 * n := by unfold cvVotes; rw [if_neg (by decide), w64_id (by omega) (by omega)]; omega
  rw [show tallyT (fuS4 n) 0 = addT (subT (addT Tly.zero (gainT (fuV n) ⟨0, 0⟩)) (gainT (fuV n) ⟨0, 0⟩)) (gainT (fuV n) ⟨cvVotes n 6, n⟩) by kernel_rfl, addT_sub]
  rw [show addT Tly.zero (gainT (fuV n) ⟨cvVotes n 6, n⟩) = ⟨w64 (0 + w64 (cvVotes n 6 + cvVotes n 6)), w64 (0 + 0), w64 (0 + w64 (n + n))⟩ by kernel_rfl, w64_0, w64_0, e, w64_id (x := 6 * n + 6 * n) (by omega) (by omega), w64_id (x := n + n) (by omega) (by omega)]
  rw [show 6 * n + 6 * n = 12 * n by omega, show n + n = 2 * n by omega]; rfl
theorem fu_lk {n : Int} (h : 0 ≤ n ∧ n ≤ 2097152) : lockedL (raiseC (raiseC [] 1 0 (capI (fuV n))) 2 0 n) 1 = n ∧ lockedL (raiseC (raiseC [] 1 0 (capI (fuV n))) 2 0 n) 2 = n := by
  have hc := capI_ok (fuV_ok h)
  have e : capI (fuV n) = n := by rw [hc.1]; simp only [fuV]; omega
  rw [e]
  have k1 := LkOk.nil.raise 1 0 n
  constructor
  · rw [locked_other k1 (by kernel_rfl) h.1 (by omega) 0 (by decide), locked_raise LkOk.nil (by kernel_rfl) h.1 (by omega), locked0]
    unfold imax; split <;> omega
  · rw [locked_raise k1 (by kernel_rfl) h.1 (by omega), locked_other LkOk.nil (by kernel_rfl) h.1 (by omega) 0 (by decide), locked0]
    unfold imax; split <;> omega
end Go.Al


namespace Go.Al
open Go Go.RowKit Go.Proofs
set_option maxRecDepth 10000 in
set_option maxHeartbeats 1000000 in
theorem walk_VotingFunds (free n : Int) (w : World) : Calls Try.prog 5 #[.int .i64 free, .int .i64 n] w fun e w' => e = .returned (.bool true) ∧ Keep none_ w w' := by
 have hK0 : Keep none_ w w := Keep.refl _ _
 have hzhK0 := Keep.size hK0
 refine enterV Try.func5 rfl [nt free, nt n] 127 rfl rfl rfl ?_
 refine V_pick [(0, nt free), (1, nt n)] rfl ?_
 refine V_seq ?_
 refine V_region ?_
 refine OI_static 1 [(0, nt free), (1, nt n)] (by kernel_rfl) ?_
 refine OI_end rfl ?_
 refine X_then ?_
 refine V_seq ?_
 refine V_seq ?_
 refine V_region ?_
 refine OI_static 3 [(0, nt free), (1, nt n), (10, .bool (decide (free < 0)))] (by kernel_rfl) ?_
 by_cases hg1 : free < 0
 ·
  refine OI_eq [(0, nt free), (1, nt n), (10, .bool true)] (by first | simp [hg1] | rfl) ?_
  refine OI_static 14 [(0, nt free), (1, nt n), (21, .bool true)] (by kernel_rfl) ?_
  refine OI_end rfl ?_
  refine X_then ?_
  refine V_true rfl ?_
  refine V_seq ?_
  refine V_region ?_
  refine OI_static 1 [(4, .bool true)] (by kernel_rfl) ?_
  refine OI_end rfl ?_
  refine X_then ?_
  refine V_ret ?_
  refine X_ret_then ?_
  exact X_return (.bool true) rfl ⟨rfl, hK0⟩
 ·
  refine OI_eq [(0, nt free), (1, nt n), (10, .bool false)] (by first | simp [hg1] | rfl) ?_
  refine OI_static 7 [(0, nt free), (1, nt n), (14, .bool (decide (free > 1048576)))] (by kernel_rfl) ?_
  by_cases hg2 : free > 1048576
  ·
   refine OI_eq [(0, nt free), (1, nt n), (14, .bool true)] (by first | simp [hg2] | rfl) ?_
   refine OI_static 14 [(0, nt free), (1, nt n), (21, .bool true)] (by kernel_rfl) ?_
   refine OI_end rfl ?_
   refine X_then ?_
   refine V_true rfl ?_
   refine V_seq ?_
   refine V_region ?_
   refine OI_static 1 [(4, .bool true)] (by kernel_rfl) ?_
   refine OI_end rfl ?_
   refine X_then ?_
   refine V_ret ?_
   refine X_ret_then ?_
   exact X_return (.bool true) rfl ⟨rfl, hK0⟩
  ·
   refine OI_eq [(0, nt free), (1, nt n), (14, .bool false)] (by first | simp [hg2] | rfl) ?_
   refine OI_static 11 [(0, nt free), (1, nt n), (18, .bool (decide (n < 0)))] (by kernel_rfl) ?_
   by_cases hg3 : n < 0
   ·
    refine OI_eq [(0, nt free), (1, nt n), (18, .bool true)] (by first | simp [hg3] | rfl) ?_
    refine OI_static 14 [(0, nt free), (1, nt n), (21, .bool true)] (by kernel_rfl) ?_
    refine OI_end rfl ?_
    refine X_then ?_
    refine V_true rfl ?_
    refine V_seq ?_
    refine V_region ?_
    refine OI_static 1 [(4, .bool true)] (by kernel_rfl) ?_
    refine OI_end rfl ?_
    refine X_then ?_
    refine V_ret ?_
    refine X_ret_then ?_
    exact X_return (.bool true) rfl ⟨rfl, hK0⟩
   ·
    refine OI_eq [(0, nt free), (1, nt n), (18, .bool false)] (by first | simp [hg3] | rfl) ?_
    refine OI_static 14 [(0, nt free), (1, nt n), (21, .bool (decide (n > 2097152)))] (by kernel_rfl) ?_
    refine OI_end rfl ?_
    refine X_then ?_
    refine V_if (n > 2097152) (by kernel_rfl) (fun hc4 => ?_) (fun hc4 => ?_)
    ·
     refine V_seq ?_
     refine V_region ?_
     refine OI_static 1 [(4, .bool true)] (by kernel_rfl) ?_
     refine OI_end rfl ?_
     refine X_then ?_
     refine V_ret ?_
     refine X_ret_then ?_
     exact X_return (.bool true) rfl ⟨rfl, hK0⟩
    ·
     refine V_skip ?_
     refine X_then ?_
     refine V_seq ?_
     refine V_region ?_
     refine OI_static 2 [(0, nt free), (1, nt n), (22, nt free), (23, nt free)] (by kernel_rfl) ?_
     refine OI_slit (E := 3) (zv := nt 0) (sz := 1) (by_ := 8) 24 3 #[(0, (Operand.const (Value.int IntKind.i64 0))), (1, (Operand.tmp 22)), (2, (Operand.tmp 23))] [nt 0, nt free, nt free] [nt 0, nt free, nt free] (some 24) (by kernel_rfl) (by kernel_rfl) (by kernel_rfl) (by omega) rfl (by omega) (by intro v hv; simp only [List.mem_cons, List.not_mem_nil, or_false] at hv; rcases hv with rfl | rfl | rfl <;> rfl) (by kernel_rfl) rfl ?_
     intro b5 w5 e5 hb5 k5 z5
     have hsz6 := Keep.size k5
     replace hK0 := Keep.tr hK0 (Keep.ofNone k5)
     have hb5lt := hb5.lt
     refine OI_call { callee := (Callee.value (Operand.func 7)), args := #[(Operand.tmp 24)], argTypes := #[24] } 7 #[.slice (some ⟨b5, 0, none⟩) 3 3] (some 25) (by kernel_rfl) (by kernel_rfl) (by kernel_rfl) (begin_weak (some ⟨b5, 0, none⟩) 3 [0, free, free] _ (slt_blk (xs := [0, free, free]) (f := intc) hb5 (fun _ => rfl) rfl).arg (by simp)) ?_
     rintro _ w9 ⟨b11, v12, l13, F14, G15, xv16, yv17, rfl, hb18, ho19, hl20, hk10, hge21, hF22, hG23, hd24⟩
     refine ⟨_, rfl, ?_⟩
     have hsz25 := Keep.size hk10
     replace hb5 := hb5.keep hk10 (fun f => f)
     replace hK0 := Keep.tr hK0 (Keep.ofNone hk10)
     have hb11lt := hb18.lt
     have own26 : ∀ q, F14 q → w5.heap.size ≤ q ∧ q ≠ b5 ∧ q ≠ b11 := fun q hq => by have h1 := hF22 q hq; omega
     have lt27 := VotT.lt ho19
     have hb11lt := hb18.lt
     have own28 : ∀ q, G15 q → w5.heap.size ≤ q ∧ q ≠ b5 ∧ q ≠ b11 := fun q hq => by have h1 := hG23 q hq; omega
     have lt29 := Led.lt hl20
     replace hl20 : Led G15 w9 l13 (fuX free) ([] : List Ci) := by rw [(fu0 (by omega) (by omega))] at hl20; exact hl20
     refine OI_static 5 [(0, nt free), (1, nt n), (5, pt b11)] (by kernel_rfl) ?_
     refine OI_end rfl ?_
     refine X_then ?_
     refine V_seq ?_
     refine V_seq ?_
     refine V_region ?_
     refine OI_static 2 [(0, nt free), (1, nt n), (5, pt b11), (27, .bool false)] (by kernel_rfl) ?_
     refine OI_end rfl ?_
     refine X_then ?_
     refine V_false rfl ?_
     refine V_skip ?_
     refine X_then ?_
     refine V_seq ?_
     refine V_region ?_
     refine OI_static 3 [(0, nt free), (1, nt n), (5, pt b11), (30, .pointer (some ⟨b11, 1, none⟩))] (by kernel_rfl) ?_
     refine OI_cell 29 (.tmp 30) 1 (pt v12) (some 31) (by kernel_rfl) (by kernel_rfl) hb18 (m := 1) (by kernel_rfl) rfl ?_
     refine OI_call { callee := (Callee.value (Operand.func 8)), args := #[(Operand.tmp 31), (Operand.const (Value.int IntKind.i64 0)), (Operand.const (Value.int IntKind.i64 0))], argTypes := #[29, 3, 3] } 8 #[pt v12, nt 0, nt 0] (some 32) (by kernel_rfl) (by kernel_rfl) (by kernel_rfl) (open_specT F14 v12 VS.zero 0 0 _ ho19) ?_
     rintro _ w32 ⟨rfl, ⟨F34, ho35, hfr36⟩, hk33⟩
     refine ⟨_, rfl, ?_⟩
     have hsz37 := Keep.size hk33
     replace hb18 := hb18.keep hk33 (fun hs => by have h1 := own26 _ hs; have h2 := lt27 _ hs; omega)
     replace hK0 := Keep.fresh hK0 hk33 (by intro i hi hs; first | exact hs | (exfalso; have h1 := own26 i hs; have h2 := lt27 i hs; omega) | (have h1 := own26 i hs; have h2 := lt27 i hs; show _ ∨ _; omega))
     replace hl20 := Led.keep hl20 hk33 (fun q hq hs => hd24 q hs hq)
     have own39 : ∀ q, F34 q → w5.heap.size ≤ q ∧ q ≠ b11 := fun q hq => by rcases hfr36 q hq with h | h; (have h1 := own26 q h; have h2 := lt27 q h; omega); omega
     have lt38 := VotT.lt ho35
     have dis40 : ∀ q, F34 q → ¬ G15 q := fun q h1 h2 => by rcases hfr36 q h1 with h | h; exact hd24 q h h2; (have h4 := lt29 q h2; omega)
     replace ho35 : VotT F34 w32 v12 twS1 := by rw [show openS VS.zero 0 0 = twS1 from rfl] at ho35; exact ho35
     refine OI_end rfl ?_
     refine X_then ?_
     refine V_seq ?_
     refine V_draws (acts [10]) none_ [[0, 1, 2, 3, 4, 5, 6, 7, 8, 9, 10, 11]] (by kernel_rfl) (by repeat first | exact sure_body (by rintro _ _ ⟨h, _⟩; exact ⟨_, h⟩) | refine sure_then ?_ | refine sure_block ?_ | refine sure_join ?_) (by kernel_rfl) ?_
     intro w42 hk41 he43 L hL44
     have hsz45 := Keep.size hk41
     replace hb18 := hb18.keep hk41 (fun f => f)
     replace hK0 := Keep.tr hK0 (Keep.ofNone hk41)
     replace hl20 := Led.keep hl20 hk41 (fun _ _ f => f)
     replace ho35 := VotT.keep ho35 hk41 (fun _ _ f => f)
     have qhb18 := hb18
     have K46 : Keep none_ w42 w42 := Keep.refl _ _
     obtain rfl := List.mem_singleton.1 hL44
     refine GI_static [3, 4, 5, 6, 7, 8, 9, 10, 11] [(0, nt free), (1, nt n), (5, pt b11), (35, .pointer (some ⟨b11, 1, none⟩))] (by kernel_rfl) ?_
     refine GI_cell 29 (.tmp 35) 1 (pt v12) (some 36) (by kernel_rfl) (by kernel_rfl) (by kernel_rfl) qhb18 (fun f => f) (m := 1) (by kernel_rfl) rfl ?_
     refine GI_static [7, 8, 9, 10, 11] [(0, nt free), (1, nt n), (5, pt b11), (36, pt v12), (39, pt b11)] (by kernel_rfl) ?_
     refine GI_cell 28 (.tmp 39) 0 (pt l13) (some 40) (by kernel_rfl) (by kernel_rfl) (by kernel_rfl) qhb18 (fun f => f) (m := 1) (by kernel_rfl) rfl ?_
     refine GI_static [10, 11] [(0, nt free), (1, nt n), (5, pt b11), (36, pt v12), (40, pt l13), (42, .agg #[nt 1, .bool true, nt 6, nt n, nt 0, nt 0])] (by kernel_rfl) ?_
     by_cases hov47 : n > free
     ·
      obtain ⟨s2a, s2b, s2c⟩ := fu2n (free := free) (n := n) (by omega) (by omega)
      refine GI_call0 { callee := (Callee.value (Operand.func 9)), args := #[(Operand.tmp 36), (Operand.tmp 40), (Operand.const (Value.int IntKind.i64 1)), (Operand.const (Value.int IntKind.i64 0)), (Operand.tmp 42)], argTypes := #[29, 28, 3, 3, 26] } 9 #[pt v12, pt l13, nt 1, nt 0, .agg #[nt 1, .bool true, nt 6, nt n, nt 0, nt 0]] (some 43) (by kernel_rfl) (by kernel_rfl) (by kernel_rfl) (by kernel_rfl) (by kernel_rfl) (vote_spec F34 G15 v12 l13 twS1 (fuX free) ([] : List Ci) 1 0 (Vt.mk 1 true 6 n 0 0) _ ho35 hl20 dis40 (by first | decide | exact Nat.lt_trans (raise_lt (m := 1) (by decide) _ _ _) (by decide) | exact Nat.lt_trans (raise_lt (raise_lt (m := 1) (by decide) _ _ _) _ _ _) (by decide) | exact Nat.lt_trans (raise_lt (raise_lt (raise_lt (m := 1) (by decide) _ _ _) _ _ _) _ _ _) (by decide) | exact Nat.lt_trans (raise_lt (raise_lt (raise_lt (raise_lt (m := 1) (by decide) _ _ _) _ _ _) _ _ _) _ _ _) (by decide))) ?_
      rintro _ w50 ⟨rfl, ⟨F52, F55, ho53, ho56, hfr54, hfr57, hdis58⟩, hk51⟩
      refine ⟨_, rfl, ?_⟩
      have hsz59 := Keep.size hk51
      replace hb18 := hb18.keep hk51 (fun hs => by rcases hs with hs | hs; (have u0 := own39 _ hs; have u1 := lt38 _ hs; omega); (have u0 := own28 _ hs; have u1 := lt29 _ hs; omega))
      replace hK0 := Keep.fresh hK0 hk51 (by intro i hi hs; first | exact hs | (rcases hs with hs | hs; (have u0 := own39 i hs; have u1 := lt38 i hs; omega); (have u0 := own28 i hs; have u1 := lt29 i hs; omega)))
      have own61 : ∀ q, F52 q → w5.heap.size ≤ q ∧ q ≠ b11 := fun q hq => by rcases hfr54 q hq with h | h; (have h1 := own39 q h; have h2 := lt38 q h; omega); omega
      have lt60 := VotT.lt ho53
      have own63 : ∀ q, F55 q → w5.heap.size ≤ q ∧ q ≠ b11 := fun q hq => by rcases hfr57 q hq with h | h; (have h1 := own28 q h; have h2 := lt29 q h; omega); omega
      have lt62 := Led.lt ho56
      replace ho53 : VotT F52 w50 v12 twS1 := by rw [show voteS (fuX free) twS1 1 0 (Vt.mk 1 true 6 n 0 0) = twS1 from s2b] at ho53; exact ho53
      replace ho56 : Led F55 w50 l13 (fuX free) ([] : List Ci) := by rw [show voteC (fuX free) ([] : List Ci) twS1 1 0 (Vt.mk 1 true 6 n 0 0) = [] from s2c _] at ho56; exact ho56
      refine GI_pick [(0, nt free), (1, nt n), (5, pt b11), (43, nt (voteE (fuX free) twS1 1 0 (Vt.mk 1 true 6 n 0 0)))] (by kernel_rfl) ?_
      refine GI_eq [(0, nt free), (1, nt n), (5, pt b11), (43, nt 6)] (by rw [show voteE (fuX free) twS1 1 0 (Vt.mk 1 true 6 n 0 0) = 6 from s2a]) ?_
      refine GI_static [] [(0, nt free), (1, nt n), (5, pt b11), (6, nt 6)] (by kernel_rfl) ?_
      refine GI_end ?_
      refine X_then ?_
      refine V_seq ?_
      refine V_draws (acts [9]) none_ [[0, 1, 2, 3, 4, 5, 6, 7, 8, 9, 10]] (by kernel_rfl) (by repeat first | exact sure_body (by rintro _ _ ⟨h, _⟩; exact ⟨_, h⟩) | refine sure_then ?_ | refine sure_block ?_ | refine sure_join ?_) (by kernel_rfl) ?_
      intro w65 hk64 he66 L hL67
      have hsz68 := Keep.size hk64
      replace hb18 := hb18.keep hk64 (fun f => f)
      replace hK0 := Keep.tr hK0 (Keep.ofNone hk64)
      replace ho53 := VotT.keep ho53 hk64 (fun _ _ f => f)
      replace ho56 := Led.keep ho56 hk64 (fun _ _ f => f)
      have qhb18 := hb18
      have K69 : Keep none_ w65 w65 := Keep.refl _ _
      obtain rfl := List.mem_singleton.1 hL67
      refine GI_static [3, 4, 5, 6, 7, 8, 9, 10] [(0, nt free), (1, nt n), (5, pt b11), (6, nt 6), (46, .pointer (some ⟨b11, 1, none⟩))] (by kernel_rfl) ?_
      refine GI_cell 29 (.tmp 46) 1 (pt v12) (some 47) (by kernel_rfl) (by kernel_rfl) (by kernel_rfl) qhb18 (fun f => f) (m := 1) (by kernel_rfl) rfl ?_
      refine GI_static [7, 8, 9, 10] [(0, nt free), (1, nt n), (5, pt b11), (6, nt 6), (47, pt v12), (50, pt b11)] (by kernel_rfl) ?_
      refine GI_cell 28 (.tmp 50) 0 (pt l13) (some 51) (by kernel_rfl) (by kernel_rfl) (by kernel_rfl) qhb18 (fun f => f) (m := 1) (by kernel_rfl) rfl ?_
      refine GI_static [9, 10] [(0, nt free), (1, nt n), (5, pt b11), (6, nt 6), (47, pt v12), (51, pt l13), (52, nt n)] (by kernel_rfl) ?_
      obtain ⟨s3a, s3b, s3c⟩ := fu3n (free := free) (n := n) (by omega) (by omega)
      refine GI_call0 { callee := (Callee.value (Operand.func 12)), args := #[(Operand.tmp 47), (Operand.tmp 51), (Operand.const (Value.int IntKind.i64 2)), (Operand.const (Value.int IntKind.i64 0)), (Operand.const (Value.int IntKind.i64 1)), (Operand.const (Value.int IntKind.i64 6)), (Operand.tmp 52)], argTypes := #[29, 28, 3, 3, 3, 3, 3] } 12 #[pt v12, pt l13, nt 2, nt 0, nt 1, nt 6, nt n] (some 53) (by kernel_rfl) (by kernel_rfl) (by kernel_rfl) (by kernel_rfl) (by kernel_rfl) (delegate_spec F52 F55 v12 l13 twS1 (fuX free) ([] : List Ci) 2 0 1 6 n _ ho53 ho56 hdis58 (by first | decide | exact Nat.lt_trans (raise_lt (m := 1) (by decide) _ _ _) (by decide) | exact Nat.lt_trans (raise_lt (raise_lt (m := 1) (by decide) _ _ _) _ _ _) (by decide) | exact Nat.lt_trans (raise_lt (raise_lt (raise_lt (m := 1) (by decide) _ _ _) _ _ _) _ _ _) (by decide) | exact Nat.lt_trans (raise_lt (raise_lt (raise_lt (raise_lt (m := 1) (by decide) _ _ _) _ _ _) _ _ _) _ _ _) (by decide))) ?_
      rintro _ w72 ⟨rfl, ⟨F74, F77, ho75, ho78, hfr76, hfr79, hdis80⟩, hk73⟩
      refine ⟨_, rfl, ?_⟩
      have hsz81 := Keep.size hk73
      replace hb18 := hb18.keep hk73 (fun hs => by rcases hs with hs | hs; (have u0 := own61 _ hs; have u1 := lt60 _ hs; omega); (have u0 := own63 _ hs; have u1 := lt62 _ hs; omega))
      replace hK0 := Keep.fresh hK0 hk73 (by intro i hi hs; first | exact hs | (rcases hs with hs | hs; (have u0 := own61 i hs; have u1 := lt60 i hs; omega); (have u0 := own63 i hs; have u1 := lt62 i hs; omega)))
      have own83 : ∀ q, F74 q → w5.heap.size ≤ q ∧ q ≠ b11 := fun q hq => by rcases hfr76 q hq with h | h; (have h1 := own61 q h; have h2 := lt60 q h; omega); omega
      have lt82 := VotT.lt ho75
      have own85 : ∀ q, F77 q → w5.heap.size ≤ q ∧ q ≠ b11 := fun q hq => by rcases hfr79 q hq with h | h; (have h1 := own63 q h; have h2 := lt62 q h; omega); omega
      have lt84 := Led.lt ho78
      replace ho75 : VotT F74 w72 v12 twS1 := by rw [s3b] at ho75; exact ho75
      replace ho78 : Led F77 w72 l13 (fuX free) ([] : List Ci) := by rw [s3c _] at ho78; exact ho78
      refine GI_pick [(0, nt free), (1, nt n), (5, pt b11), (6, nt 6), (53, nt (delE (fuX free) twS1 2 0 1 6 n))] (by kernel_rfl) ?_
      refine GI_eq [(0, nt free), (1, nt n), (5, pt b11), (6, nt 6), (53, nt 6)] (by rw [s3a]) ?_
      refine GI_static [] [(0, nt free), (1, nt n), (5, pt b11), (6, nt 6), (7, nt 6)] (by kernel_rfl) ?_
      refine GI_end ?_
      refine X_then ?_
      refine V_seq ?_
      refine V_seq ?_
      refine V_region ?_
      refine OI_static 3 [(1, nt n), (5, pt b11), (6, nt 6), (7, nt 6), (56, .bool (decide (n > free)))] (by kernel_rfl) ?_
      refine OI_end rfl ?_
      refine X_then ?_
      refine V_eq [(1, nt n), (5, pt b11), (6, nt 6), (7, nt 6), (56, .bool true)] (by rw [decide_eq_true hov47]) ?_
      refine V_true rfl ?_
      refine V_seq ?_
      refine V_draws (acts [11, 20, 25, 30]) none_ [[0, 1, 2, 3, 4, 5, 6, 7, 8, 9, 10, 11, 12, 13, 14, 15, 16, 17, 18, 19, 20, 21, 22, 23, 24, 25, 26, 27, 28, 29, 30, 31, 32]] (by kernel_rfl) (by repeat first | exact sure_body (by rintro _ _ ⟨h, _⟩; exact ⟨_, h⟩) | refine sure_then ?_ | refine sure_block ?_ | refine sure_join ?_) (by kernel_rfl) ?_
      intro w88 hk87 he89 L hL90
      have hsz91 := Keep.size hk87
      replace hb18 := hb18.keep hk87 (fun f => f)
      replace hK0 := Keep.tr hK0 (Keep.ofNone hk87)
      replace ho75 := VotT.keep ho75 hk87 (fun _ _ f => f)
      replace ho78 := Led.keep ho78 hk87 (fun _ _ f => f)
      have qhb18 := hb18
      have K92 : Keep none_ w88 w88 := Keep.refl _ _
      obtain rfl := List.mem_singleton.1 hL90
      refine GI_static [10, 11, 12, 13, 14, 15, 16, 17, 18, 19, 20, 21, 22, 23, 24, 25, 26, 27, 28, 29, 30, 31, 32] [(5, pt b11), (63, .bool true), (66, .pointer (some ⟨b11, 1, none⟩))] (by kernel_rfl) ?_
      refine GI_cell 29 (.tmp 66) 1 (pt v12) (some 67) (by kernel_rfl) (by kernel_rfl) (by kernel_rfl) qhb18 (fun f => f) (m := 1) (by kernel_rfl) rfl ?_
      refine GI_call { callee := (Callee.value (Operand.func 13)), args := #[(Operand.tmp 67), (Operand.const (Value.int IntKind.i64 0))], argTypes := #[29, 3] } 13 #[pt v12, nt 0] (some 68) (by kernel_rfl) (by kernel_rfl) (by kernel_rfl) (by kernel_rfl) (tally_spec F74 v12 twS1 0 _ (ho75).1) ?_
      rintro _ w93 ⟨rfl, hk94⟩
      have K95 := K92.tr (Keep.ofNone hk94)
      refine ⟨_, rfl, K95, ?_⟩
      have hzK95 := Keep.size K95
      have hsz96 := Keep.size hk94
      replace hb18 := hb18.keep hk94 (fun f => f)
      replace hK0 := Keep.tr hK0 (Keep.ofNone hk94)
      replace ho75 := VotT.keep ho75 hk94 (fun _ _ f => f)
      replace ho78 := Led.keep ho78 hk94 (fun _ _ f => f)
      refine GI_pick [(5, pt b11), (63, .bool true), (68, .agg (Tly.cells (tallyT twS1 0)).toArray)] (by kernel_rfl) ?_
      refine GI_eq [(5, pt b11), (63, .bool true), (68, .agg #[nt 0, nt 0, nt 0])] (by rw [show tallyT twS1 0 = Tly.zero by kernel_rfl]; rfl) ?_
      refine GI_static [13, 14, 15, 16, 17, 18, 19, 20, 21, 22, 23, 24, 25, 26, 27, 28, 29, 30, 31, 32] [(5, pt b11), (63, .bool true), (68, .agg #[nt 0, nt 0, nt 0]), (69, .agg #[nt 0, nt 0, nt 0])] (by kernel_rfl) ?_
      refine GI_pure (some 70) ((Op.binOp BinOp.eql 43 (Operand.tmp 68) (Operand.tmp 69) 43)) (by kernel_rfl) (by kernel_rfl) (pure_eql_same (xs := [nt 0, nt 0, nt 0]) (by kernel_rfl) (by kernel_rfl) (by kernel_rfl) (by kernel_rfl)) ?_
      refine GI_static [19, 20, 21, 22, 23, 24, 25, 26, 27, 28, 29, 30, 31, 32] [(5, pt b11), (72, .bool true), (75, pt b11)] (by kernel_rfl) ?_
      refine GI_cell 28 (.tmp 75) 0 (pt l13) (some 76) (by kernel_rfl) (by kernel_rfl) (by kernel_rfl) qhb18 (fun f => f) (m := 1) (by kernel_rfl) rfl ?_
      refine GI_call { callee := (Callee.value (Operand.func 15)), args := #[(Operand.tmp 76), (Operand.const (Value.int IntKind.i64 1))], argTypes := #[28, 3] } 15 #[pt l13, nt 1] (some 77) (by kernel_rfl) (by kernel_rfl) (by kernel_rfl) (by kernel_rfl) (locked_spec F77 l13 (fuX free) ([] : List Ci) 1 _ ho78) ?_
      rintro _ w97 ⟨rfl, hk98⟩
      have K99 := K95.tr (Keep.ofNone hk98)
      refine ⟨_, rfl, K99, ?_⟩
      have hzK99 := Keep.size K99
      have hsz100 := Keep.size hk98
      replace hb18 := hb18.keep hk98 (fun f => f)
      replace hK0 := Keep.tr hK0 (Keep.ofNone hk98)
      replace ho75 := VotT.keep ho75 hk98 (fun _ _ f => f)
      replace ho78 := Led.keep ho78 hk98 (fun _ _ f => f)
      refine GI_pick [(5, pt b11), (72, .bool true), (77, nt (lockedL ([] : List Ci) 1))] (by kernel_rfl) ?_
      refine GI_eq [(5, pt b11), (72, .bool true), (77, nt 0)] (by rw [locked0]) ?_
      refine GI_static [24, 25, 26, 27, 28, 29, 30, 31, 32] [(72, .bool true), (77, nt 0), (80, pt b11)] (by kernel_rfl) ?_
      refine GI_cell 28 (.tmp 80) 0 (pt l13) (some 81) (by kernel_rfl) (by kernel_rfl) (by kernel_rfl) qhb18 (fun f => f) (m := 1) (by kernel_rfl) rfl ?_
      refine GI_call0 { callee := (Callee.value (Operand.func 15)), args := #[(Operand.tmp 81), (Operand.const (Value.int IntKind.i64 2))], argTypes := #[28, 3] } 15 #[pt l13, nt 2] (some 82) (by kernel_rfl) (by kernel_rfl) (by kernel_rfl) (by kernel_rfl) (by kernel_rfl) (locked_spec F77 l13 (fuX free) ([] : List Ci) 2 _ ho78) ?_
      rintro _ w101 ⟨rfl, hk102⟩
      refine ⟨_, rfl, ?_⟩
      have hsz103 := Keep.size hk102
      replace hK0 := Keep.tr hK0 (Keep.ofNone hk102)
      replace ho75 := VotT.keep ho75 hk102 (fun _ _ f => f)
      replace ho78 := Led.keep ho78 hk102 (fun _ _ f => f)
      refine GI_pick [(72, .bool true), (77, nt 0), (82, nt (lockedL ([] : List Ci) 2))] (by kernel_rfl) ?_
      refine GI_eq [(72, .bool true), (77, nt 0), (82, nt 0)] (by rw [locked0]) ?_
      refine GI_static [30, 31, 32] [(86, .bool true)] (by kernel_rfl) ?_
      refine GI_call0 { callee := (Callee.value (Operand.func 11)), args := #[], argTypes := #[] } 11 #[] (some 87) (by kernel_rfl) (by kernel_rfl) (by kernel_rfl) (by kernel_rfl) (by kernel_rfl) (known_spec _) ?_
      rintro _ w104 ⟨rfl, hk105⟩
      refine ⟨_, rfl, ?_⟩
      have hsz106 := Keep.size hk105
      replace hK0 := Keep.tr hK0 (Keep.ofNone hk105)
      replace ho75 := VotT.keep ho75 hk105 (fun _ _ f => f)
      replace ho78 := Led.keep ho78 hk105 (fun _ _ f => f)
      refine GI_static [] [(4, .bool true)] (by kernel_rfl) ?_
      refine GI_end ?_
      refine X_then ?_
      refine V_ret ?_
      refine X_ret_then ?_
      exact X_return (.bool true) rfl ⟨rfl, hK0⟩
     ·
      obtain ⟨s2a, s2b, s2c⟩ := fu2 (free := free) (n := n) (by omega) (by omega)
      refine GI_call0 { callee := (Callee.value (Operand.func 9)), args := #[(Operand.tmp 36), (Operand.tmp 40), (Operand.const (Value.int IntKind.i64 1)), (Operand.const (Value.int IntKind.i64 0)), (Operand.tmp 42)], argTypes := #[29, 28, 3, 3, 26] } 9 #[pt v12, pt l13, nt 1, nt 0, .agg #[nt 1, .bool true, nt 6, nt n, nt 0, nt 0]] (some 43) (by kernel_rfl) (by kernel_rfl) (by kernel_rfl) (by kernel_rfl) (by kernel_rfl) (vote_spec F34 G15 v12 l13 twS1 (fuX free) ([] : List Ci) 1 0 (Vt.mk 1 true 6 n 0 0) _ ho35 hl20 dis40 (by first | decide | exact Nat.lt_trans (raise_lt (m := 1) (by decide) _ _ _) (by decide) | exact Nat.lt_trans (raise_lt (raise_lt (m := 1) (by decide) _ _ _) _ _ _) (by decide) | exact Nat.lt_trans (raise_lt (raise_lt (raise_lt (m := 1) (by decide) _ _ _) _ _ _) _ _ _) (by decide) | exact Nat.lt_trans (raise_lt (raise_lt (raise_lt (raise_lt (m := 1) (by decide) _ _ _) _ _ _) _ _ _) _ _ _) (by decide))) ?_
      rintro _ w109 ⟨rfl, ⟨F111, F114, ho112, ho115, hfr113, hfr116, hdis117⟩, hk110⟩
      refine ⟨_, rfl, ?_⟩
      have hsz118 := Keep.size hk110
      replace hb18 := hb18.keep hk110 (fun hs => by rcases hs with hs | hs; (have u0 := own39 _ hs; have u1 := lt38 _ hs; omega); (have u0 := own28 _ hs; have u1 := lt29 _ hs; omega))
      replace hK0 := Keep.fresh hK0 hk110 (by intro i hi hs; first | exact hs | (rcases hs with hs | hs; (have u0 := own39 i hs; have u1 := lt38 i hs; omega); (have u0 := own28 i hs; have u1 := lt29 i hs; omega)))
      have own120 : ∀ q, F111 q → w5.heap.size ≤ q ∧ q ≠ b11 := fun q hq => by rcases hfr113 q hq with h | h; (have h1 := own39 q h; have h2 := lt38 q h; omega); omega
      have lt119 := VotT.lt ho112
      have own122 : ∀ q, F114 q → w5.heap.size ≤ q ∧ q ≠ b11 := fun q hq => by rcases hfr116 q hq with h | h; (have h1 := own28 q h; have h2 := lt29 q h; omega); omega
      have lt121 := Led.lt ho115
      replace ho112 : VotT F111 w109 v12 (fuS2 n) := by rw [show voteS (fuX free) twS1 1 0 (Vt.mk 1 true 6 n 0 0) = fuS2 n from s2b] at ho112; exact ho112
      replace ho115 : Led F114 w109 l13 (fuX free) (raiseC ([] : List Ci) 1 0 (capI (fuV n))) := by rw [show voteC (fuX free) ([] : List Ci) twS1 1 0 (Vt.mk 1 true 6 n 0 0) = raiseC [] 1 0 (capI (fuV n)) from s2c _] at ho115; exact ho115
      refine GI_pick [(0, nt free), (1, nt n), (5, pt b11), (43, nt (voteE (fuX free) twS1 1 0 (Vt.mk 1 true 6 n 0 0)))] (by kernel_rfl) ?_
      refine GI_eq [(0, nt free), (1, nt n), (5, pt b11), (43, nt 0)] (by rw [show voteE (fuX free) twS1 1 0 (Vt.mk 1 true 6 n 0 0) = 0 from s2a]) ?_
      refine GI_static [] [(0, nt free), (1, nt n), (5, pt b11), (6, nt 0)] (by kernel_rfl) ?_
      refine GI_end ?_
      refine X_then ?_
      refine V_seq ?_
      refine V_draws (acts [9]) none_ [[0, 1, 2, 3, 4, 5, 6, 7, 8, 9, 10]] (by kernel_rfl) (by repeat first | exact sure_body (by rintro _ _ ⟨h, _⟩; exact ⟨_, h⟩) | refine sure_then ?_ | refine sure_block ?_ | refine sure_join ?_) (by kernel_rfl) ?_
      intro w124 hk123 he125 L hL126
      have hsz127 := Keep.size hk123
      replace hb18 := hb18.keep hk123 (fun f => f)
      replace hK0 := Keep.tr hK0 (Keep.ofNone hk123)
      replace ho112 := VotT.keep ho112 hk123 (fun _ _ f => f)
      replace ho115 := Led.keep ho115 hk123 (fun _ _ f => f)
      have qhb18 := hb18
      have K128 : Keep none_ w124 w124 := Keep.refl _ _
      obtain rfl := List.mem_singleton.1 hL126
      refine GI_static [3, 4, 5, 6, 7, 8, 9, 10] [(0, nt free), (1, nt n), (5, pt b11), (6, nt 0), (46, .pointer (some ⟨b11, 1, none⟩))] (by kernel_rfl) ?_
      refine GI_cell 29 (.tmp 46) 1 (pt v12) (some 47) (by kernel_rfl) (by kernel_rfl) (by kernel_rfl) qhb18 (fun f => f) (m := 1) (by kernel_rfl) rfl ?_
      refine GI_static [7, 8, 9, 10] [(0, nt free), (1, nt n), (5, pt b11), (6, nt 0), (47, pt v12), (50, pt b11)] (by kernel_rfl) ?_
      refine GI_cell 28 (.tmp 50) 0 (pt l13) (some 51) (by kernel_rfl) (by kernel_rfl) (by kernel_rfl) qhb18 (fun f => f) (m := 1) (by kernel_rfl) rfl ?_
      refine GI_static [9, 10] [(0, nt free), (1, nt n), (5, pt b11), (6, nt 0), (47, pt v12), (51, pt l13), (52, nt n)] (by kernel_rfl) ?_
      obtain ⟨s3a, s3b, s3c⟩ := fu3 (free := free) (n := n) (by omega) (by omega)
      refine GI_call0 { callee := (Callee.value (Operand.func 12)), args := #[(Operand.tmp 47), (Operand.tmp 51), (Operand.const (Value.int IntKind.i64 2)), (Operand.const (Value.int IntKind.i64 0)), (Operand.const (Value.int IntKind.i64 1)), (Operand.const (Value.int IntKind.i64 6)), (Operand.tmp 52)], argTypes := #[29, 28, 3, 3, 3, 3, 3] } 12 #[pt v12, pt l13, nt 2, nt 0, nt 1, nt 6, nt n] (some 53) (by kernel_rfl) (by kernel_rfl) (by kernel_rfl) (by kernel_rfl) (by kernel_rfl) (delegate_spec F111 F114 v12 l13 (fuS2 n) (fuX free) (raiseC ([] : List Ci) 1 0 (capI (fuV n))) 2 0 1 6 n _ ho112 ho115 hdis117 (by first | decide | exact Nat.lt_trans (raise_lt (m := 1) (by decide) _ _ _) (by decide) | exact Nat.lt_trans (raise_lt (raise_lt (m := 1) (by decide) _ _ _) _ _ _) (by decide) | exact Nat.lt_trans (raise_lt (raise_lt (raise_lt (m := 1) (by decide) _ _ _) _ _ _) _ _ _) (by decide) | exact Nat.lt_trans (raise_lt (raise_lt (raise_lt (raise_lt (m := 1) (by decide) _ _ _) _ _ _) _ _ _) _ _ _) (by decide))) ?_
      rintro _ w131 ⟨rfl, ⟨F133, F136, ho134, ho137, hfr135, hfr138, hdis139⟩, hk132⟩
      refine ⟨_, rfl, ?_⟩
      have hsz140 := Keep.size hk132
      replace hb18 := hb18.keep hk132 (fun hs => by rcases hs with hs | hs; (have u0 := own120 _ hs; have u1 := lt119 _ hs; omega); (have u0 := own122 _ hs; have u1 := lt121 _ hs; omega))
      replace hK0 := Keep.fresh hK0 hk132 (by intro i hi hs; first | exact hs | (rcases hs with hs | hs; (have u0 := own120 i hs; have u1 := lt119 i hs; omega); (have u0 := own122 i hs; have u1 := lt121 i hs; omega)))
      have own142 : ∀ q, F133 q → w5.heap.size ≤ q ∧ q ≠ b11 := fun q hq => by rcases hfr135 q hq with h | h; (have h1 := own120 q h; have h2 := lt119 q h; omega); omega
      have lt141 := VotT.lt ho134
      have own144 : ∀ q, F136 q → w5.heap.size ≤ q ∧ q ≠ b11 := fun q hq => by rcases hfr138 q hq with h | h; (have h1 := own122 q h; have h2 := lt121 q h; omega); omega
      have lt143 := Led.lt ho137
      replace ho134 : VotT F133 w131 v12 (fuS4 n) := by rw [s3b] at ho134; exact ho134
      replace ho137 : Led F136 w131 l13 (fuX free) (raiseC (raiseC ([] : List Ci) 1 0 (capI (fuV n))) 2 0 n) := by rw [s3c _] at ho137; exact ho137
      refine GI_pick [(0, nt free), (1, nt n), (5, pt b11), (6, nt 0), (53, nt (delE (fuX free) (fuS2 n) 2 0 1 6 n))] (by kernel_rfl) ?_
      refine GI_eq [(0, nt free), (1, nt n), (5, pt b11), (6, nt 0), (53, nt 0)] (by rw [s3a]) ?_
      refine GI_static [] [(0, nt free), (1, nt n), (5, pt b11), (6, nt 0), (7, nt 0)] (by kernel_rfl) ?_
      refine GI_end ?_
      refine X_then ?_
      refine V_seq ?_
      refine V_seq ?_
      refine V_region ?_
      refine OI_static 3 [(1, nt n), (5, pt b11), (6, nt 0), (7, nt 0), (56, .bool (decide (n > free)))] (by kernel_rfl) ?_
      refine OI_end rfl ?_
      refine X_then ?_
      refine V_eq [(1, nt n), (5, pt b11), (6, nt 0), (7, nt 0), (56, .bool false)] (by rw [decide_eq_false hov47]) ?_
      refine V_false rfl ?_
      refine V_skip ?_
      refine X_then ?_
      refine V_seq ?_
      refine V_region ?_
      refine OI_static 8 [(1, nt n), (5, pt b11), (93, .bool true), (96, .pointer (some ⟨b11, 1, none⟩))] (by kernel_rfl) ?_
      refine OI_cell 29 (.tmp 96) 1 (pt v12) (some 97) (by kernel_rfl) (by kernel_rfl) hb18 (m := 1) (by kernel_rfl) rfl ?_
      refine OI_call { callee := (Callee.value (Operand.func 13)), args := #[(Operand.tmp 97), (Operand.const (Value.int IntKind.i64 0))], argTypes := #[29, 3] } 13 #[pt v12, nt 0] (some 98) (by kernel_rfl) (by kernel_rfl) (by kernel_rfl) (tally_spec F133 v12 (fuS4 n) 0 _ (ho134).1) ?_
      rintro _ w146 ⟨rfl, hk147⟩
      refine ⟨_, rfl, ?_⟩
      have hsz148 := Keep.size hk147
      replace hb18 := hb18.keep hk147 (fun f => f)
      replace hK0 := Keep.tr hK0 (Keep.ofNone hk147)
      replace ho134 := VotT.keep ho134 hk147 (fun _ _ f => f)
      replace ho137 := Led.keep ho137 hk147 (fun _ _ f => f)
      refine OI_pick [(1, nt n), (5, pt b11), (93, .bool true), (98, .agg (Tly.cells (tallyT (fuS4 n) 0)).toArray)] (by kernel_rfl) ?_
      refine OI_eq [(1, nt n), (5, pt b11), (93, .bool true), (98, .agg #[nt (12 * n), nt 0, nt (2 * n)])] (by rw [fu5 (by omega)]; rfl) ?_
      have hw149 : IntKind.i64.wrap (12 * n) = 12 * n := (wrap64_id (by omega) (by omega)).trans (by omega)
      refine OI_static 12 [(1, nt n), (5, pt b11), (93, .bool true), (98, .agg #[nt (12 * n), nt 0, nt (2 * n)]), (100, nt (IntKind.i64.wrap (12 * n)))] (by kernel_rfl) ?_
      refine OI_eq [(1, nt n), (5, pt b11), (93, .bool true), (98, .agg #[nt (12 * n), nt 0, nt (2 * n)]), (100, nt (12 * n))] (by rw [hw149]) ?_
      have hw150 : IntKind.i64.wrap (2 * n) = 2 * n := (wrap64_id (by omega) (by omega)).trans (by omega)
      refine OI_static 14 [(1, nt n), (5, pt b11), (93, .bool true), (98, .agg #[nt (12 * n), nt 0, nt (2 * n)]), (100, nt (12 * n)), (102, nt (IntKind.i64.wrap (2 * n)))] (by kernel_rfl) ?_
      refine OI_eq [(1, nt n), (5, pt b11), (93, .bool true), (98, .agg #[nt (12 * n), nt 0, nt (2 * n)]), (100, nt (12 * n)), (102, nt (2 * n))] (by rw [hw150]) ?_
      refine OI_static 15 [(1, nt n), (5, pt b11), (93, .bool true), (98, .agg #[nt (12 * n), nt 0, nt (2 * n)]), (103, .agg #[nt (12 * n), nt 0, nt (2 * n)])] (by kernel_rfl) ?_
      refine OI_pure (some 104) ((Op.binOp BinOp.eql 43 (Operand.tmp 98) (Operand.tmp 103) 43)) (by kernel_rfl) (pure_eql_same (xs := [nt (12 * n), nt 0, nt (2 * n)]) (by kernel_rfl) (by kernel_rfl) (by kernel_rfl) (by kernel_rfl)) ?_
      refine OI_static 21 [(1, nt n), (5, pt b11), (106, .bool true), (109, pt b11)] (by kernel_rfl) ?_
      refine OI_cell 28 (.tmp 109) 0 (pt l13) (some 110) (by kernel_rfl) (by kernel_rfl) hb18 (m := 1) (by kernel_rfl) rfl ?_
      refine OI_call { callee := (Callee.value (Operand.func 15)), args := #[(Operand.tmp 110), (Operand.const (Value.int IntKind.i64 1))], argTypes := #[28, 3] } 15 #[pt l13, nt 1] (some 111) (by kernel_rfl) (by kernel_rfl) (by kernel_rfl) (locked_spec F136 l13 (fuX free) (raiseC (raiseC ([] : List Ci) 1 0 (capI (fuV n))) 2 0 n) 1 _ ho137) ?_
      rintro _ w151 ⟨rfl, hk152⟩
      refine ⟨_, rfl, ?_⟩
      have hsz153 := Keep.size hk152
      replace hb18 := hb18.keep hk152 (fun f => f)
      replace hK0 := Keep.tr hK0 (Keep.ofNone hk152)
      replace ho134 := VotT.keep ho134 hk152 (fun _ _ f => f)
      replace ho137 := Led.keep ho137 hk152 (fun _ _ f => f)
      refine OI_pick [(1, nt n), (5, pt b11), (106, .bool true), (111, nt (lockedL (raiseC (raiseC ([] : List Ci) 1 0 (capI (fuV n))) 2 0 n) 1))] (by kernel_rfl) ?_
      refine OI_eq [(1, nt n), (5, pt b11), (106, .bool true), (111, nt n)] (by rw [(fu_lk (n := n) (by omega)).1]) ?_
      refine OI_static 27 [(1, nt n), (5, pt b11), (115, .bool (decide (n = n)))] (by kernel_rfl) ?_
      refine OI_eq [(1, nt n), (5, pt b11), (115, .bool true)] (by rw [decide_eq_true (rfl : n = n)]) ?_
      refine OI_static 30 [(1, nt n), (115, .bool true), (118, pt b11)] (by kernel_rfl) ?_
      refine OI_cell 28 (.tmp 118) 0 (pt l13) (some 119) (by kernel_rfl) (by kernel_rfl) hb18 (m := 1) (by kernel_rfl) rfl ?_
      refine OI_call { callee := (Callee.value (Operand.func 15)), args := #[(Operand.tmp 119), (Operand.const (Value.int IntKind.i64 2))], argTypes := #[28, 3] } 15 #[pt l13, nt 2] (some 120) (by kernel_rfl) (by kernel_rfl) (by kernel_rfl) (locked_spec F136 l13 (fuX free) (raiseC (raiseC ([] : List Ci) 1 0 (capI (fuV n))) 2 0 n) 2 _ ho137) ?_
      rintro _ w155 ⟨rfl, hk156⟩
      refine ⟨_, rfl, ?_⟩
      have hsz157 := Keep.size hk156
      replace hK0 := Keep.tr hK0 (Keep.ofNone hk156)
      replace ho134 := VotT.keep ho134 hk156 (fun _ _ f => f)
      replace ho137 := Led.keep ho137 hk156 (fun _ _ f => f)
      refine OI_pick [(1, nt n), (115, .bool true), (120, nt (lockedL (raiseC (raiseC ([] : List Ci) 1 0 (capI (fuV n))) 2 0 n) 2))] (by kernel_rfl) ?_
      refine OI_eq [(1, nt n), (115, .bool true), (120, nt n)] (by rw [(fu_lk (n := n) (by omega)).2]) ?_
      refine OI_static 36 [(124, .bool (decide (n = n)))] (by kernel_rfl) ?_
      refine OI_eq [(124, .bool true)] (by rw [decide_eq_true (rfl : n = n)]) ?_
      refine OI_call { callee := (Callee.value (Operand.func 11)), args := #[], argTypes := #[] } 11 #[] (some 125) (by kernel_rfl) (by kernel_rfl) (by kernel_rfl) (known_spec _) ?_
      rintro _ w159 ⟨rfl, hk160⟩
      refine ⟨_, rfl, ?_⟩
      have hsz161 := Keep.size hk160
      replace hK0 := Keep.tr hK0 (Keep.ofNone hk160)
      replace ho134 := VotT.keep ho134 hk160 (fun _ _ f => f)
      replace ho137 := Led.keep ho137 hk160 (fun _ _ f => f)
      refine OI_static 39 [(4, .bool true)] (by kernel_rfl) ?_
      refine OI_end rfl ?_
      refine X_then ?_
      refine V_ret ?_
      exact X_return (.bool true) rfl ⟨rfl, hK0⟩
end Go.Al

