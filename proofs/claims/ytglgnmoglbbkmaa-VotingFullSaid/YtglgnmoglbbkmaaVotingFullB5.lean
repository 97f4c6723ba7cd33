/-
  Put together out of 8 texts: Walks of the laws of voting: a beginning. The laws of voting: locks; what succeeds. Walks of the laws of voting: what is lent counts. The laws of voting: a vote that is cast anew. The laws of voting: more of what is delegated. The laws of voting: what is lent to one who splits. The laws of voting: so many votes. Walks of the laws of voting: so many votes.
-/
import Derived.Test.YtglgnmoglbbkmaaVotingFullB4
namespace Go.Al
open Go Go.RowKit Go.Proofs
set_option maxRecDepth 10000 in
theorem rnew6_weak (A : Option Addr) (cap : Nat) (fs : List Int) (w : World) (hA0 : ArgT w 1 intc A cap fs) (hn : fs.length ≤ 100000) : Calls Try.prog 18 #[.slice A fs.length cap] w fun e w' => ∃ pv n, e = .returned (.tuple #[.pointer pv, .int .i64 n]) ∧ Keep none_ w w' := by
 have hA := hA0
 have hK0 : Keep none_ w w := Keep.refl _ _
 have hzhK0 := Keep.size hK0
 refine enterV Try.func18 rfl [.slice A fs.length cap] 51 rfl rfl rfl ?_
 refine V_pick [(0, .slice A fs.length cap)] rfl ?_
 refine V_seq ?_
 refine V_region ?_
 refine OI_static 2 [(0, .slice A fs.length cap)] (by kernel_rfl) ?_
 refine OI_end rfl ?_
 refine X_then ?_
 refine V_seq ?_
 refine V_seq ?_
 refine V_region ?_
 refine OI_static 3 [(0, .slice A fs.length cap), (9, .bool (decide (((fs.length : Nat) : Int) > 10)))] (by kernel_rfl) ?_
 refine OI_end rfl ?_
 refine X_then ?_
 refine V_if (((fs.length : Nat) : Int) > 10) (by kernel_rfl) (fun hc1 => ?_) (fun hc1 => ?_)
 ·
  refine V_seq ?_
  refine V_region ?_
  refine OI_static 2 [(2, .pointer none), (3, nt 1)] (by kernel_rfl) ?_
  refine OI_end rfl ?_
  refine X_then ?_
  refine V_ret ?_
  refine X_ret_then ?_
  exact X_return (.tuple #[.pointer none, nt 1]) rfl ⟨_, _, rfl, hK0⟩
 ·
  refine V_skip ?_
  refine X_then ?_
  refine V_seq ?_
  refine V_region ?_
  refine OI_make (E := 108) (sz := 3) (by_ := 40) (m := 10) (kd := .i64) (zv := .agg #[nt 0, nt 0, .slice none 0 0]) 103 (.const (Value.int IntKind.i64 10)) (.const (Value.int IntKind.i64 10)) ((List.replicate 10 [nt 0, nt 0, .slice none 0 0]).flatten) (some 10) (by kernel_rfl) (by kernel_rfl) (by kernel_rfl) (by kernel_rfl) (by kernel_rfl) (by decide) (by decide) (by kernel_rfl) ?_
  intro b2 w2 e2 hb2 k2 z2
  have hsz3 := Keep.size k2
  replace hA := ArgT.keep0 hA k2
  replace hK0 := Keep.tr hK0 (Keep.ofNone k2)
  have hb2lt := hb2.lt
  refine OI_static 2 [(0, .slice A fs.length cap), (11, .agg #[.slice (some ⟨b2, 0, none⟩) 10 10])] (by kernel_rfl) ?_
  refine OI_box 105 (.tmp 11) (.agg #[.slice (some ⟨b2, 0, none⟩) 10 10]) [.slice (some ⟨b2, 0, none⟩) 10 10] (some 12) (by kernel_rfl) (by kernel_rfl) (by kernel_rfl) ?_
  intro b4 w4 e4 hb4 k4 z4
  have hsz5 := Keep.size k4
  replace hb2 := hb2.keep k4 (fun f => f)
  replace hA := ArgT.keep0 hA k4
  replace hK0 := Keep.tr hK0 (Keep.ofNone k4)
  have hb4lt := hb4.lt
  refine OI_static 4 [(0, .slice A fs.length cap), (4, pt b4)] (by kernel_rfl) ?_
  refine OI_end rfl ?_
  refine X_then ?_
  refine V_seq ?_
  refine V_region ?_
  refine OI_static 1 [(0, .slice A fs.length cap), (4, pt b4), (5, nt 0)] (by kernel_rfl) ?_
  refine OI_end rfl ?_
  refine X_then ?_
  refine V_seq ?_
  refine V_seq ?_
  refine V_region ?_
  refine OI_static 1 [(0, .slice A fs.length cap), (4, pt b4), (5, nt 0), (6, nt 0)] (by kernel_rfl) ?_
  refine OI_end rfl ?_
  refine X_then ?_
  refine V_block ?_
  refine V_pick [(0, .slice A fs.length cap), (4, pt b4), (5, nt 0), (6, nt 0)] rfl ?_
  refine V_loop (fun k wI e => ∃ i : Nat, ∃ s5 : Int, ∃ Lx : List Value, (k + i = fs.length) ∧ (Blk wI b2 Lx 108) ∧ (Lx.length = 30) ∧ Keep (only b2) w4 wI ∧ e = [(0, .slice A fs.length cap), (4, pt b4), (5, nt s5), (6, nt ((i : Nat) : Int))]) fs.length ⟨0, 0, (List.replicate 10 [nt 0, nt 0, .slice none 0 0]).flatten, by omega, hb2, by decide, Keep.refl _ _, rfl⟩ ?_
  rintro k7 w6 _ ⟨i, s5, Lx, hki, hB, hLx, hk8, rfl⟩
  have hsz9 := Keep.size hk8
  replace hb4 := hb4.keep hk8 (by show ¬ (_ = _); omega)
  replace hA := ArgT.keep hA hk8 hA0 (fun k hk hs => by have hs : k = b2 := hs; omega)
  replace hK0 := Keep.fresh hK0 hk8 (by intro i hi hs; first | exact hs | exact Or.inl hs | exact Or.inr hs | (exfalso; have hs2 : i = b2 := hs; omega))
  have hzhk8 := Keep.size hk8
  have hb2lt := hB.lt
  refine V_seq ?_
  refine V_seq ?_
  refine V_region ?_
  refine OI_static 4 [(0, .slice A fs.length cap), (4, pt b4), (5, nt s5), (6, nt ((i : Nat) : Int)), (16, .bool (decide (((i : Nat) : Int) < ((fs.length : Nat) : Int))))] (by kernel_rfl) ?_
  refine OI_end rfl ?_
  refine X_then ?_
  refine V_if (((i : Nat) : Int) < ((fs.length : Nat) : Int)) (by kernel_rfl) (fun hc10 => ?_) (fun hc10 => ?_)
  ·
   refine V_skip ?_
   refine X_then ?_
   refine V_seq ?_
   refine V_block ?_
   refine V_seq ?_
   refine V_seq ?_
   refine V_region ?_
   refine OI_static 2 [(0, .slice A fs.length cap), (4, pt b4), (5, nt s5), (6, nt ((i : Nat) : Int)), (19, .slice A fs.length cap), (20, nt ((i : Nat) : Int))] (by kernel_rfl) ?_
   obtain ⟨b11, o11, L11, rfl, hat11⟩ := ArgT.open_ hA (by first | omega | (simp only [List.length_map]; omega) | (simp; done) | (simp; omega))
   have hb11lt0 := ArgT.lt hA0 (by first | omega | (simp only [List.length_map]; omega) | (simp; done) | (simp; omega))
   have hb11lt := hat11.blk.lt
   refine OI_pure (some 21) (.indexAddr 24 (.tmp 19) (.tmp 20)) (by kernel_rfl) (pure_idxN (b := b11) (o := o11) (len := fs.length) (cap := cap) (kd := .i64) (j := i) (E := 3) (sz := 1) (by_ := 8) (by kernel_rfl) (by kernel_rfl) (by kernel_rfl) (by omega)) ?_
   obtain ⟨x12, hx13⟩ : ∃ x, fs[i]? = some x := ⟨_, List.getElem?_eq_getElem (by first | omega | (simp only [List.length_map]; omega))⟩
   refine OI_cellR 3 (.tmp 21) (o11 + i * 1) (nt x12) (some 22) (by kernel_rfl) (by kernel_rfl) hat11.blk (m := 1) (by kernel_rfl) (AtR.cell0 hat11 (es_at hx13) rfl) ?_
   refine OI_static 6 [(0, .slice (some ⟨b11, o11, none⟩) fs.length cap), (4, pt b4), (5, nt s5), (6, nt ((i : Nat) : Int)), (24, .bool (decide (x12 < 0)))] (by kernel_rfl) ?_
   by_cases hg14 : x12 < 0
   ·
    refine OI_eq [(0, .slice (some ⟨b11, o11, none⟩) fs.length cap), (4, pt b4), (5, nt s5), (6, nt ((i : Nat) : Int)), (24, .bool true)] (by first | simp [hg14] | rfl) ?_
    refine OI_static 12 [(0, .slice (some ⟨b11, o11, none⟩) fs.length cap), (4, pt b4), (5, nt s5), (6, nt ((i : Nat) : Int)), (25, undef), (26, undef), (27, undef), (28, undef), (29, undef), (30, .bool true)] (by kernel_rfl) ?_
    refine OI_end rfl ?_
    refine X_then ?_
    refine V_true rfl ?_
    refine V_seq ?_
    refine V_region ?_
    refine OI_static 2 [(2, .pointer none), (3, nt 1)] (by kernel_rfl) ?_
    refine OI_end rfl ?_
    refine X_then ?_
    refine V_ret ?_
    refine X_ret_then ?_
    refine X_ret_block ?_
    refine X_ret_then ?_
    refine X_ret_then ?_
    refine X_ret_block ?_
    refine X_ret_then ?_
    exact X_return (.tuple #[.pointer none, nt 1]) rfl ⟨_, _, rfl, hK0⟩
   ·
    refine OI_eq [(0, .slice (some ⟨b11, o11, none⟩) fs.length cap), (4, pt b4), (5, nt s5), (6, nt ((i : Nat) : Int)), (24, .bool false)] (by first | simp [hg14] | rfl) ?_
    refine OI_static 8 [(0, .slice (some ⟨b11, o11, none⟩) fs.length cap), (4, pt b4), (5, nt s5), (6, nt ((i : Nat) : Int)), (24, .bool false), (25, .slice (some ⟨b11, o11, none⟩) fs.length cap), (26, nt ((i : Nat) : Int))] (by kernel_rfl) ?_
    refine OI_pure (some 27) (.indexAddr 24 (.tmp 25) (.tmp 26)) (by kernel_rfl) (pure_idxN (b := b11) (o := o11) (len := fs.length) (cap := cap) (kd := .i64) (j := i) (E := 3) (sz := 1) (by_ := 8) (by kernel_rfl) (by kernel_rfl) (by kernel_rfl) (by omega)) ?_
    refine OI_cellR 3 (.tmp 27) (o11 + i * 1) (nt x12) (some 28) (by kernel_rfl) (by kernel_rfl) hat11.blk (m := 1) (by kernel_rfl) (AtR.cell0 hat11 (es_at hx13) rfl) ?_
    refine OI_static 12 [(0, .slice (some ⟨b11, o11, none⟩) fs.length cap), (4, pt b4), (5, nt s5), (6, nt ((i : Nat) : Int)), (25, .slice (some ⟨b11, o11, none⟩) fs.length cap), (26, nt ((i : Nat) : Int)), (27, .pointer (some ⟨b11, o11 + i * 1, none⟩)), (28, nt x12), (29, .bool (decide (x12 > 1073741824))), (30, .bool (decide (x12 > 1073741824)))] (by kernel_rfl) ?_
    refine OI_end rfl ?_
    refine X_then ?_
    refine V_if (x12 > 1073741824) (by kernel_rfl) (fun hc15 => ?_) (fun hc15 => ?_)
    ·
     refine V_seq ?_
     refine V_region ?_
     refine OI_static 2 [(2, .pointer none), (3, nt 1)] (by kernel_rfl) ?_
     refine OI_end rfl ?_
     refine X_then ?_
     refine V_ret ?_
     refine X_ret_then ?_
     refine X_ret_block ?_
     refine X_ret_then ?_
     refine X_ret_then ?_
     refine X_ret_block ?_
     refine X_ret_then ?_
     exact X_return (.tuple #[.pointer none, nt 1]) rfl ⟨_, _, rfl, hK0⟩
    ·
     refine V_skip ?_
     refine X_then ?_
     refine V_seq ?_
     refine V_draws (acts [11]) (only b2) [[0, 1, 2, 3, 4, 5, 6, 7, 8, 9, 10, 11]] (by kernel_rfl) (by repeat first | exact sure_body (by rintro _ _ ⟨_, _, h, _⟩; exact ⟨_, h⟩) | refine sure_then ?_ | refine sure_block ?_ | refine sure_join ?_) (by kernel_rfl) ?_
     intro w17 hk16 he18 L hL19
     have hsz20 := Keep.size hk16
     replace hB := hB.keep hk16 (fun f => f)
     replace hb4 := hb4.keep hk16 (fun f => f)
     replace hat11 := hat11.keep hk16 (fun f => f)
     replace hK0 := Keep.tr hK0 (Keep.ofNone hk16)
     replace hk8 := Keep.tr hk8 (Keep.ofNone hk16)
     have qhB := hB
     have qhb4 := hb4
     have qhat11 := hat11
     have K21 : Keep (only b2) w17 w17 := Keep.refl _ _
     obtain rfl := List.mem_singleton.1 hL19
     refine GI_static [3, 4, 5, 6, 7, 8, 9, 10, 11] [(0, .slice (some ⟨b11, o11, none⟩) fs.length cap), (4, pt b4), (5, nt s5), (6, nt ((i : Nat) : Int)), (25, .slice (some ⟨b11, o11, none⟩) fs.length cap), (26, nt ((i : Nat) : Int)), (27, .pointer (some ⟨b11, o11 + i * 1, none⟩)), (28, nt x12), (29, .bool (decide (x12 > 1073741824))), (33, pt b4)] (by kernel_rfl) ?_
     refine GI_cell 103 (.tmp 33) 0 (.slice (some ⟨b2, 0, none⟩) 10 10) (some 34) (by kernel_rfl) (by kernel_rfl) (by kernel_rfl) qhb4 (by show ¬ (_ = _); omega) (m := 1) (by kernel_rfl) rfl ?_
     refine GI_static [7, 8, 9, 10, 11] [(0, .slice (some ⟨b11, o11, none⟩) fs.length cap), (4, pt b4), (5, nt s5), (6, nt ((i : Nat) : Int)), (25, .slice (some ⟨b11, o11, none⟩) fs.length cap), (26, nt ((i : Nat) : Int)), (27, .pointer (some ⟨b11, o11 + i * 1, none⟩)), (28, nt x12), (29, .bool (decide (x12 > 1073741824))), (34, .slice (some ⟨b2, 0, none⟩) 10 10), (35, nt ((i : Nat) : Int)), (36, .slice (some ⟨b11, o11, none⟩) fs.length cap), (37, nt ((i : Nat) : Int))] (by kernel_rfl) ?_
     refine GI_pure (some 38) (.indexAddr 24 (.tmp 36) (.tmp 37)) (by kernel_rfl) (by kernel_rfl) (pure_idxN (b := b11) (o := o11) (len := fs.length) (cap := cap) (kd := .i64) (j := i) (E := 3) (sz := 1) (by_ := 8) (by kernel_rfl) (by kernel_rfl) (by kernel_rfl) (by omega)) ?_
     refine GI_cellR 3 (.tmp 38) (o11 + i * 1) (nt x12) (some 39) (by kernel_rfl) (by kernel_rfl) (by kernel_rfl) qhat11.blk (by show ¬ (_ = _); omega) (m := 1) (by kernel_rfl) (AtR.cell0 qhat11 (es_at hx13) rfl) ?_
     refine GI_pure (some 40) (.indexAddr 103 (.tmp 34) (.tmp 35)) (by kernel_rfl) (by kernel_rfl) (pure_idxN (b := b2) (o := 0) (len := 10) (cap := 10) (kd := .i64) (j := i) (E := 108) (sz := 3) (by_ := 40) (by kernel_rfl) (by kernel_rfl) (by kernel_rfl) (by omega)) ?_
     refine GI_static [11] [(0, .slice (some ⟨b11, o11, none⟩) fs.length cap), (4, pt b4), (5, nt s5), (6, nt ((i : Nat) : Int)), (25, .slice (some ⟨b11, o11, none⟩) fs.length cap), (26, nt ((i : Nat) : Int)), (27, .pointer (some ⟨b11, o11 + i * 1, none⟩)), (28, nt x12), (29, .bool (decide (x12 > 1073741824))), (39, nt x12), (41, .pointer (some ⟨b2, 0 + i * 3, none⟩))] (by kernel_rfl) ?_
     refine GI_final 11 (by kernel_rfl) (by kernel_rfl) ?_
     refine OI_set (m := 1) (kd := false) 3 (.tmp 41) (.tmp 39) (0 + i * 3) (nt x12) [nt x12] none (by kernel_rfl) (by kernel_rfl) (by kernel_rfl) hB (by kernel_rfl) (by kernel_rfl) (by kernel_rfl) (by rw [hLx]; show 0 + i * 3 + 1 ≤ 30; omega) (by simp [Value.oneCell']) ?_
     intro w22 hb2_25 hk23 hz24
     replace hb2_25 : Blk w22 b2 (over Lx (0 + i * 3) [nt x12]) 108 := hb2_25
     have hsz26 := Keep.size hk23
     replace hb4 := hb4.keep hk23 (by show ¬ (_ = _); omega)
     replace hat11 := hat11.keep hk23 (by show ¬ (_ = _); omega)
     replace hK0 := Keep.fresh hK0 hk23 (by intro i hi hs; first | exact hs | exact Or.inl hs | exact Or.inr hs | (exfalso; have hs2 : i = b2 := hs; omega))
     replace hk8 := Keep.fresh hk8 hk23 (by intro i hi hs; first | exact hs | exact Or.inl hs | exact Or.inr hs | (exfalso; have hs2 : i = b2 := hs; omega))
     refine OI_end rfl ?_
     refine X_then ?_
     refine V_region ?_
     refine OI_static 3 [(0, .slice (some ⟨b11, o11, none⟩) fs.length cap), (4, pt b4), (6, nt ((i : Nat) : Int)), (25, .slice (some ⟨b11, o11, none⟩) fs.length cap), (26, nt ((i : Nat) : Int)), (27, .pointer (some ⟨b11, o11 + i * 1, none⟩)), (28, nt x12), (29, .bool (decide (x12 > 1073741824))), (42, nt s5), (43, .slice (some ⟨b11, o11, none⟩) fs.length cap), (44, nt ((i : Nat) : Int))] (by kernel_rfl) ?_
     refine OI_pure (some 45) (.indexAddr 24 (.tmp 43) (.tmp 44)) (by kernel_rfl) (pure_idxN (b := b11) (o := o11) (len := fs.length) (cap := cap) (kd := .i64) (j := i) (E := 3) (sz := 1) (by_ := 8) (by kernel_rfl) (by kernel_rfl) (by kernel_rfl) (by omega)) ?_
     refine OI_cellR 3 (.tmp 45) (o11 + i * 1) (nt x12) (some 46) (by kernel_rfl) (by kernel_rfl) hat11.blk (m := 1) (by kernel_rfl) (AtR.cell0 hat11 (es_at hx13) rfl) ?_
     refine OI_static 7 [(0, .slice (some ⟨b11, o11, none⟩) fs.length cap), (4, pt b4), (5, nt (IntKind.i64.wrap (s5 + x12))), (6, nt ((i : Nat) : Int)), (25, .slice (some ⟨b11, o11, none⟩) fs.length cap), (26, nt ((i : Nat) : Int)), (27, .pointer (some ⟨b11, o11 + i * 1, none⟩)), (28, nt x12), (29, .bool (decide (x12 > 1073741824)))] (by kernel_rfl) ?_
     refine OI_end rfl ?_
     refine X_block ?_
     refine X_then ?_
     refine V_region ?_
     have hw27 : IntKind.i64.wrap (((i : Nat) : Int) + 1) = ((i + 1 : Nat) : Int) := (wrap64_id (by omega) (by omega)).trans (by omega)
     refine OI_static 2 [(0, .slice (some ⟨b11, o11, none⟩) fs.length cap), (4, pt b4), (5, nt (IntKind.i64.wrap (s5 + x12))), (18, nt (IntKind.i64.wrap (((i : Nat) : Int) + 1))), (25, .slice (some ⟨b11, o11, none⟩) fs.length cap), (26, nt ((i : Nat) : Int)), (27, .pointer (some ⟨b11, o11 + i * 1, none⟩)), (28, nt x12), (29, .bool (decide (x12 > 1073741824)))] (by kernel_rfl) ?_
     refine OI_eq [(0, .slice (some ⟨b11, o11, none⟩) fs.length cap), (4, pt b4), (5, nt (IntKind.i64.wrap (s5 + x12))), (18, nt ((i + 1 : Nat) : Int)), (25, .slice (some ⟨b11, o11, none⟩) fs.length cap), (26, nt ((i : Nat) : Int)), (27, .pointer (some ⟨b11, o11 + i * 1, none⟩)), (28, nt x12), (29, .bool (decide (x12 > 1073741824)))] (by rw [hw27]) ?_
     refine OI_static 3 [(0, .slice (some ⟨b11, o11, none⟩) fs.length cap), (4, pt b4), (5, nt (IntKind.i64.wrap (s5 + x12))), (6, nt ((i + 1 : Nat) : Int)), (25, .slice (some ⟨b11, o11, none⟩) fs.length cap), (26, nt ((i : Nat) : Int)), (27, .pointer (some ⟨b11, o11 + i * 1, none⟩)), (28, nt x12), (29, .bool (decide (x12 > 1073741824)))] (by kernel_rfl) ?_
     refine OI_end rfl ?_
     exact V_again (k7 - 1) (by omega) [(0, .slice (some ⟨b11, o11, none⟩) fs.length cap), (4, pt b4), (5, nt (IntKind.i64.wrap (s5 + x12))), (6, nt ((i + 1 : Nat) : Int))] rfl ⟨i + 1, IntKind.i64.wrap (s5 + x12), (over Lx (0 + i * 3) [nt x12]), by omega, hb2_25, by rw [over_length (by rw [hLx]; show 0 + i * 3 + 1 ≤ 30; omega)]; exact hLx, hk8, rfl⟩
  ·
   refine V_exit ?_
   refine X_exit_then ?_
   refine X_exit_then ?_
   refine X_exit_here ?_
   refine X_then ?_
   refine V_seq ?_
   refine V_seq ?_
   refine V_region ?_
   refine OI_static 2 [(4, pt b4), (49, .bool (decide (s5 > 1073741824)))] (by kernel_rfl) ?_
   refine OI_end rfl ?_
   refine X_then ?_
   refine V_if (s5 > 1073741824) (by kernel_rfl) (fun hc28 => ?_) (fun hc28 => ?_)
   ·
    refine V_seq ?_
    refine V_region ?_
    refine OI_static 2 [(2, .pointer none), (3, nt 1)] (by kernel_rfl) ?_
    refine OI_end rfl ?_
    refine X_then ?_
    refine V_ret ?_
    refine X_ret_then ?_
    exact X_return (.tuple #[.pointer none, nt 1]) rfl ⟨_, _, rfl, hK0⟩
   ·
    refine V_skip ?_
    refine X_then ?_
    refine V_seq ?_
    refine V_region ?_
    refine OI_static 3 [(2, pt b4), (3, nt 0)] (by kernel_rfl) ?_
    refine OI_end rfl ?_
    refine X_then ?_
    refine V_ret ?_
    exact X_return (.tuple #[pt b4, nt 0]) rfl ⟨_, _, rfl, hK0⟩

set_option maxRecDepth 10000 in
theorem rnew11_weak (w : World) : Calls Try.prog 20 #[] w fun e w' => ∃ pv, e = .returned (.pointer pv) ∧ Keep none_ w w' := by
 have hK0 : Keep none_ w w := Keep.refl _ _
 have hzhK0 := Keep.size hK0
 refine enterV Try.func20 rfl [] 5 rfl rfl rfl ?_
 refine V_pick [] rfl ?_
 refine V_seq ?_
 refine V_region ?_
 refine OI_static 1 [] (by kernel_rfl) ?_
 refine OI_end rfl ?_
 refine X_then ?_
 refine V_seq ?_
 refine V_draws (acts [0, 1, 3]) none_ [[0, 1, 2, 3, 4], [1, 0, 2, 3, 4]] (by kernel_rfl) (by repeat first | exact sure_body (by rintro _ _ ⟨_, h, _⟩; exact ⟨_, h⟩) | refine sure_then ?_ | refine sure_block ?_ | refine sure_join ?_) (by kernel_rfl) ?_
 intro w2 hk1 he3 L hL4
 have hsz5 := Keep.size hk1
 replace hK0 := Keep.tr hK0 (Keep.ofNone hk1)
 have K6 : Keep none_ w2 w2 := Keep.refl _ _
 simp only [List.mem_cons, List.not_mem_nil, or_false] at hL4
 rcases hL4 with rfl | rfl
 ·
  refine GI_make (E := 196) (sz := 7) (by_ := 56) (m := 12) (kd := .i64) (zv := .agg #[.bool false, nt 0, nt 0, nt 0, nt 0, nt 0, nt 0]) 111 (.const (Value.int IntKind.i64 12)) (.const (Value.int IntKind.i64 12)) ((List.replicate 12 [.bool false, nt 0, nt 0, nt 0, nt 0, nt 0, nt 0]).flatten) (some 1) (by kernel_rfl) (by kernel_rfl) K6 (by kernel_rfl) (by kernel_rfl) (by kernel_rfl) (by kernel_rfl) (by decide) (by decide) (by kernel_rfl) ?_
  intro b7 w7 e7 hb7 k7 z7 K8
  have hsz9 := Keep.size k7
  replace hK0 := Keep.tr hK0 (Keep.ofNone k7)
  have hb7lt := hb7.lt
  refine GI_make (E := 198) (sz := 9) (by_ := 88) (m := 40) (kd := .i64) (zv := .agg #[.slice none 0 0, .bool false, nt 0, nt 0, nt 0, nt 0, nt 0, nt 0, nt 0]) 112 (.const (Value.int IntKind.i64 40)) (.const (Value.int IntKind.i64 40)) ((List.replicate 40 [.slice none 0 0, .bool false, nt 0, nt 0, nt 0, nt 0, nt 0, nt 0, nt 0]).flatten) (some 2) (by kernel_rfl) (by kernel_rfl) K8 (by kernel_rfl) (by kernel_rfl) (by kernel_rfl) (by kernel_rfl) (by decide) (by decide) (by kernel_rfl) ?_
  intro b10 w10 e10 hb10 k10 z10 K11
  have hsz12 := Keep.size k10
  replace hb7 := hb7.keep k10 (fun f => f)
  replace hK0 := Keep.tr hK0 (Keep.ofNone k10)
  have hb10lt := hb10.lt
  refine GI_static [3, 4] [(3, .agg #[.slice (some ⟨b7, 0, none⟩) 12 12, .slice (some ⟨b10, 0, none⟩) 40 40])] (by kernel_rfl) ?_
  refine GI_box 114 (.tmp 3) (.agg #[.slice (some ⟨b7, 0, none⟩) 12 12, .slice (some ⟨b10, 0, none⟩) 40 40]) [.slice (some ⟨b7, 0, none⟩) 12 12, .slice (some ⟨b10, 0, none⟩) 40 40] (some 4) (by kernel_rfl) (by kernel_rfl) K11 (by kernel_rfl) (by kernel_rfl) ?_
  intro b13 w13 e13 hb13 k13 z13 K14
  have hsz15 := Keep.size k13
  replace hb7 := hb7.keep k13 (fun f => f)
  replace hb10 := hb10.keep k13 (fun f => f)
  replace hK0 := Keep.tr hK0 (Keep.ofNone k13)
  have hb13lt := hb13.lt
  refine GI_static [] [(0, pt b13)] (by kernel_rfl) ?_
  refine GI_end ?_
  refine X_then ?_
  refine V_ret ?_
  exact X_return _ rfl ⟨_, rfl, hK0⟩
 ·
  refine GI_make (E := 198) (sz := 9) (by_ := 88) (m := 40) (kd := .i64) (zv := .agg #[.slice none 0 0, .bool false, nt 0, nt 0, nt 0, nt 0, nt 0, nt 0, nt 0]) 112 (.const (Value.int IntKind.i64 40)) (.const (Value.int IntKind.i64 40)) ((List.replicate 40 [.slice none 0 0, .bool false, nt 0, nt 0, nt 0, nt 0, nt 0, nt 0, nt 0]).flatten) (some 2) (by kernel_rfl) (by kernel_rfl) K6 (by kernel_rfl) (by kernel_rfl) (by kernel_rfl) (by kernel_rfl) (by decide) (by decide) (by kernel_rfl) ?_
  intro b16 w16 e16 hb16 k16 z16 K17
  have hsz18 := Keep.size k16
  replace hK0 := Keep.tr hK0 (Keep.ofNone k16)
  have hb16lt := hb16.lt
  refine GI_make (E := 196) (sz := 7) (by_ := 56) (m := 12) (kd := .i64) (zv := .agg #[.bool false, nt 0, nt 0, nt 0, nt 0, nt 0, nt 0]) 111 (.const (Value.int IntKind.i64 12)) (.const (Value.int IntKind.i64 12)) ((List.replicate 12 [.bool false, nt 0, nt 0, nt 0, nt 0, nt 0, nt 0]).flatten) (some 1) (by kernel_rfl) (by kernel_rfl) K17 (by kernel_rfl) (by kernel_rfl) (by kernel_rfl) (by kernel_rfl) (by decide) (by decide) (by kernel_rfl) ?_
  intro b19 w19 e19 hb19 k19 z19 K20
  have hsz21 := Keep.size k19
  replace hb16 := hb16.keep k19 (fun f => f)
  replace hK0 := Keep.tr hK0 (Keep.ofNone k19)
  have hb19lt := hb19.lt
  refine GI_static [3, 4] [(3, .agg #[.slice (some ⟨b19, 0, none⟩) 12 12, .slice (some ⟨b16, 0, none⟩) 40 40])] (by kernel_rfl) ?_
  refine GI_box 114 (.tmp 3) (.agg #[.slice (some ⟨b19, 0, none⟩) 12 12, .slice (some ⟨b16, 0, none⟩) 40 40]) [.slice (some ⟨b19, 0, none⟩) 12 12, .slice (some ⟨b16, 0, none⟩) 40 40] (some 4) (by kernel_rfl) (by kernel_rfl) K20 (by kernel_rfl) (by kernel_rfl) ?_
  intro b22 w22 e22 hb22 k22 z22 K23
  have hsz24 := Keep.size k22
  replace hb16 := hb16.keep k22 (fun f => f)
  replace hb19 := hb19.keep k22 (fun f => f)
  replace hK0 := Keep.tr hK0 (Keep.ofNone k22)
  have hb22lt := hb22.lt
  refine GI_static [] [(0, pt b22)] (by kernel_rfl) ?_
  refine GI_end ?_
  refine X_then ?_
  refine V_ret ?_
  exact X_return _ rfl ⟨_, rfl, hK0⟩

def msk24 (fs : List Int) : List Int := fs.map fun x => bAnd x 16777215
theorem msk24_at {fs : List Int} {x : Int} (h : x ∈ msk24 fs) : 0 ≤ x ∧ x ≤ 16777215 := by
  obtain ⟨y, _, rfl⟩ := List.mem_map.1 h
  exact bAnd_le y 16777215 (by decide)
theorem msk24_step {fs : List Int} {i : Nat} {x : Int} (h : fs[i]? = some x) : msk24 (fs.take (i + 1)) = msk24 (fs.take i) ++ [bAnd x 16777215] := by
  obtain ⟨h1, rfl⟩ := List.getElem?_eq_some_iff.1 h
  unfold msk24; rw [List.take_succ_eq_append_getElem h1, List.map_append]; rfl
theorem tot_newX_step (fs : List Int) (n : Nat) : tot (newX fs (n + 1)) = tot (newX fs n) + (fs[n]?).getD 0 := by
  have happ : ∀ (a b : List Acc), tot (a ++ b) = tot a + tot b := by
    intro a b
    induction a with
    | nil => simp [tot]
    | cons y l ih => simp only [List.cons_append, tot, ih]; omega
  rw [newX_succ, happ]
  simp only [tot]
  omega
theorem newX_tot24 {fs : List Int} (h : ∀ x ∈ fs, 0 ≤ x ∧ x ≤ 16777215) : ∀ i : Nat, tot (newX fs i) ≤ i * 16777215
  | 0 => by simp [newX, tot]
  | i + 1 => by
    have ih := newX_tot24 h i
    rw [tot_newX_step]
    have : (fs[i]?).getD 0 ≤ 16777215 := by
      cases hf : fs[i]? with
      | none => simp
      | some x => exact (h x (List.mem_of_getElem? hf)).2
    omega
theorem msk24_ok {fs : List Int} (h : fs.length ≤ 10) : okP (msk24 fs) :=
  ⟨by simpa [msk24] using h, fun x hx => by have := msk24_at hx; omega, by have := newX_tot24 (fs := msk24 fs) (fun x hx => msk24_at hx) 10; omega⟩

set_option maxRecDepth 10000 in
theorem begin_weak (A : Option Addr) (cap : Nat) (fs : List Int) (w : World) (hA0 : ArgT w 1 intc A cap fs) (hn : fs.length ≤ 9223372036854775807) : Calls Try.prog 7 #[.slice A fs.length cap] w fun e w' => ∃ b v l F G xv yv, e = .returned (.pointer (some ⟨b, 0, none⟩)) ∧ Blk w' b [.pointer (some ⟨l, 0, none⟩), .pointer (some ⟨v, 0, none⟩), .pointer xv, .pointer yv, .int .i64 0] 33 ∧ VotT F w' v VS.zero ∧ Led G w' l (newX (msk24 (fs.take 10)) 10) [] ∧ Keep none_ w w' ∧ w.heap.size ≤ b ∧ (∀ q, F q → w.heap.size ≤ q ∧ q ≠ b) ∧ (∀ q, G q → w.heap.size ≤ q ∧ q ≠ b) ∧ (∀ q, F q → ¬ G q) := by
 have hA := hA0
 have hK0 : Keep none_ w w := Keep.refl _ _
 have hzhK0 := Keep.size hK0
 refine enterV Try.func7 rfl [.slice A fs.length cap] 58 rfl rfl rfl ?_
 refine V_pick [(0, .slice A fs.length cap)] rfl ?_
 refine V_seq ?_
 refine V_region ?_
 refine OI_static 1 [(0, .slice A fs.length cap)] (by kernel_rfl) ?_
 refine OI_end rfl ?_
 refine X_then ?_
 refine V_seq ?_
 refine V_region ?_
 refine OI_static 1 [(0, .slice A fs.length cap), (3, .slice none 0 0)] (by kernel_rfl) ?_
 refine OI_end rfl ?_
 refine X_then ?_
 refine V_seq ?_
 refine V_seq ?_
 refine V_region ?_
 refine OI_static 1 [(0, .slice A fs.length cap), (3, .slice none 0 0), (4, nt 0)] (by kernel_rfl) ?_
 refine OI_end rfl ?_
 refine X_then ?_
 refine V_block ?_
 refine V_pick [(0, .slice A fs.length cap), (3, .slice none 0 0), (4, nt 0)] rfl ?_
 refine V_loop (fun k wI e => ∃ i : Nat, ∃ A2 : Option Addr, ∃ cap2 : Nat, ∃ ms : List Int, (k + i = min fs.length 10) ∧ (ms = msk24 (fs.take i)) ∧ (SlT wI 1 intc A2 cap2 ms) ∧ (∀ q, inA A2 q → w.heap.size ≤ q) ∧ Keep none_ w wI ∧ e = [(0, .slice A fs.length cap), (3, .slice A2 ms.length cap2), (4, nt ((i : Nat) : Int))]) (min fs.length 10) ⟨0, none, 0, [], by omega, rfl, SlT.nil _ _ _, fun q h => (inA_none h).elim, Keep.refl _ _, rfl⟩ ?_
 rintro k2 w1 _ ⟨i, A2, cap2, ms, hki, hms, hA2, ow2, hk3, rfl⟩
 have hsz4 := Keep.size hk3
 replace hA := ArgT.keep0 hA hk3
 replace hK0 := Keep.tr hK0 (Keep.ofNone hk3)
 have hzhk3 := Keep.size hk3
 have lt2 := SlT.lt hA2
 have hml : ms.length = i := by rw [hms]; simp [msk24]; omega
 refine V_seq ?_
 refine V_seq ?_
 refine V_region ?_
 refine OI_static 5 [(0, .slice A fs.length cap), (3, .slice A2 ms.length cap2), (4, nt ((i : Nat) : Int)), (14, .bool (decide (((i : Nat) : Int) < ((fs.length : Nat) : Int))))] (by kernel_rfl) ?_
 by_cases hg5 : ((i : Nat) : Int) < ((fs.length : Nat) : Int)
 ·
  refine OI_eq [(0, .slice A fs.length cap), (3, .slice A2 ms.length cap2), (4, nt ((i : Nat) : Int)), (14, .bool true)] (by first | simp [hg5] | rfl) ?_
  refine OI_static 8 [(0, .slice A fs.length cap), (3, .slice A2 ms.length cap2), (4, nt ((i : Nat) : Int)), (15, nt ((i : Nat) : Int)), (16, .bool (decide (((i : Nat) : Int) < 10))), (17, .bool (decide (((i : Nat) : Int) < 10)))] (by kernel_rfl) ?_
  refine OI_end rfl ?_
  refine X_then ?_
  refine V_if (((i : Nat) : Int) < 10) (by kernel_rfl) (fun hc6 => ?_) (fun hc6 => ?_)
  ·
   refine V_skip ?_
   refine X_then ?_
   refine V_seq ?_
   refine V_block ?_
   refine V_region ?_
   refine OI_static 3 [(0, .slice A fs.length cap), (4, nt ((i : Nat) : Int)), (15, nt ((i : Nat) : Int)), (16, .bool (decide (((i : Nat) : Int) < 10))), (20, .slice A2 ms.length cap2), (21, .slice A fs.length cap), (22, nt ((i : Nat) : Int))] (by kernel_rfl) ?_
   obtain ⟨b7, o7, L7, rfl, hat7⟩ := ArgT.open_ hA (by first | omega | (simp only [List.length_map]; omega) | (simp; done) | (simp; omega))
   have hb7lt0 := ArgT.lt hA0 (by first | omega | (simp only [List.length_map]; omega) | (simp; done) | (simp; omega))
   have hb7lt := hat7.blk.lt
   refine OI_pure (some 23) (.indexAddr 24 (.tmp 21) (.tmp 22)) (by kernel_rfl) (pure_idxN (b := b7) (o := o7) (len := fs.length) (cap := cap) (kd := .i64) (j := i) (E := 3) (sz := 1) (by_ := 8) (by kernel_rfl) (by kernel_rfl) (by kernel_rfl) (by omega)) ?_
   obtain ⟨x8, hx9⟩ : ∃ x, fs[i]? = some x := ⟨_, List.getElem?_eq_getElem (by first | omega | (simp only [List.length_map]; omega))⟩
   refine OI_cellR 3 (.tmp 23) (o7 + i * 1) (nt x8) (some 24) (by kernel_rfl) (by kernel_rfl) hat7.blk (m := 1) (by kernel_rfl) (AtR.cell0 hat7 (es_at hx9) rfl) ?_
   refine OI_static 6 [(0, .slice (some ⟨b7, o7, none⟩) fs.length cap), (4, nt ((i : Nat) : Int)), (15, nt ((i : Nat) : Int)), (16, .bool (decide (((i : Nat) : Int) < 10))), (20, .slice A2 ms.length cap2), (25, nt (bAnd x8 16777215))] (by kernel_rfl) ?_
   refine OI_slit (E := 3) (zv := nt 0) (sz := 1) (by_ := 8) 24 1 #[(0, (Operand.tmp 25))] [nt (bAnd x8 16777215)] [nt (bAnd x8 16777215)] (some 26) (by kernel_rfl) (by kernel_rfl) (by kernel_rfl) (by omega) rfl (by omega) (by intro v hv; simp only [List.mem_cons, List.not_mem_nil, or_false] at hv; rcases hv with rfl <;> rfl) (by kernel_rfl) rfl ?_
   intro b10 w10 e10 hb10 k10 z10
   have hsz11 := Keep.size k10
   replace hat7 := hat7.keep k10 (fun f => f)
   replace hA2 := SlT.keep0 hA2 k10
   replace hK0 := Keep.tr hK0 (Keep.ofNone k10)
   replace hk3 := Keep.tr hk3 (Keep.ofNone k10)
   have hb10lt := hb10.lt
   refine OI_append (t := 24) (at2 := 24) (E := 3) (E2 := 3) (sz := 1) (by_ := 8) (zv := nt 0) (m := ms.length) (k := 1) (.tmp 20) (.tmp 26) (.slice A2 ms.length cap2) (.slice (some ⟨b10, 0, none⟩) 1 1) (some 27) (by kernel_rfl) (by kernel_rfl) (by kernel_rfl) (by kernel_rfl) (by kernel_rfl) (by kernel_rfl) (by kernel_rfl) (SlT.slr hA2) (slr_one hb10 (intc_len (bAnd x8 16777215))) (intc_one (bAnd x8 16777215)) (by first | omega | (simp only [List.length_nil]; omega)) (by omega) (by first | omega | (simp only [List.length_nil]; omega)) (by omega) ?_
   intro vv9 w12 hap
   obtain ⟨A12, cap12, rfl, hA12, hk12, own12x⟩ := app_one (f := intc) (xs := ms) (x := (bAnd x8 16777215)) (A := A2) (cap := cap2) hap (fun x _ => intc_len x) (intc_len _)
   have own12 : ∀ q, inA A12 q → w.heap.size ≤ q := fun q hq => by rcases own12x q hq with h | h; exact ow2 q h; (show w.heap.size ≤ q; omega)
   have hsz13 := Keep.size hk12
   replace hat7 := hat7.keep hk12 (fun hs => by have h1 := ow2 _ hs; have h2 := lt2 _ hs; omega)
   replace hK0 := Keep.fresh hK0 hk12 (by intro i hi hs; first | exact hs | (exfalso; have h1 := ow2 i hs; have h2 := lt2 i hs; omega) | (have h1 := ow2 i hs; have h2 := lt2 i hs; show _ ∨ _; omega))
   replace hk3 := Keep.fresh hk3 hk12 (by intro i hi hs; first | exact hs | (exfalso; have h1 := ow2 i hs; have h2 := lt2 i hs; omega) | (have h1 := ow2 i hs; have h2 := lt2 i hs; show _ ∨ _; omega))
   have lt12 := SlT.lt hA12
   refine OI_static 9 [(0, .slice (some ⟨b7, o7, none⟩) fs.length cap), (3, .slice A12 ((ms ++ [bAnd x8 16777215]).length) cap12), (4, nt ((i : Nat) : Int)), (15, nt ((i : Nat) : Int)), (16, .bool (decide (((i : Nat) : Int) < 10)))] (by kernel_rfl) ?_
   refine OI_end rfl ?_
   refine X_block ?_
   refine X_then ?_
   refine V_region ?_
   have hw14 : IntKind.i64.wrap (((i : Nat) : Int) + 1) = ((i + 1 : Nat) : Int) := (wrap64_id (by omega) (by omega)).trans (by omega)
   refine OI_static 2 [(0, .slice (some ⟨b7, o7, none⟩) fs.length cap), (3, .slice A12 ((ms ++ [bAnd x8 16777215]).length) cap12), (15, nt ((i : Nat) : Int)), (16, .bool (decide (((i : Nat) : Int) < 10))), (19, nt (IntKind.i64.wrap (((i : Nat) : Int) + 1)))] (by kernel_rfl) ?_
   refine OI_eq [(0, .slice (some ⟨b7, o7, none⟩) fs.length cap), (3, .slice A12 ((ms ++ [bAnd x8 16777215]).length) cap12), (15, nt ((i : Nat) : Int)), (16, .bool (decide (((i : Nat) : Int) < 10))), (19, nt ((i + 1 : Nat) : Int))] (by rw [hw14]) ?_
   refine OI_static 3 [(0, .slice (some ⟨b7, o7, none⟩) fs.length cap), (3, .slice A12 ((ms ++ [bAnd x8 16777215]).length) cap12), (4, nt ((i + 1 : Nat) : Int)), (15, nt ((i : Nat) : Int)), (16, .bool (decide (((i : Nat) : Int) < 10)))] (by kernel_rfl) ?_
   refine OI_end rfl ?_
   exact V_again (k2 - 1) (by omega) [(0, .slice (some ⟨b7, o7, none⟩) fs.length cap), (3, .slice A12 ((ms ++ [bAnd x8 16777215]).length) cap12), (4, nt ((i + 1 : Nat) : Int))] rfl ⟨i + 1, A12, cap12, ms ++ [bAnd x8 16777215], by omega, by rw [msk24_step hx9, ← hms], hA12, own12, hk3, rfl⟩
  ·
   refine V_exit ?_
   refine X_exit_then ?_
   refine X_exit_then ?_
   refine X_exit_here ?_
   refine X_then ?_
   refine V_seq ?_
   refine V_region ?_
   refine OI_static 1 [(3, .slice A2 ms.length cap2), (29, .slice A2 ms.length cap2)] (by kernel_rfl) ?_
   have hie : i = min fs.length 10 := by omega
   have htk : fs.take i = fs.take 10 := by rw [hie]; rcases Nat.le_total fs.length 10 with h9 | h9; (rw [Nat.min_eq_left h9, List.take_length, List.take_of_length_le h9]); rw [Nat.min_eq_right h9]
   rw [htk] at hms
   have hok9 := msk24_ok (fs := fs.take 10) (by rw [List.length_take]; omega)
   rw [← hms] at hok9
   refine OI_call { callee := (Callee.value (Operand.func 17)), args := #[(Operand.tmp 29)], argTypes := #[24] } 17 #[.slice A2 ms.length cap2] (some 30) (by kernel_rfl) (by kernel_rfl) (by kernel_rfl) (new_ok A2 cap2 ms _ (SlT.arg hA2) (by omega) hok9) ?_
   rintro _ w15 ⟨l17, F18, rfl, ho19, hk16, hge20⟩
   refine ⟨_, rfl, ?_⟩
   have hsz21 := Keep.size hk16
   replace hA := ArgT.keep0 hA hk16
   replace hA2 := SlT.keep0 hA2 hk16
   replace hK0 := Keep.tr hK0 (Keep.ofNone hk16)
   have own22 : ∀ q, F18 q → w1.heap.size ≤ q := fun q hq => by have h1 := hge20 q hq; omega
   have lt23 := Led.lt ho19
   have dis24 : ∀ q, F18 q → ¬ inA A2 q := fun q h1 h2 => by have h3 := hge20 q h1; have h4 := lt2 q h2; omega
   have hl17lt : l17 < w15.heap.size := Led.lt ho19 _ (Led.at_ ho19)
   have hl17ge := hge20 _ (Led.at_ ho19)
   refine OI_static 7 [(3, .slice A2 ms.length cap2), (5, pt l17), (6, nt 0)] (by kernel_rfl) ?_
   refine OI_end rfl ?_
   refine X_then ?_
   refine V_seq ?_
   refine V_region ?_
   refine OI_static 1 [(5, pt l17), (6, nt 0), (34, .slice A2 ms.length cap2)] (by kernel_rfl) ?_
   refine OI_call { callee := (Callee.value (Operand.func 18)), args := #[(Operand.tmp 34)], argTypes := #[24] } 18 #[.slice A2 ms.length cap2] (some 35) (by kernel_rfl) (by kernel_rfl) (by kernel_rfl) (rnew6_weak A2 cap2 ms _ (SlT.arg hA2) (by omega)) ?_
   rintro _ w25 ⟨pv27, n28, rfl, hk26⟩
   refine ⟨_, rfl, ?_⟩
   have hsz29 := Keep.size hk26
   replace hA := ArgT.keep0 hA hk26
   replace hA2 := SlT.keep0 hA2 hk26
   replace hK0 := Keep.tr hK0 (Keep.ofNone hk26)
   replace ho19 := Led.keep ho19 hk26 (fun _ _ f => f)
   refine OI_static 7 [(5, pt l17), (6, nt 0), (7, .pointer pv27)] (by kernel_rfl) ?_
   refine OI_end rfl ?_
   refine X_then ?_
   refine V_seq ?_
   refine V_region ?_
   refine OI_static 1 [(5, pt l17), (6, nt 0), (7, .pointer pv27), (38, pt l17)] (by kernel_rfl) ?_
   refine OI_call { callee := (Callee.value (Operand.func 19)), args := #[], argTypes := #[] } 19 #[] (some 39) (by kernel_rfl) (by kernel_rfl) (by kernel_rfl) (new_votT _) ?_
   rintro _ w32 ⟨g34, F35, rfl, ho36, hk33, hge37⟩
   refine ⟨_, rfl, ?_⟩
   have hsz38 := Keep.size hk33
   replace hA := ArgT.keep0 hA hk33
   replace hA2 := SlT.keep0 hA2 hk33
   replace hK0 := Keep.tr hK0 (Keep.ofNone hk33)
   replace ho19 := Led.keep ho19 hk33 (fun _ _ f => f)
   have own39 : ∀ q, F35 q → w25.heap.size ≤ q := fun q hq => by have h1 := hge37 q hq; omega
   have lt40 := VotT.lt ho36
   have dis41 : ∀ q, F35 q → ¬ inA A2 q := fun q h1 h2 => by have h3 := hge37 q h1; have h4 := lt2 q h2; omega
   have dis42 : ∀ q, F35 q → ¬ F18 q := fun q h1 h2 => by have h3 := hge37 q h1; have h4 := lt23 q h2; omega
   have hg34lt : g34 < w32.heap.size := VotT.lt ho36 _ (VotT.at_ ho36)
   have hg34ge := hge37 _ (VotT.at_ ho36)
   refine OI_static 3 [(5, pt l17), (6, nt 0), (38, pt l17), (39, pt g34), (40, .pointer pv27)] (by kernel_rfl) ?_
   refine OI_call { callee := (Callee.value (Operand.func 20)), args := #[], argTypes := #[] } 20 #[] (some 41) (by kernel_rfl) (by kernel_rfl) (by kernel_rfl) (rnew11_weak _) ?_
   rintro _ w43 ⟨pv45, rfl, hk44⟩
   refine ⟨_, rfl, ?_⟩
   have hsz46 := Keep.size hk44
   replace hA := ArgT.keep0 hA hk44
   replace hA2 := SlT.keep0 hA2 hk44
   replace hK0 := Keep.tr hK0 (Keep.ofNone hk44)
   replace ho19 := Led.keep ho19 hk44 (fun _ _ f => f)
   replace ho36 := VotT.keep ho36 hk44 (fun _ _ f => f)
   refine OI_static 5 [(5, pt l17), (6, nt 0), (42, .agg #[pt l17, pt g34, .pointer pv27, .pointer pv45, nt 0])] (by kernel_rfl) ?_
   refine OI_box 33 (.tmp 42) (.agg #[pt l17, pt g34, .pointer pv27, .pointer pv45, nt 0]) [pt l17, pt g34, .pointer pv27, .pointer pv45, nt 0] (some 43) (by kernel_rfl) (by kernel_rfl) (by kernel_rfl) ?_
   intro b47 w47 e47 hb47 k47 z47
   have hsz48 := Keep.size k47
   replace hA := ArgT.keep0 hA k47
   replace hA2 := SlT.keep0 hA2 k47
   replace hK0 := Keep.tr hK0 (Keep.ofNone k47)
   replace ho19 := Led.keep ho19 k47 (fun _ _ f => f)
   replace ho36 := VotT.keep ho36 k47 (fun _ _ f => f)
   have hb47lt := hb47.lt
   refine OI_static 7 [(5, pt l17), (6, nt 0), (9, pt b47)] (by kernel_rfl) ?_
   refine OI_end rfl ?_
   refine X_then ?_
   refine V_seq ?_
   refine V_seq ?_
   refine V_region ?_
   refine OI_static 10 [(9, pt b47), (50, .bool false), (53, .pointer (some ⟨b47, 1, none⟩))] (by kernel_rfl) ?_
   refine OI_cell 29 (.tmp 53) 1 (pt g34) (some 54) (by kernel_rfl) (by kernel_rfl) hb47 (m := 1) (by kernel_rfl) rfl ?_
   refine OI_static 13 [(9, pt b47), (56, .bool false)] (by kernel_rfl) ?_
   refine OI_end rfl ?_
   refine X_then ?_
   refine V_false rfl ?_
   refine V_skip ?_
   refine X_then ?_
   refine V_seq ?_
   refine V_region ?_
   refine OI_static 2 [(2, pt b47)] (by kernel_rfl) ?_
   refine OI_end rfl ?_
   refine X_then ?_
   refine V_ret ?_
   exact X_return _ rfl ⟨b47, g34, l17, F35, F18, pv27, pv45, rfl, hb47, ho36, by rw [hms] at ho19; exact ho19, hK0, by omega, fun q hq => ⟨by have h1 := own39 q hq; omega, by have h1 := lt40 q hq; omega⟩, fun q hq => ⟨by have h1 := own22 q hq; omega, by have h1 := lt23 q hq; omega⟩, dis42⟩
 ·
  refine OI_eq [(0, .slice A fs.length cap), (3, .slice A2 ms.length cap2), (4, nt ((i : Nat) : Int)), (14, .bool false)] (by first | simp [hg5] | rfl) ?_
  refine OI_static 8 [(0, .slice A fs.length cap), (3, .slice A2 ms.length cap2), (4, nt ((i : Nat) : Int)), (15, undef), (16, undef), (17, .bool false)] (by kernel_rfl) ?_
  refine OI_end rfl ?_
  refine X_then ?_
  refine V_false rfl ?_
  refine V_exit ?_
  refine X_exit_then ?_
  refine X_exit_then ?_
  refine X_exit_here ?_
  refine X_then ?_
  refine V_seq ?_
  refine V_region ?_
  refine OI_static 1 [(3, .slice A2 ms.length cap2), (29, .slice A2 ms.length cap2)] (by kernel_rfl) ?_
  have hie : i = min fs.length 10 := by omega
  have htk : fs.take i = fs.take 10 := by rw [hie]; rcases Nat.le_total fs.length 10 with h9 | h9; (rw [Nat.min_eq_left h9, List.take_length, List.take_of_length_le h9]); rw [Nat.min_eq_right h9]
  rw [htk] at hms
  have hok9 := msk24_ok (fs := fs.take 10) (by rw [List.length_take]; omega)
  rw [← hms] at hok9
  refine OI_call { callee := (Callee.value (Operand.func 17)), args := #[(Operand.tmp 29)], argTypes := #[24] } 17 #[.slice A2 ms.length cap2] (some 30) (by kernel_rfl) (by kernel_rfl) (by kernel_rfl) (new_ok A2 cap2 ms _ (SlT.arg hA2) (by omega) hok9) ?_
  rintro _ w49 ⟨l51, F52, rfl, ho53, hk50, hge54⟩
  refine ⟨_, rfl, ?_⟩
  have hsz55 := Keep.size hk50
  replace hA := ArgT.keep0 hA hk50
  replace hA2 := SlT.keep0 hA2 hk50
  replace hK0 := Keep.tr hK0 (Keep.ofNone hk50)
  have own56 : ∀ q, F52 q → w1.heap.size ≤ q := fun q hq => by have h1 := hge54 q hq; omega
  have lt57 := Led.lt ho53
  have dis58 : ∀ q, F52 q → ¬ inA A2 q := fun q h1 h2 => by have h3 := hge54 q h1; have h4 := lt2 q h2; omega
  have hl51lt : l51 < w49.heap.size := Led.lt ho53 _ (Led.at_ ho53)
  have hl51ge := hge54 _ (Led.at_ ho53)
  refine OI_static 7 [(3, .slice A2 ms.length cap2), (5, pt l51), (6, nt 0)] (by kernel_rfl) ?_
  refine OI_end rfl ?_
  refine X_then ?_
  refine V_seq ?_
  refine V_region ?_
  refine OI_static 1 [(5, pt l51), (6, nt 0), (34, .slice A2 ms.length cap2)] (by kernel_rfl) ?_
  refine OI_call { callee := (Callee.value (Operand.func 18)), args := #[(Operand.tmp 34)], argTypes := #[24] } 18 #[.slice A2 ms.length cap2] (some 35) (by kernel_rfl) (by kernel_rfl) (by kernel_rfl) (rnew6_weak A2 cap2 ms _ (SlT.arg hA2) (by omega)) ?_
  rintro _ w59 ⟨pv61, n62, rfl, hk60⟩
  refine ⟨_, rfl, ?_⟩
  have hsz63 := Keep.size hk60
  replace hA := ArgT.keep0 hA hk60
  replace hA2 := SlT.keep0 hA2 hk60
  replace hK0 := Keep.tr hK0 (Keep.ofNone hk60)
  replace ho53 := Led.keep ho53 hk60 (fun _ _ f => f)
  refine OI_static 7 [(5, pt l51), (6, nt 0), (7, .pointer pv61)] (by kernel_rfl) ?_
  refine OI_end rfl ?_
  refine X_then ?_
  refine V_seq ?_
  refine V_region ?_
  refine OI_static 1 [(5, pt l51), (6, nt 0), (7, .pointer pv61), (38, pt l51)] (by kernel_rfl) ?_
  refine OI_call { callee := (Callee.value (Operand.func 19)), args := #[], argTypes := #[] } 19 #[] (some 39) (by kernel_rfl) (by kernel_rfl) (by kernel_rfl) (new_votT _) ?_
  rintro _ w66 ⟨g68, F69, rfl, ho70, hk67, hge71⟩
  refine ⟨_, rfl, ?_⟩
  have hsz72 := Keep.size hk67
  replace hA := ArgT.keep0 hA hk67
  replace hA2 := SlT.keep0 hA2 hk67
  replace hK0 := Keep.tr hK0 (Keep.ofNone hk67)
  replace ho53 := Led.keep ho53 hk67 (fun _ _ f => f)
  have own73 : ∀ q, F69 q → w59.heap.size ≤ q := fun q hq => by have h1 := hge71 q hq; omega
  have lt74 := VotT.lt ho70
  have dis75 : ∀ q, F69 q → ¬ inA A2 q := fun q h1 h2 => by have h3 := hge71 q h1; have h4 := lt2 q h2; omega
  have dis76 : ∀ q, F69 q → ¬ F52 q := fun q h1 h2 => by have h3 := hge71 q h1; have h4 := lt57 q h2; omega
  have hg68lt : g68 < w66.heap.size := VotT.lt ho70 _ (VotT.at_ ho70)
  have hg68ge := hge71 _ (VotT.at_ ho70)
  refine OI_static 3 [(5, pt l51), (6, nt 0), (38, pt l51), (39, pt g68), (40, .pointer pv61)] (by kernel_rfl) ?_
  refine OI_call { callee := (Callee.value (Operand.func 20)), args := #[], argTypes := #[] } 20 #[] (some 41) (by kernel_rfl) (by kernel_rfl) (by kernel_rfl) (rnew11_weak _) ?_
  rintro _ w77 ⟨pv79, rfl, hk78⟩
  refine ⟨_, rfl, ?_⟩
  have hsz80 := Keep.size hk78
  replace hA := ArgT.keep0 hA hk78
  replace hA2 := SlT.keep0 hA2 hk78
  replace hK0 := Keep.tr hK0 (Keep.ofNone hk78)
  replace ho53 := Led.keep ho53 hk78 (fun _ _ f => f)
  replace ho70 := VotT.keep ho70 hk78 (fun _ _ f => f)
  refine OI_static 5 [(5, pt l51), (6, nt 0), (42, .agg #[pt l51, pt g68, .pointer pv61, .pointer pv79, nt 0])] (by kernel_rfl) ?_
  refine OI_box 33 (.tmp 42) (.agg #[pt l51, pt g68, .pointer pv61, .pointer pv79, nt 0]) [pt l51, pt g68, .pointer pv61, .pointer pv79, nt 0] (some 43) (by kernel_rfl) (by kernel_rfl) (by kernel_rfl) ?_
  intro b81 w81 e81 hb81 k81 z81
  have hsz82 := Keep.size k81
  replace hA := ArgT.keep0 hA k81
  replace hA2 := SlT.keep0 hA2 k81
  replace hK0 := Keep.tr hK0 (Keep.ofNone k81)
  replace ho53 := Led.keep ho53 k81 (fun _ _ f => f)
  replace ho70 := VotT.keep ho70 k81 (fun _ _ f => f)
  have hb81lt := hb81.lt
  refine OI_static 7 [(5, pt l51), (6, nt 0), (9, pt b81)] (by kernel_rfl) ?_
  refine OI_end rfl ?_
  refine X_then ?_
  refine V_seq ?_
  refine V_seq ?_
  refine V_region ?_
  refine OI_static 10 [(9, pt b81), (50, .bool false), (53, .pointer (some ⟨b81, 1, none⟩))] (by kernel_rfl) ?_
  refine OI_cell 29 (.tmp 53) 1 (pt g68) (some 54) (by kernel_rfl) (by kernel_rfl) hb81 (m := 1) (by kernel_rfl) rfl ?_
  refine OI_static 13 [(9, pt b81), (56, .bool false)] (by kernel_rfl) ?_
  refine OI_end rfl ?_
  refine X_then ?_
  refine V_false rfl ?_
  refine V_skip ?_
  refine X_then ?_
  refine V_seq ?_
  refine V_region ?_
  refine OI_static 2 [(2, pt b81)] (by kernel_rfl) ?_
  refine OI_end rfl ?_
  refine X_then ?_
  refine V_ret ?_
  exact X_return _ rfl ⟨b81, g68, l51, F69, F52, pv61, pv79, rfl, hb81, ho70, by rw [hms] at ho53; exact ho53, hK0, by omega, fun q hq => ⟨by have h1 := own73 q hq; omega, by have h1 := lt74 q hq; omega⟩, fun q hq => ⟨by have h1 := own56 q hq; omega, by have h1 := lt57 q hq; omega⟩, dis76⟩
end Go.Al


namespace Go.Al
open Go Go.RowKit Go.Proofs
/-! ### Locks, by accounts and ids -/
theorem getC_set (a b x : Int) : ∀ (cs : List Ci), Srt cs → ∀ a' b', getC a' b' (setC a b x cs) = if a' = a ∧ b' = b then some x else getC a' b' cs
  | [], _, a', b' => by
    simp only [setC, getC]
    by_cases h : a' = a ∧ b' = b
    · rw [if_pos ⟨h.1.symm, h.2.symm⟩, if_pos h]
    · rw [if_neg (fun e => h ⟨e.1.symm, e.2.symm⟩), if_neg h]
  | c :: l, hs, a', b' => by
    have hs2 := List.pairwise_cons.1 hs
    have ih := getC_set a b x l hs2.2 a' b'
    simp only [setC]
    split
    · rename_i he
      simp only [getC]
      by_cases h : a' = a ∧ b' = b
      · rw [if_pos ⟨h.1.symm, h.2.symm⟩, if_pos h]
      · rw [if_neg (fun e => h ⟨e.1.symm, e.2.symm⟩), if_neg h, if_neg (fun e => h ⟨by omega, by omega⟩)]
    · rename_i he
      split
      · simp only [getC]
        rw [ih]
        by_cases h : a' = a ∧ b' = b
        · rw [if_pos h, if_pos h, if_neg (fun e => he ⟨by omega, by omega⟩)]
        · rw [if_neg h, if_neg h]
      · simp only [getC]
        by_cases h : a' = a ∧ b' = b
        · rw [if_pos ⟨h.1.symm, h.2.symm⟩, if_pos h]
        · rw [if_neg (fun e => h ⟨e.1.symm, e.2.symm⟩), if_neg h]
def LkOk (cs : List Ci) : Prop := Srt cs ∧ ∀ c ∈ cs, 0 < c.v ∧ c.v ≤ 1073741824
theorem LkOk.nil : LkOk [] := ⟨Srt.nil, fun c hc => by cases hc⟩
theorem setC_mem3 {a b v : Int} {y : Ci} : ∀ {cs : List Ci}, y ∈ setC a b v cs → y = ⟨a, b, v⟩ ∨ y ∈ cs
  | [], h => by simp only [setC, List.mem_singleton] at h; exact .inl h
  | x :: l, h => by
    simp only [setC] at h
    split at h
    · rcases List.mem_cons.1 h with h | h
      · exact .inl h
      · exact .inr (List.mem_cons_of_mem _ h)
    · split at h
      · rcases List.mem_cons.1 h with rfl | h
        · exact .inr (List.mem_cons_self ..)
        · exact (setC_mem3 h).imp id (List.mem_cons_of_mem _)
      · rcases List.mem_cons.1 h with h | h
        · exact .inl h
        · exact .inr h
theorem delC_mem3 {a b : Int} {y : Ci} : ∀ {cs : List Ci}, y ∈ delC a b cs → y ∈ cs
  | [], h => by simp [delC] at h
  | x :: l, h => by
    simp only [delC] at h
    split at h
    · exact List.mem_cons_of_mem _ h
    · rcases List.mem_cons.1 h with rfl | h
      · exact List.mem_cons_self ..
      · exact List.mem_cons_of_mem _ (delC_mem3 h)
theorem LkOk.lock {cs : List Ci} (h : LkOk cs) (a t n : Int) : LkOk (lockC cs a t n) := by
  unfold lockC
  split
  · split
    · exact ⟨(h.1.del a t).1, fun c hc => h.2 c (delC_mem3 hc)⟩
    · refine ⟨(Srt.set h.1).1, fun c hc => ?_⟩
      rcases setC_mem3 hc with rfl | hc
      · simp only; omega
      · exact h.2 c hc
  · exact h
theorem LkOk.raise {cs : List Ci} (h : LkOk cs) (a t n : Int) : LkOk (raiseC cs a t n) := by
  unfold raiseC
  split
  · exact h
  · exact h.lock _ _ _
/-! ### What succeeds -/
theorem rowL12 {F : Nat → Prop} {w : World} {v : Nat} {s : VS} (h : VotT F w v s) (a t : Int) : (vrow s a t).length ≤ 12 := by
  obtain ⟨⟨P, F1, F2, M, hX, _⟩, _⟩ := h
  have hs := hX.gv.1
  unfold vrow
  refine Nat.le_trans (List.length_filter_le _ _) ?_
  unfold GV.rowL
  have h1 : ((s.cs.filter (fun c => c.a == a)).map (fun c => c.b)).length ≤ 12 := sorted_len (by
    rw [List.pairwise_map]
    refine List.Pairwise.imp_of_mem ?_ (List.Pairwise.filter _ hs)
    intro x y hx hy hxy
    have e1 : x.a = a := by have := (List.mem_filter.1 hx).2; simpa using this
    have e2 : y.a = a := by have := (List.mem_filter.1 hy).2; simpa using this
    rcases hxy with h | h <;> omega) (by
    intro z hz
    obtain ⟨c, hc, rfl⟩ := List.mem_map.1 hz
    exact (hX.inv.votes c (List.mem_filter.1 hc).1).2.1)
  simpa using h1
theorem casts_spec (F : Nat → Prop) (v : Nat) (s : VS) (a t : Int) (w : World) (h : VotT F w v s) : Calls Try.prog 10 #[.pointer (some ⟨v, 0, none⟩), .int .i64 a, .int .i64 t] w fun e w' => ∃ Ak capk, e = .returned (.tuple #[.slice Ak (vrow s a t).length capk, .bool true]) ∧ SlT w' 7 castc Ak capk (vrow s a t) ∧ Keep none_ w w' ∧ (∀ q, inA Ak q → w.heap.size ≤ q) := by
  have hl := rowL12 h a t
  obtain ⟨⟨P, hP⟩, _⟩ := h
  exact casts_at F v P s a t w hP (by omega)
end Go.Al


namespace Go.Al
open Go Go.RowKit Go.Proofs
/-! ### What is lent counts -/
def knX : List Acc := newX [0, 10, 10] 10
def knV : Vt := ⟨1, true, 2, 10, 0, 0⟩
def knS1 : VS := openS VS.zero 0 1
def knS2 : VS := delS knX knS1 2 1 1 1 10
def knC2 : List Ci := delC2 knX [] knS1 2 1 1 1 10
def knS3 : VS := voteS knX knS2 1 0 knV
def knC3 : List Ci := voteC knX knC2 knS2 1 0 knV
theorem kn1 : openE VS.zero 0 1 = 0 := by kernel_rfl
theorem kn2 : delE knX knS1 2 1 1 1 10 = 0 := by kernel_rfl
theorem kn3 : voteE knX knS2 1 0 knV = 0 := by kernel_rfl
theorem kn4 : tallyT knS3 0 = ⟨30, 0, 20⟩ := by kernel_rfl
theorem kn0 : newX (msk24 ([0, 10, 10].take 10)) 10 = knX := by kernel_rfl
theorem kn5 : knC2.length < 100000 := by rw [show knC2.length = 1 by kernel_rfl]; decide

set_option maxRecDepth 10000 in
theorem known_spec (w : World) : Calls Try.prog 11 #[] w fun e w' => e = .returned (.bool true) ∧ Keep none_ w w' := by
 have hK0 : Keep none_ w w := Keep.refl _ _
 have hzhK0 := Keep.size hK0
 refine enterV Try.func11 rfl [] 48 rfl rfl rfl ?_
 refine V_pick [] rfl ?_
 refine V_seq ?_
 refine V_region ?_
 refine OI_static 1 [] (by kernel_rfl) ?_
 refine OI_end rfl ?_
 refine X_then ?_
 refine V_seq ?_
 refine V_region ?_
 refine OI_slit (E := 3) (zv := nt 0) (sz := 1) (by_ := 8) 24 3 #[(0, (Operand.const (Value.int IntKind.i64 0))), (1, (Operand.const (Value.int IntKind.i64 10))), (2, (Operand.const (Value.int IntKind.i64 10)))] [nt 0, nt 10, nt 10] [nt 0, nt 10, nt 10] (some 5) (by kernel_rfl) (by kernel_rfl) (by kernel_rfl) (by omega) rfl (by omega) (by intro v hv; simp only [List.mem_cons, List.not_mem_nil, or_false] at hv; rcases hv with rfl | rfl | rfl <;> rfl) (by kernel_rfl) rfl ?_
 intro b1 w1 e1 hb1 k1 z1
 have hsz2 := Keep.size k1
 replace hK0 := Keep.tr hK0 (Keep.ofNone k1)
 have hb1lt := hb1.lt
 refine OI_call { callee := (Callee.value (Operand.func 7)), args := #[(Operand.tmp 5)], argTypes := #[24] } 7 #[.slice (some ⟨b1, 0, none⟩) 3 3] (some 6) (by kernel_rfl) (by kernel_rfl) (by kernel_rfl) (begin_weak (some ⟨b1, 0, none⟩) 3 [0, 10, 10] _ (slt_blk (xs := [0, 10, 10]) (f := intc) hb1 (fun _ => rfl) rfl).arg (by simp)) ?_
 rintro _ w5 ⟨b7, v8, l9, F10, G11, xv12, yv13, rfl, hb14, ho15, hl16, hk6, hge17, hF18, hG19, hd20⟩
 refine ⟨_, rfl, ?_⟩
 have hsz21 := Keep.size hk6
 replace hb1 := hb1.keep hk6 (fun f => f)
 replace hK0 := Keep.tr hK0 (Keep.ofNone hk6)
 have hb7lt := hb14.lt
 have own22 : ∀ q, F10 q → w1.heap.size ≤ q ∧ q ≠ b1 ∧ q ≠ b7 := fun q hq => by have h1 := hF18 q hq; omega
 have lt23 := VotT.lt ho15
 have hb7lt := hb14.lt
 have own24 : ∀ q, G11 q → w1.heap.size ≤ q ∧ q ≠ b1 ∧ q ≠ b7 := fun q hq => by have h1 := hG19 q hq; omega
 have lt25 := Led.lt hl16
 replace hl16 : Led G11 w5 l9 knX ([] : List Ci) := by rw [kn0] at hl16; exact hl16
 refine OI_static 3 [(1, pt b7)] (by kernel_rfl) ?_
 refine OI_end rfl ?_
 refine X_then ?_
 refine V_seq ?_
 refine V_seq ?_
 refine V_region ?_
 refine OI_static 2 [(1, pt b7), (8, .bool false)] (by kernel_rfl) ?_
 refine OI_end rfl ?_
 refine X_then ?_
 refine V_false rfl ?_
 refine V_skip ?_
 refine X_then ?_
 refine V_seq ?_
 refine V_region ?_
 refine OI_static 3 [(1, pt b7), (11, .pointer (some ⟨b7, 1, none⟩))] (by kernel_rfl) ?_
 refine OI_cell 29 (.tmp 11) 1 (pt v8) (some 12) (by kernel_rfl) (by kernel_rfl) hb14 (m := 1) (by kernel_rfl) rfl ?_
 refine OI_call { callee := (Callee.value (Operand.func 8)), args := #[(Operand.tmp 12), (Operand.const (Value.int IntKind.i64 0)), (Operand.const (Value.int IntKind.i64 1))], argTypes := #[29, 3, 3] } 8 #[pt v8, nt 0, nt 1] (some 13) (by kernel_rfl) (by kernel_rfl) (by kernel_rfl) (open_specT F10 v8 VS.zero 0 1 _ ho15) ?_
 rintro _ w28 ⟨rfl, ⟨F30, ho31, hfr32⟩, hk29⟩
 refine ⟨_, rfl, ?_⟩
 have hsz33 := Keep.size hk29
 replace hb14 := hb14.keep hk29 (fun hs => by have h1 := own22 _ hs; have h2 := lt23 _ hs; omega)
 replace hK0 := Keep.fresh hK0 hk29 (by intro i hi hs; first | exact hs | (exfalso; have h1 := own22 i hs; have h2 := lt23 i hs; omega) | (have h1 := own22 i hs; have h2 := lt23 i hs; show _ ∨ _; omega))
 replace hl16 := Led.keep hl16 hk29 (fun q hq hs => hd20 q hs hq)
 have own35 : ∀ q, F30 q → w1.heap.size ≤ q ∧ q ≠ b7 := fun q hq => by rcases hfr32 q hq with h | h; (have h1 := own22 q h; have h2 := lt23 q h; omega); omega
 have lt34 := VotT.lt ho31
 have dis36 : ∀ q, F30 q → ¬ G11 q := fun q h1 h2 => by rcases hfr32 q h1 with h | h; exact hd20 q h h2; (have h4 := lt25 q h2; omega)
 replace ho31 : VotT F30 w28 v8 knS1 := by rw [show openS VS.zero 0 1 = knS1 from rfl] at ho31; exact ho31
 refine OI_pick [(1, pt b7), (13, nt (openE VS.zero 0 1))] (by kernel_rfl) ?_
 refine OI_eq [(1, pt b7), (13, nt 0)] (by rw [kn1]) ?_
 refine OI_static 6 [(1, pt b7), (2, nt 0)] (by kernel_rfl) ?_
 refine OI_end rfl ?_
 refine X_then ?_
 refine V_seq ?_
 refine V_draws (acts [8]) none_ [[0, 1, 2, 3, 4, 5, 6, 7, 8, 9]] (by kernel_rfl) (by repeat first | exact sure_body (by rintro _ _ ⟨h, _⟩; exact ⟨_, h⟩) | refine sure_then ?_ | refine sure_block ?_ | refine sure_join ?_) (by kernel_rfl) ?_
 intro w38 hk37 he39 L hL40
 have hsz41 := Keep.size hk37
 replace hb14 := hb14.keep hk37 (fun f => f)
 replace hK0 := Keep.tr hK0 (Keep.ofNone hk37)
 replace hl16 := Led.keep hl16 hk37 (fun _ _ f => f)
 replace ho31 := VotT.keep ho31 hk37 (fun _ _ f => f)
 have qhb14 := hb14
 have K42 : Keep none_ w38 w38 := Keep.refl _ _
 obtain rfl := List.mem_singleton.1 hL40
 refine GI_static [3, 4, 5, 6, 7, 8, 9] [(1, pt b7), (2, nt 0), (16, .pointer (some ⟨b7, 1, none⟩))] (by kernel_rfl) ?_
 refine GI_cell 29 (.tmp 16) 1 (pt v8) (some 17) (by kernel_rfl) (by kernel_rfl) (by kernel_rfl) qhb14 (fun f => f) (m := 1) (by kernel_rfl) rfl ?_
 refine GI_static [7, 8, 9] [(1, pt b7), (2, nt 0), (17, pt v8), (20, pt b7)] (by kernel_rfl) ?_
 refine GI_cell 28 (.tmp 20) 0 (pt l9) (some 21) (by kernel_rfl) (by kernel_rfl) (by kernel_rfl) qhb14 (fun f => f) (m := 1) (by kernel_rfl) rfl ?_
 refine GI_call0 { callee := (Callee.value (Operand.func 12)), args := #[(Operand.tmp 17), (Operand.tmp 21), (Operand.const (Value.int IntKind.i64 2)), (Operand.const (Value.int IntKind.i64 1)), (Operand.const (Value.int IntKind.i64 1)), (Operand.const (Value.int IntKind.i64 1)), (Operand.const (Value.int IntKind.i64 10))], argTypes := #[29, 28, 3, 3, 3, 3, 3] } 12 #[pt v8, pt l9, nt 2, nt 1, nt 1, nt 1, nt 10] (some 22) (by kernel_rfl) (by kernel_rfl) (by kernel_rfl) (by kernel_rfl) (by kernel_rfl) (delegate_spec F30 G11 v8 l9 knS1 knX ([] : List Ci) 2 1 1 1 10 _ ho31 hl16 dis36 (by first | decide | exact kn5)) ?_
 rintro _ w45 ⟨rfl, ⟨F47, F50, ho48, ho51, hfr49, hfr52, hdis53⟩, hk46⟩
 refine ⟨_, rfl, ?_⟩
 have hsz54 := Keep.size hk46
 replace hb14 := hb14.keep hk46 (fun hs => by rcases hs with hs | hs; (have u0 := own35 _ hs; have u1 := lt34 _ hs; omega); (have u0 := own24 _ hs; have u1 := lt25 _ hs; omega))
 replace hK0 := Keep.fresh hK0 hk46 (by intro i hi hs; first | exact hs | (rcases hs with hs | hs; (have u0 := own35 i hs; have u1 := lt34 i hs; omega); (have u0 := own24 i hs; have u1 := lt25 i hs; omega)))
 have own56 : ∀ q, F47 q → w1.heap.size ≤ q ∧ q ≠ b7 := fun q hq => by rcases hfr49 q hq with h | h; (have h1 := own35 q h; have h2 := lt34 q h; omega); omega
 have lt55 := VotT.lt ho48
 have own58 : ∀ q, F50 q → w1.heap.size ≤ q ∧ q ≠ b7 := fun q hq => by rcases hfr52 q hq with h | h; (have h1 := own24 q h; have h2 := lt25 q h; omega); omega
 have lt57 := Led.lt ho51
 replace ho48 : VotT F47 w45 v8 knS2 := by rw [show delS knX knS1 2 1 1 1 10 = knS2 from rfl] at ho48; exact ho48
 replace ho51 : Led F50 w45 l9 knX knC2 := by rw [show delC2 knX ([] : List Ci) knS1 2 1 1 1 10 = knC2 from rfl] at ho51; exact ho51
 refine GI_pick [(1, pt b7), (2, nt 0), (22, nt (delE knX knS1 2 1 1 1 10))] (by kernel_rfl) ?_
 refine GI_eq [(1, pt b7), (2, nt 0), (22, nt 0)] (by rw [kn2]) ?_
 refine GI_static [] [(1, pt b7), (2, nt 0), (3, nt 0)] (by kernel_rfl) ?_
 refine GI_end ?_
 refine X_then ?_
 refine V_seq ?_
 refine V_draws (acts [9]) none_ [[0, 1, 2, 3, 4, 5, 6, 7, 8, 9, 10]] (by kernel_rfl) (by repeat first | exact sure_body (by rintro _ _ ⟨h, _⟩; exact ⟨_, h⟩) | refine sure_then ?_ | refine sure_block ?_ | refine sure_join ?_) (by kernel_rfl) ?_
 intro w60 hk59 he61 L hL62
 have hsz63 := Keep.size hk59
 replace hb14 := hb14.keep hk59 (fun f => f)
 replace hK0 := Keep.tr hK0 (Keep.ofNone hk59)
 replace ho48 := VotT.keep ho48 hk59 (fun _ _ f => f)
 replace ho51 := Led.keep ho51 hk59 (fun _ _ f => f)
 have qhb14 := hb14
 have K64 : Keep none_ w60 w60 := Keep.refl _ _
 obtain rfl := List.mem_singleton.1 hL62
 refine GI_static [3, 4, 5, 6, 7, 8, 9, 10] [(1, pt b7), (2, nt 0), (3, nt 0), (25, .pointer (some ⟨b7, 1, none⟩))] (by kernel_rfl) ?_
 refine GI_cell 29 (.tmp 25) 1 (pt v8) (some 26) (by kernel_rfl) (by kernel_rfl) (by kernel_rfl) qhb14 (fun f => f) (m := 1) (by kernel_rfl) rfl ?_
 refine GI_static [7, 8, 9, 10] [(1, pt b7), (2, nt 0), (3, nt 0), (26, pt v8), (29, pt b7)] (by kernel_rfl) ?_
 refine GI_cell 28 (.tmp 29) 0 (pt l9) (some 30) (by kernel_rfl) (by kernel_rfl) (by kernel_rfl) qhb14 (fun f => f) (m := 1) (by kernel_rfl) rfl ?_
 refine GI_static [9, 10] [(1, pt b7), (2, nt 0), (3, nt 0), (26, pt v8), (30, pt l9), (31, .agg #[nt 1, .bool true, nt 2, nt 10, nt 0, nt 0])] (by kernel_rfl) ?_
 refine GI_call0 { callee := (Callee.value (Operand.func 9)), args := #[(Operand.tmp 26), (Operand.tmp 30), (Operand.const (Value.int IntKind.i64 1)), (Operand.const (Value.int IntKind.i64 0)), (Operand.tmp 31)], argTypes := #[29, 28, 3, 3, 26] } 9 #[pt v8, pt l9, nt 1, nt 0, .agg #[nt 1, .bool true, nt 2, nt 10, nt 0, nt 0]] (some 32) (by kernel_rfl) (by kernel_rfl) (by kernel_rfl) (by kernel_rfl) (by kernel_rfl) (vote_spec F47 F50 v8 l9 knS2 knX knC2 1 0 (Vt.mk 1 true 2 10 0 0) _ ho48 ho51 hdis53 (by first | decide | exact kn5)) ?_
 rintro _ w67 ⟨rfl, ⟨F69, F72, ho70, ho73, hfr71, hfr74, hdis75⟩, hk68⟩
 refine ⟨_, rfl, ?_⟩
 have hsz76 := Keep.size hk68
 replace hb14 := hb14.keep hk68 (fun hs => by rcases hs with hs | hs; (have u0 := own56 _ hs; have u1 := lt55 _ hs; omega); (have u0 := own58 _ hs; have u1 := lt57 _ hs; omega))
 replace hK0 := Keep.fresh hK0 hk68 (by intro i hi hs; first | exact hs | (rcases hs with hs | hs; (have u0 := own56 i hs; have u1 := lt55 i hs; omega); (have u0 := own58 i hs; have u1 := lt57 i hs; omega)))
 have own78 : ∀ q, F69 q → w1.heap.size ≤ q ∧ q ≠ b7 := fun q hq => by rcases hfr71 q hq with h | h; (have h1 := own56 q h; have h2 := lt55 q h; omega); omega
 have lt77 := VotT.lt ho70
 have own80 : ∀ q, F72 q → w1.heap.size ≤ q ∧ q ≠ b7 := fun q hq => by rcases hfr74 q hq with h | h; (have h1 := own58 q h; have h2 := lt57 q h; omega); omega
 have lt79 := Led.lt ho73
 replace ho70 : VotT F69 w67 v8 knS3 := by rw [show voteS knX knS2 1 0 (Vt.mk 1 true 2 10 0 0) = knS3 from rfl] at ho70; exact ho70
 replace ho73 : Led F72 w67 l9 knX knC3 := by rw [show voteC knX knC2 knS2 1 0 (Vt.mk 1 true 2 10 0 0) = knC3 from rfl] at ho73; exact ho73
 refine GI_pick [(1, pt b7), (2, nt 0), (3, nt 0), (32, nt (voteE knX knS2 1 0 (Vt.mk 1 true 2 10 0 0)))] (by kernel_rfl) ?_
 refine GI_eq [(1, pt b7), (2, nt 0), (3, nt 0), (32, nt 0)] (by rw [show voteE knX knS2 1 0 (Vt.mk 1 true 2 10 0 0) = 0 from kn3]) ?_
 refine GI_static [] [(1, pt b7), (2, nt 0), (3, nt 0), (4, nt 0)] (by kernel_rfl) ?_
 refine GI_end ?_
 refine X_then ?_
 refine V_seq ?_
 refine V_region ?_
 refine OI_static 10 [(39, .bool true), (42, .pointer (some ⟨b7, 1, none⟩))] (by kernel_rfl) ?_
 refine OI_cell 29 (.tmp 42) 1 (pt v8) (some 43) (by kernel_rfl) (by kernel_rfl) hb14 (m := 1) (by kernel_rfl) rfl ?_
 refine OI_call { callee := (Callee.value (Operand.func 13)), args := #[(Operand.tmp 43), (Operand.const (Value.int IntKind.i64 0))], argTypes := #[29, 3] } 13 #[pt v8, nt 0] (some 44) (by kernel_rfl) (by kernel_rfl) (by kernel_rfl) (tally_spec F69 v8 knS3 0 _ (ho70).1) ?_
 rintro _ w81 ⟨rfl, hk82⟩
 refine ⟨_, rfl, ?_⟩
 have hsz83 := Keep.size hk82
 replace hK0 := Keep.tr hK0 (Keep.ofNone hk82)
 replace ho70 := VotT.keep ho70 hk82 (fun _ _ f => f)
 replace ho73 := Led.keep ho73 hk82 (fun _ _ f => f)
 refine OI_pick [(39, .bool true), (44, .agg (Tly.cells (tallyT knS3 0)).toArray)] (by kernel_rfl) ?_
 refine OI_eq [(39, .bool true), (44, .agg #[nt 30, nt 0, nt 20])] (by rw [kn4]; rfl) ?_
 refine OI_static 13 [(39, .bool true), (44, .agg #[nt 30, nt 0, nt 20]), (45, .agg #[nt 30, nt 0, nt 20])] (by kernel_rfl) ?_
 refine OI_pure (some 46) ((Op.binOp BinOp.eql 43 (Operand.tmp 44) (Operand.tmp 45) 43)) (by kernel_rfl) (pure_eql_same (xs := [nt 30, nt 0, nt 20]) (by kernel_rfl) (by kernel_rfl) (by kernel_rfl) (by kernel_rfl)) ?_
 refine OI_static 16 [(0, .bool true)] (by kernel_rfl) ?_
 refine OI_end rfl ?_
 refine X_then ?_
 refine V_ret ?_
 exact X_return (.bool true) rfl ⟨rfl, hK0⟩
end Go.Al


namespace Go.Al
open Go Go.RowKit Go.Proofs
/-! ### A vote that is cast anew -/
end Go.Al


namespace Go.Al
open Go Go.RowKit Go.Proofs
end Go.Al


namespace Go.Al
open Go Go.RowKit Go.Proofs
/-! ### What is lent to one who splits -/
end Go.Al


namespace Go.Al
open Go Go.RowKit Go.Proofs
/-! ### So many votes -/
def flX : List Acc := newX [0, 100] 10
def flV : Vt := ⟨2, false, 0, 5, 6, 0⟩
def flS : Nat → VS
  | 0 => VS.zero
  | i + 1 => voteS flX (openS (flS i) (i : Int) 1) 1 (i : Int) flV
def flC : Nat → List Ci
  | 0 => []
  | i + 1 => voteC flX (flC i) (openS (flS i) (i : Int) 1) 1 (i : Int) flV
theorem fl0 : newX (msk24 ([0, 100].take 10)) 10 = flX := by kernel_rfl
theorem fl_all : ((List.range 12).all fun i => decide (voteE flX (openS (flS i) (i : Int) 1) 1 (i : Int) flV = if i < 6 then 0 else 3)) = true := by kernel_rfl
theorem fl_lens : ((List.range 13).all fun i => decide ((vrow (flS i) 1 1).length = min i 6 ∧ (flC i).length < 2)) = true := by kernel_rfl
theorem fl_more : ((List.range 13).all fun i => (List.range 12).all fun a => decide (a < min i 6 → voteE flX (flS i) 1 (a : Int) flV = 0 ∧ (vrow (voteS flX (flS i) 1 (a : Int) flV) 1 1).length = min i 6)) = true := by kernel_rfl
theorem fl1 {i : Nat} (h : i < 12) : voteE flX (openS (flS i) (i : Int) 1) 1 (i : Int) flV = if i < 6 then 0 else 3 := of_decide_eq_true (List.all_eq_true.1 fl_all i (List.mem_range.2 h))
theorem fl2 {i : Nat} (h : i ≤ 12) : (vrow (flS i) 1 1).length = min i 6 ∧ (flC i).length < 2 := of_decide_eq_true (List.all_eq_true.1 fl_lens i (List.mem_range.2 (by omega)))
theorem fl3 {i : Nat} (h : i ≤ 12) {a : Int} (h1 : 0 ≤ a) (h2 : a < 12) (h3 : a < imin (i : Int) 6) : voteE flX (flS i) 1 a flV = 0 ∧ (vrow (voteS flX (flS i) 1 a flV) 1 1).length = min i 6 := by
  obtain ⟨b, rfl⟩ : ∃ b : Nat, a = b := ⟨a.toNat, by omega⟩
  exact of_decide_eq_true (List.all_eq_true.1 (List.all_eq_true.1 fl_more i (List.mem_range.2 (by omega))) b (List.mem_range.2 (by omega))) (by unfold imin at h3; split at h3 <;> omega)
theorem fl_min (i : Nat) : ((min i 6 : Nat) : Int) = imin (i : Int) 6 := by unfold imin; split <;> omega
end Go.Al


namespace Go.Al
open Go Go.RowKit Go.Proofs
set_option maxRecDepth 10000 in
set_option maxHeartbeats 1000000 in
theorem walk_VotingFull (n again : Int) (w : World) : Calls Try.prog 3 #[.int .i64 n, .int .i64 again] w fun e w' => e = .returned (.bool true) ∧ Keep none_ w w' := by
 have hK0 : Keep none_ w w := Keep.refl _ _
 have hzhK0 := Keep.size hK0
 refine enterV Try.func3 rfl [nt n, nt again] 102 rfl rfl rfl ?_
 refine V_pick [(0, nt n), (1, nt again)] rfl ?_
 refine V_seq ?_
 refine V_region ?_
 refine OI_static 1 [(0, nt n), (1, nt again)] (by kernel_rfl) ?_
 refine OI_end rfl ?_
 refine X_then ?_
 refine V_seq ?_
 refine V_seq ?_
 refine V_region ?_
 refine OI_static 3 [(0, nt n), (1, nt again), (13, .bool (decide (n < 0)))] (by kernel_rfl) ?_
 by_cases hg1 : n < 0
 ·
  refine OI_eq [(0, nt n), (1, nt again), (13, .bool true)] (by first | simp [hg1] | rfl) ?_
  refine OI_static 14 [(0, nt n), (1, nt again), (24, .bool true)] (by kernel_rfl) ?_
  refine OI_end rfl ?_
  refine X_then ?_
  refine V_true rfl ?_
  refine V_seq ?_
  refine V_region ?_
  refine OI_static 1 [(4, .bool true)] (by kernel_rfl) ?_
  refine OI_end rfl ?_
  refine X_then ?_
  refine V_ret ?_
  refine X_ret_then ?_
  exact X_return (.bool true) rfl ⟨rfl, hK0⟩
 ·
  refine OI_eq [(0, nt n), (1, nt again), (13, .bool false)] (by first | simp [hg1] | rfl) ?_
  refine OI_static 7 [(0, nt n), (1, nt again), (17, .bool (decide (n > 12)))] (by kernel_rfl) ?_
  by_cases hg2 : n > 12
  ·
   refine OI_eq [(0, nt n), (1, nt again), (17, .bool true)] (by first | simp [hg2] | rfl) ?_
   refine OI_static 14 [(0, nt n), (1, nt again), (24, .bool true)] (by kernel_rfl) ?_
   refine OI_end rfl ?_
   refine X_then ?_
   refine V_true rfl ?_
   refine V_seq ?_
   refine V_region ?_
   refine OI_static 1 [(4, .bool true)] (by kernel_rfl) ?_
   refine OI_end rfl ?_
   refine X_then ?_
   refine V_ret ?_
   refine X_ret_then ?_
   exact X_return (.bool true) rfl ⟨rfl, hK0⟩
  ·
   refine OI_eq [(0, nt n), (1, nt again), (17, .bool false)] (by first | simp [hg2] | rfl) ?_
   refine OI_static 11 [(0, nt n), (1, nt again), (21, .bool (decide (again < 0)))] (by kernel_rfl) ?_
   by_cases hg3 : again < 0
   ·
    refine OI_eq [(0, nt n), (1, nt again), (21, .bool true)] (by first | simp [hg3] | rfl) ?_
    refine OI_static 14 [(0, nt n), (1, nt again), (24, .bool true)] (by kernel_rfl) ?_
    refine OI_end rfl ?_
    refine X_then ?_
    refine V_true rfl ?_
    refine V_seq ?_
    refine V_region ?_
    refine OI_static 1 [(4, .bool true)] (by kernel_rfl) ?_
    refine OI_end rfl ?_
    refine X_then ?_
    refine V_ret ?_
    refine X_ret_then ?_
    exact X_return (.bool true) rfl ⟨rfl, hK0⟩
   ·
    refine OI_eq [(0, nt n), (1, nt again), (21, .bool false)] (by first | simp [hg3] | rfl) ?_
    refine OI_static 14 [(0, nt n), (1, nt again), (24, .bool (decide (again ≥ 12)))] (by kernel_rfl) ?_
    refine OI_end rfl ?_
    refine X_then ?_
    refine V_if (again ≥ 12) (by kernel_rfl) (fun hc4 => ?_) (fun hc4 => ?_)
    ·
     refine V_seq ?_
     refine V_region ?_
     refine OI_static 1 [(4, .bool true)] (by kernel_rfl) ?_
     refine OI_end rfl ?_
     refine X_then ?_
     refine V_ret ?_
     refine X_ret_then ?_
     exact X_return (.bool true) rfl ⟨rfl, hK0⟩
    ·
     refine V_skip ?_
     refine X_then ?_
     refine V_seq ?_
     refine V_region ?_
     refine OI_slit (E := 3) (zv := nt 0) (sz := 1) (by_ := 8) 24 2 #[(0, (Operand.const (Value.int IntKind.i64 0))), (1, (Operand.const (Value.int IntKind.i64 100)))] [nt 0, nt 100] [nt 0, nt 100] (some 25) (by kernel_rfl) (by kernel_rfl) (by kernel_rfl) (by omega) rfl (by omega) (by intro v hv; simp only [List.mem_cons, List.not_mem_nil, or_false] at hv; rcases hv with rfl | rfl <;> rfl) (by kernel_rfl) rfl ?_
     intro b5 w5 e5 hb5 k5 z5
     have hsz6 := Keep.size k5
     replace hK0 := Keep.tr hK0 (Keep.ofNone k5)
     have hb5lt := hb5.lt
     refine OI_call { callee := (Callee.value (Operand.func 7)), args := #[(Operand.tmp 25)], argTypes := #[24] } 7 #[.slice (some ⟨b5, 0, none⟩) 2 2] (some 26) (by kernel_rfl) (by kernel_rfl) (by kernel_rfl) (begin_weak (some ⟨b5, 0, none⟩) 2 [0, 100] _ (slt_blk (xs := [0, 100]) (f := intc) hb5 (fun _ => rfl) rfl).arg (by simp)) ?_
     rintro _ w9 ⟨b11, v12, l13, F14, G15, xv16, yv17, rfl, hb18, ho19, hl20, hk10, hge21, hF22, hG23, hd24⟩
     refine ⟨_, rfl, ?_⟩
     have hsz25 := Keep.size hk10
     replace hb5 := hb5.keep hk10 (fun f => f)
     replace hK0 := Keep.tr hK0 (Keep.ofNone hk10)
     have hb11lt := hb18.lt
     have own26 : ∀ q, F14 q → w5.heap.size ≤ q ∧ q ≠ b5 ∧ q ≠ b11 := fun q hq => by have h1 := hF22 q hq; omega
     have lt27 := VotT.lt ho19
     have hb11lt := hb18.lt
     have own28 : ∀ q, G15 q → w5.heap.size ≤ q ∧ q ≠ b5 ∧ q ≠ b11 := fun q hq => by have h1 := hG23 q hq; omega
     have lt29 := Led.lt hl20
     replace hl20 : Led G15 w9 l13 flX (flC 0) := by rw [fl0] at hl20; exact hl20
     replace ho19 : VotT F14 w9 v12 (flS 0) := by rw [show VS.zero = flS 0 from rfl] at ho19; exact ho19
     refine OI_static 3 [(0, nt n), (1, nt again), (5, pt b11)] (by kernel_rfl) ?_
     refine OI_end rfl ?_
     refine X_then ?_
     refine V_seq ?_
     refine V_seq ?_
     refine V_region ?_
     refine OI_static 2 [(0, nt n), (1, nt again), (5, pt b11), (28, .bool false)] (by kernel_rfl) ?_
     refine OI_end rfl ?_
     refine X_then ?_
     refine V_false rfl ?_
     refine V_skip ?_
     refine X_then ?_
     refine V_seq ?_
     refine V_region ?_
     refine OI_static 1 [(0, nt n), (1, nt again), (5, pt b11), (29, .agg #[nt 2, .bool false, nt 0, nt 5, nt 6, nt 0])] (by kernel_rfl) ?_
     refine OI_alloc 26 (.agg #[nt 0, .bool false, nt 0, nt 0, nt 0, nt 0]) [nt 0, .bool false, nt 0, nt 0, nt 0, nt 0] (some 6) (by kernel_rfl) (by kernel_rfl) (by kernel_rfl) ?_
     intro b30 w30 e30 hb30 k30 z30
     have hsz31 := Keep.size k30
     replace hb18 := hb18.keep k30 (fun f => f)
     replace hK0 := Keep.tr hK0 (Keep.ofNone k30)
     replace hl20 := Led.keep hl20 k30 (fun _ _ f => f)
     replace ho19 := VotT.keep ho19 k30 (fun _ _ f => f)
     have hb30lt := hb30.lt
     refine OI_set (m := 6) (kd := true) 26 (.tmp 6) (.tmp 29) 0 (.agg #[nt 2, .bool false, nt 0, nt 5, nt 6, nt 0]) [nt 2, .bool false, nt 0, nt 5, nt 6, nt 0] none (by kernel_rfl) (by kernel_rfl) (by kernel_rfl) hb30 (by kernel_rfl) (by kernel_rfl) (by kernel_rfl) (Nat.le_of_ble_eq_true (by kernel_rfl)) (by simp [Value.oneCell']) ?_
     intro w32 hb30_35 hk33 hz34
     replace hb30_35 : Blk w32 b30 [nt 2, .bool false, nt 0, nt 5, nt 6, nt 0] 26 := hb30_35
     have hsz36 := Keep.size hk33
     replace hb18 := hb18.keep hk33 (by show ¬ (_ = _); omega)
     replace hK0 := Keep.fresh hK0 hk33 (by intro i hi hs; first | exact hs | exact Or.inl hs | exact Or.inr hs | (exfalso; have hs2 : i = b30 := hs; omega))
     replace hl20 := Led.keep hl20 hk33 (fun q hq hs => by have hs : q = b30 := hs; have g0 := own28 q hq; have g1 := lt29 q hq; omega)
     replace ho19 := VotT.keep ho19 hk33 (fun q hq hs => by have hs : q = b30 := hs; have g0 := own26 q hq; have g1 := lt27 q hq; omega)
     refine OI_end rfl ?_
     refine X_then ?_
     refine V_seq ?_
     refine V_seq ?_
     refine V_region ?_
     refine OI_static 1 [(0, nt n), (1, nt again), (5, pt b11), (6, pt b30), (7, nt 0)] (by kernel_rfl) ?_
     refine OI_end rfl ?_
     refine X_then ?_
     refine V_block ?_
     refine V_pick [(0, nt n), (1, nt again), (5, pt b11), (6, pt b30), (7, nt 0)] rfl ?_
     refine V_loop (fun k wI e => ∃ i : Nat, ∃ F37 : Nat → Prop, ∃ F41 : Nat → Prop, (k + i = n.toNat) ∧ (VotT F37 wI v12 (flS i)) ∧ (∀ q, F37 q → w5.heap.size ≤ q ∧ q ≠ b11 ∧ q ≠ b30) ∧ (∀ q, F37 q → F14 q ∨ w32.heap.size ≤ q) ∧ (Led F41 wI l13 flX (flC i)) ∧ (∀ q, F41 q → w5.heap.size ≤ q ∧ q ≠ b11 ∧ q ≠ b30) ∧ (∀ q, F41 q → G15 q ∨ w32.heap.size ≤ q) ∧ (∀ q, F41 q → ¬ F37 q) ∧ Keep (fun q => F14 q ∨ G15 q) w32 wI ∧ e = [(0, nt n), (1, nt again), (5, pt b11), (6, pt b30), (7, nt ((i : Nat) : Int))]) n.toNat ⟨0, F14, G15, by omega, ho19, (fun q hq => by have h1 := own26 q hq; have h2 := lt27 q hq; omega), fun q h => .inl h, hl20, (fun q hq => by have h1 := own28 q hq; have h2 := lt29 q hq; omega), fun q h => .inl h, (fun q h1 h2 => hd24 q h2 h1), Keep.refl _ _, rfl⟩ ?_
     rintro k47 w46 _ ⟨i, F37, F41, hki, ho38, own39, rel40, ho42, own43, rel44, dis45, hk48, rfl⟩
     have hsz49 := Keep.size hk48
     replace hb18 := hb18.keep hk48 (fun hs => by rcases hs with hs | hs; (have h1 := own26 _ hs; have h2 := lt27 _ hs; omega); (have h1 := own28 _ hs; have h2 := lt29 _ hs; omega))
     replace hb30_35 := hb30_35.keep hk48 (fun hs => by rcases hs with hs | hs; (have h1 := own26 _ hs; have h2 := lt27 _ hs; omega); (have h1 := own28 _ hs; have h2 := lt29 _ hs; omega))
     replace hK0 := Keep.fresh hK0 hk48 (by intro i hi hs; rcases hs with hs | hs; (have h1 := own26 i hs; have h2 := lt27 i hs; omega); (have h1 := own28 i hs; have h2 := lt29 i hs; omega))
     have hzhk48 := Keep.size hk48
     have lt50 := VotT.lt ho38
     have hv12lt : v12 < w46.heap.size := VotT.lt ho38 _ (VotT.at_ ho38)
     have lt51 := Led.lt ho42
     have hl13lt : l13 < w46.heap.size := Led.lt ho42 _ (Led.at_ ho42)
     have hfl9 := fl2 (i := i) (by omega)
     refine V_seq ?_
     refine V_seq ?_
     refine V_region ?_
     refine OI_static 3 [(0, nt n), (1, nt again), (5, pt b11), (6, pt b30), (7, nt ((i : Nat) : Int)), (32, .bool (decide (((i : Nat) : Int) < n)))] (by kernel_rfl) ?_
     refine OI_end rfl ?_
     refine X_then ?_
     refine V_if (((i : Nat) : Int) < n) (by kernel_rfl) (fun hc52 => ?_) (fun hc52 => ?_)
     ·
      refine V_skip ?_
      refine X_then ?_
      refine V_seq ?_
      refine V_block ?_
      refine V_seq ?_
      refine V_region ?_
      refine OI_static 3 [(0, nt n), (1, nt again), (5, pt b11), (6, pt b30), (7, nt ((i : Nat) : Int)), (37, .pointer (some ⟨b11, 1, none⟩))] (by kernel_rfl) ?_
      refine OI_cell 29 (.tmp 37) 1 (pt v12) (some 38) (by kernel_rfl) (by kernel_rfl) hb18 (m := 1) (by kernel_rfl) rfl ?_
      refine OI_static 5 [(0, nt n), (1, nt again), (5, pt b11), (6, pt b30), (7, nt ((i : Nat) : Int)), (38, pt v12), (39, nt ((i : Nat) : Int))] (by kernel_rfl) ?_
      refine OI_call { callee := (Callee.value (Operand.func 8)), args := #[(Operand.tmp 38), (Operand.tmp 39), (Operand.const (Value.int IntKind.i64 1))], argTypes := #[29, 3, 3] } 8 #[pt v12, nt ((i : Nat) : Int), nt 1] (some 40) (by kernel_rfl) (by kernel_rfl) (by kernel_rfl) (open_specT F37 v12 (flS i) ((i : Nat) : Int) 1 _ ho38) ?_
      rintro _ w55 ⟨rfl, ⟨F57, ho58, hfr59⟩, hk56⟩
      refine ⟨_, rfl, ?_⟩
      have hsz60 := Keep.size hk56
      replace hb18 := hb18.keep hk56 (fun hs => by have h1 := own39 _ hs; have h2 := lt50 _ hs; omega)
      replace hb30_35 := hb30_35.keep hk56 (fun hs => by have h1 := own39 _ hs; have h2 := lt50 _ hs; omega)
      replace hK0 := Keep.fresh hK0 hk56 (by intro i hi hs; first | exact hs | (exfalso; have h1 := own39 i hs; have h2 := lt50 i hs; omega) | (have h1 := own39 i hs; have h2 := lt50 i hs; show _ ∨ _; omega))
      replace hk48 := Keep.fresh hk48 hk56 (fun i hi hs => by rcases rel40 i hs with h | h; exact .inl h; (exfalso; omega))
      replace ho42 := Led.keep ho42 hk56 (fun q hq hs => (fun q h1 h2 => dis45 q h2 h1) q hs hq)
      have own62 : ∀ q, F57 q → w5.heap.size ≤ q ∧ q ≠ b11 ∧ q ≠ b30 := fun q hq => by rcases hfr59 q hq with h | h; (have h1 := own39 q h; have h2 := lt50 q h; omega); omega
      have lt61 := VotT.lt ho58
      have rel63 : ∀ q, F57 q → F14 q ∨ w32.heap.size ≤ q := fun q hq => by rcases hfr59 q hq with h | h; exact rel40 q h; exact .inr (by omega)
      have dis64 : ∀ q, F57 q → ¬ F41 q := fun q h1 h2 => by rcases hfr59 q h1 with h | h; exact (fun q h1 h2 => dis45 q h2 h1) q h h2; (have h4 := lt51 q h2; omega)
      refine OI_end rfl ?_
      refine X_then ?_
      refine V_seq ?_
      refine V_draws (acts [10]) none_ [[0, 1, 2, 3, 4, 5, 6, 7, 8, 9, 10, 11]] (by kernel_rfl) (by repeat first | exact sure_body (by rintro _ _ ⟨h, _⟩; exact ⟨_, h⟩) | refine sure_then ?_ | refine sure_block ?_ | refine sure_join ?_) (by kernel_rfl) ?_
      intro w66 hk65 he67 L hL68
      have hsz69 := Keep.size hk65
      replace hb18 := hb18.keep hk65 (fun f => f)
      replace hb30_35 := hb30_35.keep hk65 (fun f => f)
      replace hK0 := Keep.tr hK0 (Keep.ofNone hk65)
      replace hk48 := Keep.tr hk48 (Keep.ofNone hk65)
      replace ho42 := Led.keep ho42 hk65 (fun _ _ f => f)
      replace ho58 := VotT.keep ho58 hk65 (fun _ _ f => f)
      have qhb18 := hb18
      have qhb30_35 := hb30_35
      have K70 : Keep none_ w66 w66 := Keep.refl _ _
      obtain rfl := List.mem_singleton.1 hL68
      refine GI_static [3, 4, 5, 6, 7, 8, 9, 10, 11] [(0, nt n), (1, nt again), (5, pt b11), (6, pt b30), (7, nt ((i : Nat) : Int)), (43, .pointer (some ⟨b11, 1, none⟩))] (by kernel_rfl) ?_
      refine GI_cell 29 (.tmp 43) 1 (pt v12) (some 44) (by kernel_rfl) (by kernel_rfl) (by kernel_rfl) qhb18 (fun f => f) (m := 1) (by kernel_rfl) rfl ?_
      refine GI_static [7, 8, 9, 10, 11] [(0, nt n), (1, nt again), (5, pt b11), (6, pt b30), (7, nt ((i : Nat) : Int)), (44, pt v12), (47, pt b11)] (by kernel_rfl) ?_
      refine GI_cell 28 (.tmp 47) 0 (pt l13) (some 48) (by kernel_rfl) (by kernel_rfl) (by kernel_rfl) qhb18 (fun f => f) (m := 1) (by kernel_rfl) rfl ?_
      refine GI_static [9, 10, 11] [(0, nt n), (1, nt again), (5, pt b11), (6, pt b30), (7, nt ((i : Nat) : Int)), (44, pt v12), (48, pt l13), (49, nt ((i : Nat) : Int))] (by kernel_rfl) ?_
      refine GI_agg 26 (.tmp 6) 0 [nt 2, .bool false, nt 0, nt 5, nt 6, nt 0] (some 50) (by kernel_rfl) (by kernel_rfl) (by kernel_rfl) qhb30_35 (fun f => f) (m := 6) (by kernel_rfl) rfl rfl ?_
      by_cases hlo71 : ((i : Nat) : Int) < 6
      ·
       have hfv83 := fl1 (i := i) (by omega)
       rw [if_pos (by omega)] at hfv83
       refine GI_call0 { callee := (Callee.value (Operand.func 9)), args := #[(Operand.tmp 44), (Operand.tmp 48), (Operand.const (Value.int IntKind.i64 1)), (Operand.tmp 49), (Operand.tmp 50)], argTypes := #[29, 28, 3, 3, 26] } 9 #[pt v12, pt l13, nt 1, nt ((i : Nat) : Int), .agg #[nt 2, .bool false, nt 0, nt 5, nt 6, nt 0]] (some 51) (by kernel_rfl) (by kernel_rfl) (by kernel_rfl) (by kernel_rfl) (by kernel_rfl) (vote_spec F57 F41 v12 l13 (openS (flS i) ((i : Nat) : Int) 1) flX (flC i) 1 ((i : Nat) : Int) (Vt.mk 2 false 0 5 6 0) _ ho58 ho42 dis64 (Nat.lt_trans hfl9.2 (by decide))) ?_
       rintro _ w74 ⟨rfl, ⟨F76, F79, ho77, ho80, hfr78, hfr81, hdis82⟩, hk75⟩
       refine ⟨_, rfl, ?_⟩
       have hsz84 := Keep.size hk75
       replace hb18 := hb18.keep hk75 (fun hs => by rcases hs with hs | hs; (have u0 := own62 _ hs; have u1 := lt61 _ hs; omega); (have u0 := own43 _ hs; have u1 := lt51 _ hs; omega))
       replace hb30_35 := hb30_35.keep hk75 (fun hs => by rcases hs with hs | hs; (have u0 := own62 _ hs; have u1 := lt61 _ hs; omega); (have u0 := own43 _ hs; have u1 := lt51 _ hs; omega))
       replace hK0 := Keep.fresh hK0 hk75 (by intro i hi hs; first | exact hs | (rcases hs with hs | hs; (have u0 := own62 i hs; have u1 := lt61 i hs; omega); (have u0 := own43 i hs; have u1 := lt51 i hs; omega)))
       replace hk48 := Keep.fresh hk48 hk75 (fun i hi hs => by rcases hs with hs | hs; (rcases rel63 i hs with h | h; exact .inl h; (exfalso; omega)); (rcases rel44 i hs with h | h; exact .inr h; (exfalso; omega)))
       have own86 : ∀ q, F76 q → w5.heap.size ≤ q ∧ q ≠ b11 ∧ q ≠ b30 := fun q hq => by rcases hfr78 q hq with h | h; (have h1 := own62 q h; have h2 := lt61 q h; omega); omega
       have lt85 := VotT.lt ho77
       have rel87 : ∀ q, F76 q → F14 q ∨ w32.heap.size ≤ q := fun q hq => by rcases hfr78 q hq with h | h; exact rel63 q h; exact .inr (by omega)
       have own89 : ∀ q, F79 q → w5.heap.size ≤ q ∧ q ≠ b11 ∧ q ≠ b30 := fun q hq => by rcases hfr81 q hq with h | h; (have h1 := own43 q h; have h2 := lt51 q h; omega); omega
       have lt88 := Led.lt ho80
       have rel90 : ∀ q, F79 q → G15 q ∨ w32.heap.size ≤ q := fun q hq => by rcases hfr81 q hq with h | h; exact rel44 q h; exact .inr (by omega)
       replace ho77 : VotT F76 w74 v12 (flS (i + 1)) := by rw [show voteS flX (openS (flS i) ((i : Nat) : Int) 1) 1 ((i : Nat) : Int) (Vt.mk 2 false 0 5 6 0) = flS (i + 1) from rfl] at ho77; exact ho77
       replace ho80 : Led F79 w74 l13 flX (flC (i + 1)) := by rw [show voteC flX (flC i) (openS (flS i) ((i : Nat) : Int) 1) 1 ((i : Nat) : Int) (Vt.mk 2 false 0 5 6 0) = flC (i + 1) from rfl] at ho80; exact ho80
       refine GI_pick [(0, nt n), (1, nt again), (5, pt b11), (6, pt b30), (7, nt ((i : Nat) : Int)), (51, nt (voteE flX (openS (flS i) ((i : Nat) : Int) 1) 1 ((i : Nat) : Int) (Vt.mk 2 false 0 5 6 0)))] (by kernel_rfl) ?_
       refine GI_eq [(0, nt n), (1, nt again), (5, pt b11), (6, pt b30), (7, nt ((i : Nat) : Int)), (51, nt 0)] (by rw [show voteE flX (openS (flS i) ((i : Nat) : Int) 1) 1 ((i : Nat) : Int) (Vt.mk 2 false 0 5 6 0) = 0 from hfv83]) ?_
       refine GI_static [] [(0, nt n), (1, nt again), (5, pt b11), (6, pt b30), (7, nt ((i : Nat) : Int)), (8, nt 0)] (by kernel_rfl) ?_
       refine GI_end ?_
       refine X_then ?_
       refine V_seq ?_
       refine V_region ?_
       refine OI_static 6 [(0, nt n), (1, nt again), (5, pt b11), (6, pt b30), (7, nt ((i : Nat) : Int)), (8, nt 0), (57, .bool (!(true == (decide (((i : Nat) : Int) < 6)))))] (by kernel_rfl) ?_
       refine OI_eq [(0, nt n), (1, nt again), (5, pt b11), (6, pt b30), (7, nt ((i : Nat) : Int)), (8, nt 0), (57, .bool false)] (by first | (rw [decide_eq_true hlo71]; done) | (rw [decide_eq_true hlo71]; rfl)) ?_
       refine OI_static 13 [(0, nt n), (1, nt again), (5, pt b11), (6, pt b30), (7, nt ((i : Nat) : Int)), (58, nt 0), (59, .bool false), (60, .bool false), (61, undef), (62, undef), (63, .bool false), (64, .bool false)] (by kernel_rfl) ?_
       refine OI_end rfl ?_
       refine X_then ?_
       refine V_false rfl ?_
       refine V_skip ?_
       refine X_block ?_
       refine X_then ?_
       refine V_region ?_
       have hw92 : IntKind.i64.wrap (((i : Nat) : Int) + 1) = ((i + 1 : Nat) : Int) := (wrap64_id (by omega) (by omega)).trans (by omega)
       refine OI_static 2 [(0, nt n), (1, nt again), (5, pt b11), (6, pt b30), (34, nt (IntKind.i64.wrap (((i : Nat) : Int) + 1))), (58, nt 0), (59, .bool false), (60, .bool false), (61, undef), (62, undef), (63, .bool false)] (by kernel_rfl) ?_
       refine OI_eq [(0, nt n), (1, nt again), (5, pt b11), (6, pt b30), (34, nt ((i + 1 : Nat) : Int)), (58, nt 0), (59, .bool false), (60, .bool false), (61, undef), (62, undef), (63, .bool false)] (by rw [hw92]) ?_
       refine OI_static 3 [(0, nt n), (1, nt again), (5, pt b11), (6, pt b30), (7, nt ((i + 1 : Nat) : Int)), (58, nt 0), (59, .bool false), (60, .bool false), (61, undef), (62, undef), (63, .bool false)] (by kernel_rfl) ?_
       refine OI_end rfl ?_
       exact V_again (k47 - 1) (by omega) [(0, nt n), (1, nt again), (5, pt b11), (6, pt b30), (7, nt ((i + 1 : Nat) : Int))] rfl ⟨i + 1, F76, F79, by omega, ho77, (fun q hq => by have h1 := own86 q hq; have h2 := lt85 q hq; omega), rel87, ho80, (fun q hq => by have h1 := own89 q hq; have h2 := lt88 q hq; omega), rel90, (fun q h1 h2 => hdis82 q h2 h1), hk48, rfl⟩
      ·
       have hfv104 := fl1 (i := i) (by omega)
       rw [if_neg (by omega)] at hfv104
       refine GI_call0 { callee := (Callee.value (Operand.func 9)), args := #[(Operand.tmp 44), (Operand.tmp 48), (Operand.const (Value.int IntKind.i64 1)), (Operand.tmp 49), (Operand.tmp 50)], argTypes := #[29, 28, 3, 3, 26] } 9 #[pt v12, pt l13, nt 1, nt ((i : Nat) : Int), .agg #[nt 2, .bool false, nt 0, nt 5, nt 6, nt 0]] (some 51) (by kernel_rfl) (by kernel_rfl) (by kernel_rfl) (by kernel_rfl) (by kernel_rfl) (vote_spec F57 F41 v12 l13 (openS (flS i) ((i : Nat) : Int) 1) flX (flC i) 1 ((i : Nat) : Int) (Vt.mk 2 false 0 5 6 0) _ ho58 ho42 dis64 (Nat.lt_trans hfl9.2 (by decide))) ?_
       rintro _ w95 ⟨rfl, ⟨F97, F100, ho98, ho101, hfr99, hfr102, hdis103⟩, hk96⟩
       refine ⟨_, rfl, ?_⟩
       have hsz105 := Keep.size hk96
       replace hb18 := hb18.keep hk96 (fun hs => by rcases hs with hs | hs; (have u0 := own62 _ hs; have u1 := lt61 _ hs; omega); (have u0 := own43 _ hs; have u1 := lt51 _ hs; omega))
       replace hb30_35 := hb30_35.keep hk96 (fun hs => by rcases hs with hs | hs; (have u0 := own62 _ hs; have u1 := lt61 _ hs; omega); (have u0 := own43 _ hs; have u1 := lt51 _ hs; omega))
       replace hK0 := Keep.fresh hK0 hk96 (by intro i hi hs; first | exact hs | (rcases hs with hs | hs; (have u0 := own62 i hs; have u1 := lt61 i hs; omega); (have u0 := own43 i hs; have u1 := lt51 i hs; omega)))
       replace hk48 := Keep.fresh hk48 hk96 (fun i hi hs => by rcases hs with hs | hs; (rcases rel63 i hs with h | h; exact .inl h; (exfalso; omega)); (rcases rel44 i hs with h | h; exact .inr h; (exfalso; omega)))
       have own107 : ∀ q, F97 q → w5.heap.size ≤ q ∧ q ≠ b11 ∧ q ≠ b30 := fun q hq => by rcases hfr99 q hq with h | h; (have h1 := own62 q h; have h2 := lt61 q h; omega); omega
       have lt106 := VotT.lt ho98
       have rel108 : ∀ q, F97 q → F14 q ∨ w32.heap.size ≤ q := fun q hq => by rcases hfr99 q hq with h | h; exact rel63 q h; exact .inr (by omega)
       have own110 : ∀ q, F100 q → w5.heap.size ≤ q ∧ q ≠ b11 ∧ q ≠ b30 := fun q hq => by rcases hfr102 q hq with h | h; (have h1 := own43 q h; have h2 := lt51 q h; omega); omega
       have lt109 := Led.lt ho101
       have rel111 : ∀ q, F100 q → G15 q ∨ w32.heap.size ≤ q := fun q hq => by rcases hfr102 q hq with h | h; exact rel44 q h; exact .inr (by omega)
       replace ho98 : VotT F97 w95 v12 (flS (i + 1)) := by rw [show voteS flX (openS (flS i) ((i : Nat) : Int) 1) 1 ((i : Nat) : Int) (Vt.mk 2 false 0 5 6 0) = flS (i + 1) from rfl] at ho98; exact ho98
       replace ho101 : Led F100 w95 l13 flX (flC (i + 1)) := by rw [show voteC flX (flC i) (openS (flS i) ((i : Nat) : Int) 1) 1 ((i : Nat) : Int) (Vt.mk 2 false 0 5 6 0) = flC (i + 1) from rfl] at ho101; exact ho101
       refine GI_pick [(0, nt n), (1, nt again), (5, pt b11), (6, pt b30), (7, nt ((i : Nat) : Int)), (51, nt (voteE flX (openS (flS i) ((i : Nat) : Int) 1) 1 ((i : Nat) : Int) (Vt.mk 2 false 0 5 6 0)))] (by kernel_rfl) ?_
       refine GI_eq [(0, nt n), (1, nt again), (5, pt b11), (6, pt b30), (7, nt ((i : Nat) : Int)), (51, nt 3)] (by rw [show voteE flX (openS (flS i) ((i : Nat) : Int) 1) 1 ((i : Nat) : Int) (Vt.mk 2 false 0 5 6 0) = 3 from hfv104]) ?_
       refine GI_static [] [(0, nt n), (1, nt again), (5, pt b11), (6, pt b30), (7, nt ((i : Nat) : Int)), (8, nt 3)] (by kernel_rfl) ?_
       refine GI_end ?_
       refine X_then ?_
       refine V_seq ?_
       refine V_region ?_
       refine OI_static 6 [(0, nt n), (1, nt again), (5, pt b11), (6, pt b30), (7, nt ((i : Nat) : Int)), (8, nt 3), (57, .bool (!(false == (decide (((i : Nat) : Int) < 6)))))] (by kernel_rfl) ?_
       refine OI_eq [(0, nt n), (1, nt again), (5, pt b11), (6, pt b30), (7, nt ((i : Nat) : Int)), (8, nt 3), (57, .bool false)] (by first | (rw [decide_eq_false hlo71]; done) | (rw [decide_eq_false hlo71]; rfl)) ?_
       refine OI_static 13 [(0, nt n), (1, nt again), (5, pt b11), (6, pt b30), (7, nt ((i : Nat) : Int)), (58, nt 3), (59, .bool true), (60, .bool true), (61, nt 3), (62, .bool false), (63, .bool false), (64, .bool false)] (by kernel_rfl) ?_
       refine OI_end rfl ?_
       refine X_then ?_
       refine V_false rfl ?_
       refine V_skip ?_
       refine X_block ?_
       refine X_then ?_
       refine V_region ?_
       have hw113 : IntKind.i64.wrap (((i : Nat) : Int) + 1) = ((i + 1 : Nat) : Int) := (wrap64_id (by omega) (by omega)).trans (by omega)
       refine OI_static 2 [(0, nt n), (1, nt again), (5, pt b11), (6, pt b30), (34, nt (IntKind.i64.wrap (((i : Nat) : Int) + 1))), (58, nt 3), (59, .bool true), (60, .bool true), (61, nt 3), (62, .bool false), (63, .bool false)] (by kernel_rfl) ?_
       refine OI_eq [(0, nt n), (1, nt again), (5, pt b11), (6, pt b30), (34, nt ((i + 1 : Nat) : Int)), (58, nt 3), (59, .bool true), (60, .bool true), (61, nt 3), (62, .bool false), (63, .bool false)] (by rw [hw113]) ?_
       refine OI_static 3 [(0, nt n), (1, nt again), (5, pt b11), (6, pt b30), (7, nt ((i + 1 : Nat) : Int)), (58, nt 3), (59, .bool true), (60, .bool true), (61, nt 3), (62, .bool false), (63, .bool false)] (by kernel_rfl) ?_
       refine OI_end rfl ?_
       exact V_again (k47 - 1) (by omega) [(0, nt n), (1, nt again), (5, pt b11), (6, pt b30), (7, nt ((i + 1 : Nat) : Int))] rfl ⟨i + 1, F97, F100, by omega, ho98, (fun q hq => by have h1 := own107 q hq; have h2 := lt106 q hq; omega), rel108, ho101, (fun q hq => by have h1 := own110 q hq; have h2 := lt109 q hq; omega), rel111, (fun q h1 h2 => hdis103 q h2 h1), hk48, rfl⟩
     ·
      obtain rfl : n = ((i : Nat) : Int) := by omega
      refine V_exit ?_
      refine X_exit_then ?_
      refine X_exit_then ?_
      refine X_exit_here ?_
      refine X_then ?_
      refine V_seq ?_
      refine V_seq ?_
      refine V_draws (acts [15]) none_ [[0, 1, 2, 3, 4, 5, 6, 7, 8, 9, 10, 11, 12, 13, 14, 15, 16, 17]] (by kernel_rfl) (by repeat first | exact sure_body (by rintro _ _ ⟨h, _⟩; exact ⟨_, h⟩) | refine sure_then ?_ | refine sure_block ?_ | refine sure_join ?_) (by kernel_rfl) ?_
      intro w115 hk114 he116 L hL117
      have hsz118 := Keep.size hk114
      replace hb18 := hb18.keep hk114 (fun f => f)
      replace hb30_35 := hb30_35.keep hk114 (fun f => f)
      replace hK0 := Keep.tr hK0 (Keep.ofNone hk114)
      replace ho38 := VotT.keep ho38 hk114 (fun _ _ f => f)
      replace ho42 := Led.keep ho42 hk114 (fun _ _ f => f)
      have qhb18 := hb18
      have qhb30_35 := hb30_35
      have K119 : Keep none_ w115 w115 := Keep.refl _ _
      obtain rfl := List.mem_singleton.1 hL117
      refine GI_static [5, 6, 7, 8, 9, 10, 11, 12, 13, 14, 15, 16, 17] [(0, nt ((i : Nat) : Int)), (1, nt again), (5, pt b11), (6, pt b30), (69, .bool (decide (again < imin ((i : Nat) : Int) 6)))] (by kernel_rfl) ?_
      by_cases hg120 : again < imin ((i : Nat) : Int) 6
      ·
       refine GI_eq [(0, nt ((i : Nat) : Int)), (1, nt again), (5, pt b11), (6, pt b30), (69, .bool true)] (by first | simp [hg120] | rfl) ?_
       refine GI_static [8, 9, 10, 11, 12, 13, 14, 15, 16, 17] [(0, nt ((i : Nat) : Int)), (1, nt again), (5, pt b11), (6, pt b30), (69, .bool true), (72, .pointer (some ⟨b11, 1, none⟩))] (by kernel_rfl) ?_
       refine GI_cell 29 (.tmp 72) 1 (pt v12) (some 73) (by kernel_rfl) (by kernel_rfl) (by kernel_rfl) qhb18 (fun f => f) (m := 1) (by kernel_rfl) rfl ?_
       refine GI_static [12, 13, 14, 15, 16, 17] [(0, nt ((i : Nat) : Int)), (1, nt again), (5, pt b11), (6, pt b30), (69, .bool true), (73, pt v12), (76, pt b11)] (by kernel_rfl) ?_
       refine GI_cell 28 (.tmp 76) 0 (pt l13) (some 77) (by kernel_rfl) (by kernel_rfl) (by kernel_rfl) qhb18 (fun f => f) (m := 1) (by kernel_rfl) rfl ?_
       refine GI_static [14, 15, 16, 17] [(0, nt ((i : Nat) : Int)), (5, pt b11), (6, pt b30), (69, .bool true), (73, pt v12), (77, pt l13), (78, nt again)] (by kernel_rfl) ?_
       refine GI_agg 26 (.tmp 6) 0 [nt 2, .bool false, nt 0, nt 5, nt 6, nt 0] (some 79) (by kernel_rfl) (by kernel_rfl) (by kernel_rfl) qhb30_35 (fun f => f) (m := 6) (by kernel_rfl) rfl rfl ?_
       obtain ⟨hfa, hfb⟩ := fl3 (i := i) (by omega) (a := again) (by omega) (by omega) (by assumption)
       refine GI_call0 { callee := (Callee.value (Operand.func 9)), args := #[(Operand.tmp 73), (Operand.tmp 77), (Operand.const (Value.int IntKind.i64 1)), (Operand.tmp 78), (Operand.tmp 79)], argTypes := #[29, 28, 3, 3, 26] } 9 #[pt v12, pt l13, nt 1, nt again, .agg #[nt 2, .bool false, nt 0, nt 5, nt 6, nt 0]] (some 80) (by kernel_rfl) (by kernel_rfl) (by kernel_rfl) (by kernel_rfl) (by kernel_rfl) (vote_spec F37 F41 v12 l13 (flS i) flX (flC i) 1 again (Vt.mk 2 false 0 5 6 0) _ ho38 ho42 (fun q h1 h2 => dis45 q h2 h1) (Nat.lt_trans hfl9.2 (by decide))) ?_
       rintro _ w123 ⟨rfl, ⟨F125, F128, ho126, ho129, hfr127, hfr130, hdis131⟩, hk124⟩
       refine ⟨_, rfl, ?_⟩
       have hsz132 := Keep.size hk124
       replace hb18 := hb18.keep hk124 (fun hs => by rcases hs with hs | hs; (have u0 := own39 _ hs; have u1 := lt50 _ hs; omega); (have u0 := own43 _ hs; have u1 := lt51 _ hs; omega))
       replace hK0 := Keep.fresh hK0 hk124 (by intro i hi hs; first | exact hs | (rcases hs with hs | hs; (have u0 := own39 i hs; have u1 := lt50 i hs; omega); (have u0 := own43 i hs; have u1 := lt51 i hs; omega)))
       have own134 : ∀ q, F125 q → w5.heap.size ≤ q ∧ q ≠ b11 := fun q hq => by rcases hfr127 q hq with h | h; (have h1 := own39 q h; have h2 := lt50 q h; omega); omega
       have lt133 := VotT.lt ho126
       have rel135 : ∀ q, F125 q → F14 q ∨ w32.heap.size ≤ q := fun q hq => by rcases hfr127 q hq with h | h; exact rel40 q h; exact .inr (by omega)
       have own137 : ∀ q, F128 q → w5.heap.size ≤ q ∧ q ≠ b11 := fun q hq => by rcases hfr130 q hq with h | h; (have h1 := own43 q h; have h2 := lt51 q h; omega); omega
       have lt136 := Led.lt ho129
       have rel138 : ∀ q, F128 q → G15 q ∨ w32.heap.size ≤ q := fun q hq => by rcases hfr130 q hq with h | h; exact rel44 q h; exact .inr (by omega)
       replace ho126 : VotT F125 w123 v12 (voteS flX (flS i) 1 again flV) := by rw [show voteS flX (flS i) 1 again (Vt.mk 2 false 0 5 6 0) = voteS flX (flS i) 1 again flV from rfl] at ho126; exact ho126
       refine GI_pick [(0, nt ((i : Nat) : Int)), (5, pt b11), (69, .bool true), (80, nt (voteE flX (flS i) 1 again (Vt.mk 2 false 0 5 6 0)))] (by kernel_rfl) ?_
       refine GI_eq [(0, nt ((i : Nat) : Int)), (5, pt b11), (69, .bool true), (80, nt 0)] (by rw [show voteE flX (flS i) 1 again (Vt.mk 2 false 0 5 6 0) = 0 from hfa]) ?_
       refine GI_static [] [(0, nt ((i : Nat) : Int)), (5, pt b11), (82, .bool false)] (by kernel_rfl) ?_
       refine GI_end ?_
       refine X_then ?_
       refine V_false rfl ?_
       refine V_skip ?_
       refine X_then ?_
       refine V_seq ?_
       refine V_region ?_
       refine OI_static 3 [(0, nt ((i : Nat) : Int)), (86, .pointer (some ⟨b11, 1, none⟩))] (by kernel_rfl) ?_
       refine OI_cell 29 (.tmp 86) 1 (pt v12) (some 87) (by kernel_rfl) (by kernel_rfl) hb18 (m := 1) (by kernel_rfl) rfl ?_
       refine OI_call { callee := (Callee.value (Operand.func 10)), args := #[(Operand.tmp 87), (Operand.const (Value.int IntKind.i64 1)), (Operand.const (Value.int IntKind.i64 1))], argTypes := #[29, 3, 3] } 10 #[pt v12, nt 1, nt 1] (some 88) (by kernel_rfl) (by kernel_rfl) (by kernel_rfl) (casts_spec F125 v12 (voteS flX (flS i) 1 again flV) 1 1 _ ho126) ?_
       rintro _ w139 ⟨K141, capK141, rfl, hAK141, hk140, owK141⟩
       refine ⟨_, rfl, ?_⟩
       have hsz142 := Keep.size hk140
       replace hK0 := Keep.tr hK0 (Keep.ofNone hk140)
       replace ho126 := VotT.keep ho126 hk140 (fun _ _ f => f)
       replace ho129 := Led.keep ho129 hk140 (fun _ _ f => f)
       have ltK141 := SlT.lt hAK141
       have owbK141 := owK141
       refine OI_static 10 [(0, nt ((i : Nat) : Int)), (9, .slice K141 ((vrow (voteS flX (flS i) 1 again flV) 1 1).length) capK141), (10, .bool true)] (by kernel_rfl) ?_
       refine OI_end rfl ?_
       refine X_then ?_
       refine V_seq ?_
       refine V_region ?_
       refine OI_static 9 [(99, .bool (decide ((((vrow (voteS flX (flS i) 1 again flV) 1 1).length : Nat) : Int) = imin ((i : Nat) : Int) 6)))] (by kernel_rfl) ?_
       refine OI_eq [(99, .bool true)] (by rw [decide_eq_true (show (((vrow (voteS flX (flS i) 1 again flV) 1 1).length : Nat) : Int) = imin ((i : Nat) : Int) 6 from by rw [hfb]; exact fl_min i)]) ?_
       refine OI_call { callee := (Callee.value (Operand.func 11)), args := #[], argTypes := #[] } 11 #[] (some 100) (by kernel_rfl) (by kernel_rfl) (by kernel_rfl) (known_spec _) ?_
       rintro _ w144 ⟨rfl, hk145⟩
       refine ⟨_, rfl, ?_⟩
       have hsz146 := Keep.size hk145
       replace hAK141 := SlT.keep0 hAK141 hk145
       replace hK0 := Keep.tr hK0 (Keep.ofNone hk145)
       replace ho126 := VotT.keep ho126 hk145 (fun _ _ f => f)
       replace ho129 := Led.keep ho129 hk145 (fun _ _ f => f)
       refine OI_static 12 [(4, .bool true)] (by kernel_rfl) ?_
       refine OI_end rfl ?_
       refine X_then ?_
       refine V_ret ?_
       exact X_return (.bool true) rfl ⟨rfl, hK0⟩
      ·
       refine GI_eq [(0, nt ((i : Nat) : Int)), (1, nt again), (5, pt b11), (6, pt b30), (69, .bool false)] (by first | simp [hg120] | rfl) ?_
       refine GI_static [] [(0, nt ((i : Nat) : Int)), (5, pt b11), (82, .bool false)] (by kernel_rfl) ?_
       refine GI_end ?_
       refine X_then ?_
       refine V_false rfl ?_
       refine V_skip ?_
       refine X_then ?_
       refine V_seq ?_
       refine V_region ?_
       refine OI_static 3 [(0, nt ((i : Nat) : Int)), (86, .pointer (some ⟨b11, 1, none⟩))] (by kernel_rfl) ?_
       refine OI_cell 29 (.tmp 86) 1 (pt v12) (some 87) (by kernel_rfl) (by kernel_rfl) hb18 (m := 1) (by kernel_rfl) rfl ?_
       refine OI_call { callee := (Callee.value (Operand.func 10)), args := #[(Operand.tmp 87), (Operand.const (Value.int IntKind.i64 1)), (Operand.const (Value.int IntKind.i64 1))], argTypes := #[29, 3, 3] } 10 #[pt v12, nt 1, nt 1] (some 88) (by kernel_rfl) (by kernel_rfl) (by kernel_rfl) (casts_spec F37 v12 (flS i) 1 1 _ ho38) ?_
       rintro _ w147 ⟨K149, capK149, rfl, hAK149, hk148, owK149⟩
       refine ⟨_, rfl, ?_⟩
       have hsz150 := Keep.size hk148
       replace hK0 := Keep.tr hK0 (Keep.ofNone hk148)
       replace ho38 := VotT.keep ho38 hk148 (fun _ _ f => f)
       replace ho42 := Led.keep ho42 hk148 (fun _ _ f => f)
       have ltK149 := SlT.lt hAK149
       have owbK149 := owK149
       refine OI_static 10 [(0, nt ((i : Nat) : Int)), (9, .slice K149 ((vrow (flS i) 1 1).length) capK149), (10, .bool true)] (by kernel_rfl) ?_
       refine OI_end rfl ?_
       refine X_then ?_
       refine V_seq ?_
       refine V_region ?_
       refine OI_static 9 [(99, .bool (decide ((((vrow (flS i) 1 1).length : Nat) : Int) = imin ((i : Nat) : Int) 6)))] (by kernel_rfl) ?_
       refine OI_eq [(99, .bool true)] (by rw [decide_eq_true (show (((vrow (flS i) 1 1).length : Nat) : Int) = imin ((i : Nat) : Int) 6 from by rw [hfl9.1]; exact fl_min i)]) ?_
       refine OI_call { callee := (Callee.value (Operand.func 11)), args := #[], argTypes := #[] } 11 #[] (some 100) (by kernel_rfl) (by kernel_rfl) (by kernel_rfl) (known_spec _) ?_
       rintro _ w152 ⟨rfl, hk153⟩
       refine ⟨_, rfl, ?_⟩
       have hsz154 := Keep.size hk153
       replace hAK149 := SlT.keep0 hAK149 hk153
       replace hK0 := Keep.tr hK0 (Keep.ofNone hk153)
       replace ho38 := VotT.keep ho38 hk153 (fun _ _ f => f)
       replace ho42 := Led.keep ho42 hk153 (fun _ _ f => f)
       refine OI_static 12 [(4, .bool true)] (by kernel_rfl) ?_
       refine OI_end rfl ?_
       refine X_then ?_
       refine V_ret ?_
       exact X_return (.bool true) rfl ⟨rfl, hK0⟩
end Go.Al

