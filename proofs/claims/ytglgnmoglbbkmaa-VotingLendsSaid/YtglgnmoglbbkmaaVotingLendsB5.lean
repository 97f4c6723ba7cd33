/-
  Put together out of 10 texts: Walks of the laws of voting: a beginning. The laws of voting: locks; what succeeds. Walks of the laws of voting: what is lent counts. The laws of voting: a vote that is cast anew. The laws of voting: more of what is delegated. The laws of voting: what is lent to one who splits. The laws of voting: who lends, and who votes. Walks of package voting: Undelegate. Package voting: Undelegate. Walks of the laws of voting: who lends, and who votes.
-/
import Derived.Test.YtglgnmoglbbkmaaVotingLendsB4
namespace Go.Al
open Go Go.RowKit Go.Proofs
set_option maxRecDepth 10000 in
theorem rnew6_weak (A : Option Addr) (cap : Nat) (fs : List Int) (w : World) (hA0 : ArgT w 1 intc A cap fs) (hn : fs.length ≤ 100000) : Calls Try.prog 18 #[.slice A fs.length cap] w fun e w' => ∃ pv n, e = .returned (.tuple #[.pointer pv, .int .i64 n]) ∧ Keep none_ w w' := by
 have hA := hA0
 have hK0 : Keep none_ w w := Keep.refl _ _
 have hzhK0 := Keep.size hK0
 refine enterV Try.func18 rfl [.slice A fs.length cap] 51 rfl rfl rfl ?_
 refine V_pick [(0, .slice A fs.length cap)] rfl ?_
 refine V_seq ?_
 refine V_region ?_
 refine OI_static 2 [(0, .slice A fs.length cap)] (by kernel_rfl) ?_
 refine OI_end rfl ?_
 refine X_then ?_
 refine V_seq ?_
 refine V_seq ?_
 refine V_region ?_
 refine OI_static 3 [(0, .slice A fs.length cap), (9, .bool (decide (((fs.length : Nat) : Int) > 10)))] (by kernel_rfl) ?_
 refine OI_end rfl ?_
 refine X_then ?_
 refine V_if (((fs.length : Nat) : Int) > 10) (by kernel_rfl) (fun hc1 => ?_) (fun hc1 => ?_)
 ·
  refine V_seq ?_
  refine V_region ?_
  refine OI_static 2 [(2, .pointer none), (3, nt 1)] (by kernel_rfl) ?_
  refine OI_end rfl ?_
  refine X_then ?_
  refine V_ret ?_
  refine X_ret_then ?_
  exact X_return (.tuple #[.pointer none, nt 1]) rfl ⟨_, _, rfl, hK0⟩
 ·
  refine V_skip ?_
  refine X_then ?_
  refine V_seq ?_
  refine V_region ?_
  refine OI_make (E := 108) (sz := 3) (by_ := 40) (m := 10) (kd := .i64) (zv := .agg #[nt 0, nt 0, .slice none 0 0]) 103 (.const (Value.int IntKind.i64 10)) (.const (Value.int IntKind.i64 10)) ((List.replicate 10 [nt 0, nt 0, .slice none 0 0]).flatten) (some 10) (by kernel_rfl) (by kernel_rfl) (by kernel_rfl) (by kernel_rfl) (by kernel_rfl) (by decide) (by decide) (by kernel_rfl) ?_
  intro b2 w2 e2 hb2 k2 z2
  have hsz3 := Keep.size k2
  replace hA := ArgT.keep0 hA k2
  replace hK0 := Keep.tr hK0 (Keep.ofNone k2)
  have hb2lt := hb2.lt
  refine OI_static 2 [(0, .slice A fs.length cap), (11, .agg #[.slice (some ⟨b2, 0, none⟩) 10 10])] (by kernel_rfl) ?_
  refine OI_box 105 (.tmp 11) (.agg #[.slice (some ⟨b2, 0, none⟩) 10 10]) [.slice (some ⟨b2, 0, none⟩) 10 10] (some 12) (by kernel_rfl) (by kernel_rfl) (by kernel_rfl) ?_
  intro b4 w4 e4 hb4 k4 z4
  have hsz5 := Keep.size k4
  replace hb2 := hb2.keep k4 (fun f => f)
  replace hA := ArgT.keep0 hA k4
  replace hK0 := Keep.tr hK0 (Keep.ofNone k4)
  have hb4lt := hb4.lt
  refine OI_static 4 [(0, .slice A fs.length cap), (4, pt b4)] (by kernel_rfl) ?_
  refine OI_end rfl ?_
  refine X_then ?_
  refine V_seq ?_
  refine V_region ?_
  refine OI_static 1 [(0, .slice A fs.length cap), (4, pt b4), (5, nt 0)] (by kernel_rfl) ?_
  refine OI_end rfl ?_
  refine X_then ?_
  refine V_seq ?_
  refine V_seq ?_
  refine V_region ?_
  refine OI_static 1 [(0, .slice A fs.length cap), (4, pt b4), (5, nt 0), (6, nt 0)] (by kernel_rfl) ?_
  refine OI_end rfl ?_
  refine X_then ?_
  refine V_block ?_
  refine V_pick [(0, .slice A fs.length cap), (4, pt b4), (5, nt 0), (6, nt 0)] rfl ?_
  refine V_loop (fun k wI e => ∃ i : Nat, ∃ s5 : Int, ∃ Lx : List Value, (k + i = fs.length) ∧ (Blk wI b2 Lx 108) ∧ (Lx.length = 30) ∧ Keep (only b2) w4 wI ∧ e = [(0, .slice A fs.length cap), (4, pt b4), (5, nt s5), (6, nt ((i : Nat) : Int))]) fs.length ⟨0, 0, (List.replicate 10 [nt 0, nt 0, .slice none 0 0]).flatten, by omega, hb2, by decide, Keep.refl _ _, rfl⟩ ?_
  rintro k7 w6 _ ⟨i, s5, Lx, hki, hB, hLx, hk8, rfl⟩
  have hsz9 := Keep.size hk8
  replace hb4 := hb4.keep hk8 (by show ¬ (_ = _); omega)
  replace hA := ArgT.keep hA hk8 hA0 (fun k hk hs => by have hs : k = b2 := hs; omega)
  replace hK0 := Keep.fresh hK0 hk8 (by intro i hi hs; first | exact hs | exact Or.inl hs | exact Or.inr hs | (exfalso; have hs2 : i = b2 := hs; omega))
  have hzhk8 := Keep.size hk8
  have hb2lt := hB.lt
  refine V_seq ?_
  refine V_seq ?_
  refine V_region ?_
  refine OI_static 4 [(0, .slice A fs.length cap), (4, pt b4), (5, nt s5), (6, nt ((i : Nat) : Int)), (16, .bool (decide (((i : Nat) : Int) < ((fs.length : Nat) : Int))))] (by kernel_rfl) ?_
  refine OI_end rfl ?_
  refine X_then ?_
  refine V_if (((i : Nat) : Int) < ((fs.length : Nat) : Int)) (by kernel_rfl) (fun hc10 => ?_) (fun hc10 => ?_)
  ·
   refine V_skip ?_
   refine X_then ?_
   refine V_seq ?_
   refine V_block ?_
   refine V_seq ?_
   refine V_seq ?_
   refine V_region ?_
   refine OI_static 2 [(0, .slice A fs.length cap), (4, pt b4), (5, nt s5), (6, nt ((i : Nat) : Int)), (19, .slice A fs.length cap), (20, nt ((i : Nat) : Int))] (by kernel_rfl) ?_
   obtain ⟨b11, o11, L11, rfl, hat11⟩ := ArgT.open_ hA (by first | omega | (simp only [List.length_map]; omega) | (simp; done) | (simp; omega))
   have hb11lt0 := ArgT.lt hA0 (by first | omega | (simp only [List.length_map]; omega) | (simp; done) | (simp; omega))
   have hb11lt := hat11.blk.lt
   refine OI_pure (some 21) (.indexAddr 24 (.tmp 19) (.tmp 20)) (by kernel_rfl) (pure_idxN (b := b11) (o := o11) (len := fs.length) (cap := cap) (kd := .i64) (j := i) (E := 3) (sz := 1) (by_ := 8) (by kernel_rfl) (by kernel_rfl) (by kernel_rfl) (by omega)) ?_
   obtain ⟨x12, hx13⟩ : ∃ x, fs[i]? = some x := ⟨_, List.getElem?_eq_getElem (by first | omega | (simp only [List.length_map]; omega))⟩
   refine OI_cellR 3 (.tmp 21) (o11 + i * 1) (nt x12) (some 22) (by kernel_rfl) (by kernel_rfl) hat11.blk (m := 1) (by kernel_rfl) (AtR.cell0 hat11 (es_at hx13) rfl) ?_
   refine OI_static 6 [(0, .slice (some ⟨b11, o11, none⟩) fs.length cap), (4, pt b4), (5, nt s5), (6, nt ((i : Nat) : Int)), (24, .bool (decide (x12 < 0)))] (by kernel_rfl) ?_
   by_cases hg14 : x12 < 0
   ·
    refine OI_eq [(0, .slice (some ⟨b11, o11, none⟩) fs.length cap), (4, pt b4), (5, nt s5), (6, nt ((i : Nat) : Int)), (24, .bool true)] (by first | simp [hg14] | rfl) ?_
    refine OI_static 12 [(0, .slice (some ⟨b11, o11, none⟩) fs.length cap), (4, pt b4), (5, nt s5), (6, nt ((i : Nat) : Int)), (25, undef), (26, undef), (27, undef), (28, undef), (29, undef), (30, .bool true)] (by kernel_rfl) ?_
    refine OI_end rfl ?_
    refine X_then ?_
    refine V_true rfl ?_
    refine V_seq ?_
    refine V_region ?_
    refine OI_static 2 [(2, .pointer none), (3, nt 1)] (by kernel_rfl) ?_
    refine OI_end rfl ?_
    refine X_then ?_
    refine V_ret ?_
    refine X_ret_then ?_
    refine X_ret_block ?_
    refine X_ret_then ?_
    refine X_ret_then ?_
    refine X_ret_block ?_
    refine X_ret_then ?_
    exact X_return (.tuple #[.pointer none, nt 1]) rfl ⟨_, _, rfl, hK0⟩
   ·
    refine OI_eq [(0, .slice (some ⟨b11, o11, none⟩) fs.length cap), (4, pt b4), (5, nt s5), (6, nt ((i : Nat) : Int)), (24, .bool false)] (by first | simp [hg14] | rfl) ?_
    refine OI_static 8 [(0, .slice (some ⟨b11, o11, none⟩) fs.length cap), (4, pt b4), (5, nt s5), (6, nt ((i : Nat) : Int)), (24, .bool false), (25, .slice (some ⟨b11, o11, none⟩) fs.length cap), (26, nt ((i : Nat) : Int))] (by kernel_rfl) ?_
    refine OI_pure (some 27) (.indexAddr 24 (.tmp 25) (.tmp 26)) (by kernel_rfl) (pure_idxN (b := b11) (o := o11) (len := fs.length) (cap := cap) (kd := .i64) (j := i) (E := 3) (sz := 1) (by_ := 8) (by kernel_rfl) (by kernel_rfl) (by kernel_rfl) (by omega)) ?_
    refine OI_cellR 3 (.tmp 27) (o11 + i * 1) (nt x12) (some 28) (by kernel_rfl) (by kernel_rfl) hat11.blk (m := 1) (by kernel_rfl) (AtR.cell0 hat11 (es_at hx13) rfl) ?_
    refine OI_static 12 [(0, .slice (some ⟨b11, o11, none⟩) fs.length cap), (4, pt b4), (5, nt s5), (6, nt ((i : Nat) : Int)), (25, .slice (some ⟨b11, o11, none⟩) fs.length cap), (26, nt ((i : Nat) : Int)), (27, .pointer (some ⟨b11, o11 + i * 1, none⟩)), (28, nt x12), (29, .bool (decide (x12 > 1073741824))), (30, .bool (decide (x12 > 1073741824)))] (by kernel_rfl) ?_
    refine OI_end rfl ?_
    refine X_then ?_
    refine V_if (x12 > 1073741824) (by kernel_rfl) (fun hc15 => ?_) (fun hc15 => ?_)
    ·
     refine V_seq ?_
     refine V_region ?_
     refine OI_static 2 [(2, .pointer none), (3, nt 1)] (by kernel_rfl) ?_
     refine OI_end rfl ?_
     refine X_then ?_
     refine V_ret ?_
     refine X_ret_then ?_
     refine X_ret_block ?_
     refine X_ret_then ?_
     refine X_ret_then ?_
     refine X_ret_block ?_
     refine X_ret_then ?_
     exact X_return (.tuple #[.pointer none, nt 1]) rfl ⟨_, _, rfl, hK0⟩
    ·
     refine V_skip ?_
     refine X_then ?_
     refine V_seq ?_
     refine V_draws (acts [11]) (only b2) [[0, 1, 2, 3, 4, 5, 6, 7, 8, 9, 10, 11]] (by kernel_rfl) (by repeat first | exact sure_body (by rintro _ _ ⟨_, _, h, _⟩; exact ⟨_, h⟩) | refine sure_then ?_ | refine sure_block ?_ | refine sure_join ?_) (by kernel_rfl) ?_
     intro w17 hk16 he18 L hL19
     have hsz20 := Keep.size hk16
     replace hB := hB.keep hk16 (fun f => f)
     replace hb4 := hb4.keep hk16 (fun f => f)
     replace hat11 := hat11.keep hk16 (fun f => f)
     replace hK0 := Keep.tr hK0 (Keep.ofNone hk16)
     replace hk8 := Keep.tr hk8 (Keep.ofNone hk16)
     have qhB := hB
     have qhb4 := hb4
     have qhat11 := hat11
     have K21 : Keep (only b2) w17 w17 := Keep.refl _ _
     obtain rfl := List.mem_singleton.1 hL19
     refine GI_static [3, 4, 5, 6, 7, 8, 9, 10, 11] [(0, .slice (some ⟨b11, o11, none⟩) fs.length cap), (4, pt b4), (5, nt s5), (6, nt ((i : Nat) : Int)), (25, .slice (some ⟨b11, o11, none⟩) fs.length cap), (26, nt ((i : Nat) : Int)), (27, .pointer (some ⟨b11, o11 + i * 1, none⟩)), (28, nt x12), (29, .bool (decide (x12 > 1073741824))), (33, pt b4)] (by kernel_rfl) ?_
     refine GI_cell 103 (.tmp 33) 0 (.slice (some ⟨b2, 0, none⟩) 10 10) (some 34) (by kernel_rfl) (by kernel_rfl) (by kernel_rfl) qhb4 (by show ¬ (_ = _); omega) (m := 1) (by kernel_rfl) rfl ?_
     refine GI_static [7, 8, 9, 10, 11] [(0, .slice (some ⟨b11, o11, none⟩) fs.length cap), (4, pt b4), (5, nt s5), (6, nt ((i : Nat) : Int)), (25, .slice (some ⟨b11, o11, none⟩) fs.length cap), (26, nt ((i : Nat) : Int)), (27, .pointer (some ⟨b11, o11 + i * 1, none⟩)), (28, nt x12), (29, .bool (decide (x12 > 1073741824))), (34, .slice (some ⟨b2, 0, none⟩) 10 10), (35, nt ((i : Nat) : Int)), (36, .slice (some ⟨b11, o11, none⟩) fs.length cap), (37, nt ((i : Nat) : Int))] (by kernel_rfl) ?_
     refine GI_pure (some 38) (.indexAddr 24 (.tmp 36) (.tmp 37)) (by kernel_rfl) (by kernel_rfl) (pure_idxN (b := b11) (o := o11) (len := fs.length) (cap := cap) (kd := .i64) (j := i) (E := 3) (sz := 1) (by_ := 8) (by kernel_rfl) (by kernel_rfl) (by kernel_rfl) (by omega)) ?_
     refine GI_cellR 3 (.tmp 38) (o11 + i * 1) (nt x12) (some 39) (by kernel_rfl) (by kernel_rfl) (by kernel_rfl) qhat11.blk (by show ¬ (_ = _); omega) (m := 1) (by kernel_rfl) (AtR.cell0 qhat11 (es_at hx13) rfl) ?_
     refine GI_pure (some 40) (.indexAddr 103 (.tmp 34) (.tmp 35)) (by kernel_rfl) (by kernel_rfl) (pure_idxN (b := b2) (o := 0) (len := 10) (cap := 10) (kd := .i64) (j := i) (E := 108) (sz := 3) (by_ := 40) (by kernel_rfl) (by kernel_rfl) (by kernel_rfl) (by omega)) ?_
     refine GI_static [11] [(0, .slice (some ⟨b11, o11, none⟩) fs.length cap), (4, pt b4), (5, nt s5), (6, nt ((i : Nat) : Int)), (25, .slice (some ⟨b11, o11, none⟩) fs.length cap), (26, nt ((i : Nat) : Int)), (27, .pointer (some ⟨b11, o11 + i * 1, none⟩)), (28, nt x12), (29, .bool (decide (x12 > 1073741824))), (39, nt x12), (41, .pointer (some ⟨b2, 0 + i * 3, none⟩))] (by kernel_rfl) ?_
     refine GI_final 11 (by kernel_rfl) (by kernel_rfl) ?_
     refine OI_set (m := 1) (kd := false) 3 (.tmp 41) (.tmp 39) (0 + i * 3) (nt x12) [nt x12] none (by kernel_rfl) (by kernel_rfl) (by kernel_rfl) hB (by kernel_rfl) (by kernel_rfl) (by kernel_rfl) (by rw [hLx]; show 0 + i * 3 + 1 ≤ 30; omega) (by simp [Value.oneCell']) ?_
     intro w22 hb2_25 hk23 hz24
     replace hb2_25 : Blk w22 b2 (over Lx (0 + i * 3) [nt x12]) 108 := hb2_25
     have hsz26 := Keep.size hk23
     replace hb4 := hb4.keep hk23 (by show ¬ (_ = _); omega)
     replace hat11 := hat11.keep hk23 (by show ¬ (_ = _); omega)
     replace hK0 := Keep.fresh hK0 hk23 (by intro i hi hs; first | exact hs | exact Or.inl hs | exact Or.inr hs | (exfalso; have hs2 : i = b2 := hs; omega))
     replace hk8 := Keep.fresh hk8 hk23 (by intro i hi hs; first | exact hs | exact Or.inl hs | exact Or.inr hs | (exfalso; have hs2 : i = b2 := hs; omega))
     refine OI_end rfl ?_
     refine X_then ?_
     refine V_region ?_
     refine OI_static 3 [(0, .slice (some ⟨b11, o11, none⟩) fs.length cap), (4, pt b4), (6, nt ((i : Nat) : Int)), (25, .slice (some ⟨b11, o11, none⟩) fs.length cap), (26, nt ((i : Nat) : Int)), (27, .pointer (some ⟨b11, o11 + i * 1, none⟩)), (28, nt x12), (29, .bool (decide (x12 > 1073741824))), (42, nt s5), (43, .slice (some ⟨b11, o11, none⟩) fs.length cap), (44, nt ((i : Nat) : Int))] (by kernel_rfl) ?_
     refine OI_pure (some 45) (.indexAddr 24 (.tmp 43) (.tmp 44)) (by kernel_rfl) (pure_idxN (b := b11) (o := o11) (len := fs.length) (cap := cap) (kd := .i64) (j := i) (E := 3) (sz := 1) (by_ := 8) (by kernel_rfl) (by kernel_rfl) (by kernel_rfl) (by omega)) ?_
     refine OI_cellR 3 (.tmp 45) (o11 + i * 1) (nt x12) (some 46) (by kernel_rfl) (by kernel_rfl) hat11.blk (m := 1) (by kernel_rfl) (AtR.cell0 hat11 (es_at hx13) rfl) ?_
     refine OI_static 7 [(0, .slice (some ⟨b11, o11, none⟩) fs.length cap), (4, pt b4), (5, nt (IntKind.i64.wrap (s5 + x12))), (6, nt ((i : Nat) : Int)), (25, .slice (some ⟨b11, o11, none⟩) fs.length cap), (26, nt ((i : Nat) : Int)), (27, .pointer (some ⟨b11, o11 + i * 1, none⟩)), (28, nt x12), (29, .bool (decide (x12 > 1073741824)))] (by kernel_rfl) ?_
     refine OI_end rfl ?_
     refine X_block ?_
     refine X_then ?_
     refine V_region ?_
     have hw27 : IntKind.i64.wrap (((i : Nat) : Int) + 1) = ((i + 1 : Nat) : Int) := (wrap64_id (by omega) (by omega)).trans (by omega)
     refine OI_static 2 [(0, .slice (some ⟨b11, o11, none⟩) fs.length cap), (4, pt b4), (5, nt (IntKind.i64.wrap (s5 + x12))), (18, nt (IntKind.i64.wrap (((i : Nat) : Int) + 1))), (25, .slice (some ⟨b11, o11, none⟩) fs.length cap), (26, nt ((i : Nat) : Int)), (27, .pointer (some ⟨b11, o11 + i * 1, none⟩)), (28, nt x12), (29, .bool (decide (x12 > 1073741824)))] (by kernel_rfl) ?_
     refine OI_eq [(0, .slice (some ⟨b11, o11, none⟩) fs.length cap), (4, pt b4), (5, nt (IntKind.i64.wrap (s5 + x12))), (18, nt ((i + 1 : Nat) : Int)), (25, .slice (some ⟨b11, o11, none⟩) fs.length cap), (26, nt ((i : Nat) : Int)), (27, .pointer (some ⟨b11, o11 + i * 1, none⟩)), (28, nt x12), (29, .bool (decide (x12 > 1073741824)))] (by rw [hw27]) ?_
     refine OI_static 3 [(0, .slice (some ⟨b11, o11, none⟩) fs.length cap), (4, pt b4), (5, nt (IntKind.i64.wrap (s5 + x12))), (6, nt ((i + 1 : Nat) : Int)), (25, .slice (some ⟨b11, o11, none⟩) fs.length cap), (26, nt ((i : Nat) : Int)), (27, .pointer (some ⟨b11, o11 + i * 1, none⟩)), (28, nt x12), (29, .bool (decide (x12 > 1073741824)))] (by kernel_rfl) ?_
     refine OI_end rfl ?_
     exact V_again (k7 - 1) (by omega) [(0, .slice (some ⟨b11, o11, none⟩) fs.length cap), (4, pt b4), (5, nt (IntKind.i64.wrap (s5 + x12))), (6, nt ((i + 1 : Nat) : Int))] rfl ⟨i + 1, IntKind.i64.wrap (s5 + x12), (over Lx (0 + i * 3) [nt x12]), by omega, hb2_25, by rw [over_length (by rw [hLx]; show 0 + i * 3 + 1 ≤ 30; omega)]; exact hLx, hk8, rfl⟩
  ·
   refine V_exit ?_
   refine X_exit_then ?_
   refine X_exit_then ?_
   refine X_exit_here ?_
   refine X_then ?_
   refine V_seq ?_
   refine V_seq ?_
   refine V_region ?_
   refine OI_static 2 [(4, pt b4), (49, .bool (decide (s5 > 1073741824)))] (by kernel_rfl) ?_
   refine OI_end rfl ?_
   refine X_then ?_
   refine V_if (s5 > 1073741824) (by kernel_rfl) (fun hc28 => ?_) (fun hc28 => ?_)
   ·
    refine V_seq ?_
    refine V_region ?_
    refine OI_static 2 [(2, .pointer none), (3, nt 1)] (by kernel_rfl) ?_
    refine OI_end rfl ?_
    refine X_then ?_
    refine V_ret ?_
    refine X_ret_then ?_
    exact X_return (.tuple #[.pointer none, nt 1]) rfl ⟨_, _, rfl, hK0⟩
   ·
    refine V_skip ?_
    refine X_then ?_
    refine V_seq ?_
    refine V_region ?_
    refine OI_static 3 [(2, pt b4), (3, nt 0)] (by kernel_rfl) ?_
    refine OI_end rfl ?_
    refine X_then ?_
    refine V_ret ?_
    exact X_return (.tuple #[pt b4, nt 0]) rfl ⟨_, _, rfl, hK0⟩

set_option maxRecDepth 10000 in
theorem rnew11_weak (w : World) : Calls Try.prog 20 #[] w fun e w' => ∃ pv, e = .returned (.pointer pv) ∧ Keep none_ w w' := by
 have hK0 : Keep none_ w w := Keep.refl _ _
 have hzhK0 := Keep.size hK0
 refine enterV Try.func20 rfl [] 5 rfl rfl rfl ?_
 refine V_pick [] rfl ?_
 refine V_seq ?_
 refine V_region ?_
 refine OI_static 1 [] (by kernel_rfl) ?_
 refine OI_end rfl ?_
 refine X_then ?_
 refine V_seq ?_
 refine V_draws (acts [0, 1, 3]) none_ [[0, 1, 2, 3, 4], [1, 0, 2, 3, 4]] (by kernel_rfl) (by repeat first | exact sure_body (by rintro _ _ ⟨_, h, _⟩; exact ⟨_, h⟩) | refine sure_then ?_ | refine sure_block ?_ | refine sure_join ?_) (by kernel_rfl) ?_
 intro w2 hk1 he3 L hL4
 have hsz5 := Keep.size hk1
 replace hK0 := Keep.tr hK0 (Keep.ofNone hk1)
 have K6 : Keep none_ w2 w2 := Keep.refl _ _
 simp only [List.mem_cons, List.not_mem_nil, or_false] at hL4
 rcases hL4 with rfl | rfl
 ·
  refine GI_make (E := 196) (sz := 7) (by_ := 56) (m := 12) (kd := .i64) (zv := .agg #[.bool false, nt 0, nt 0, nt 0, nt 0, nt 0, nt 0]) 111 (.const (Value.int IntKind.i64 12)) (.const (Value.int IntKind.i64 12)) ((List.replicate 12 [.bool false, nt 0, nt 0, nt 0, nt 0, nt 0, nt 0]).flatten) (some 1) (by kernel_rfl) (by kernel_rfl) K6 (by kernel_rfl) (by kernel_rfl) (by kernel_rfl) (by kernel_rfl) (by decide) (by decide) (by kernel_rfl) ?_
  intro b7 w7 e7 hb7 k7 z7 K8
  have hsz9 := Keep.size k7
  replace hK0 := Keep.tr hK0 (Keep.ofNone k7)
  have hb7lt := hb7.lt
  refine GI_make (E := 198) (sz := 9) (by_ := 88) (m := 40) (kd := .i64) (zv := .agg #[.slice none 0 0, .bool false, nt 0, nt 0, nt 0, nt 0, nt 0, nt 0, nt 0]) 112 (.const (Value.int IntKind.i64 40)) (.const (Value.int IntKind.i64 40)) ((List.replicate 40 [.slice none 0 0, .bool false, nt 0, nt 0, nt 0, nt 0, nt 0, nt 0, nt 0]).flatten) (some 2) (by kernel_rfl) (by kernel_rfl) K8 (by kernel_rfl) (by kernel_rfl) (by kernel_rfl) (by kernel_rfl) (by decide) (by decide) (by kernel_rfl) ?_
  intro b10 w10 e10 hb10 k10 z10 K11
  have hsz12 := Keep.size k10
  replace hb7 := hb7.keep k10 (fun f => f)
  replace hK0 := Keep.tr hK0 (Keep.ofNone k10)
  have hb10lt := hb10.lt
  refine GI_static [3, 4] [(3, .agg #[.slice (some ⟨b7, 0, none⟩) 12 12, .slice (some ⟨b10, 0, none⟩) 40 40])] (by kernel_rfl) ?_
  refine GI_box 114 (.tmp 3) (.agg #[.slice (some ⟨b7, 0, none⟩) 12 12, .slice (some ⟨b10, 0, none⟩) 40 40]) [.slice (some ⟨b7, 0, none⟩) 12 12, .slice (some ⟨b10, 0, none⟩) 40 40] (some 4) (by kernel_rfl) (by kernel_rfl) K11 (by kernel_rfl) (by kernel_rfl) ?_
  intro b13 w13 e13 hb13 k13 z13 K14
  have hsz15 := Keep.size k13
  replace hb7 := hb7.keep k13 (fun f => f)
  replace hb10 := hb10.keep k13 (fun f => f)
  replace hK0 := Keep.tr hK0 (Keep.ofNone k13)
  have hb13lt := hb13.lt
  refine GI_static [] [(0, pt b13)] (by kernel_rfl) ?_
  refine GI_end ?_
  refine X_then ?_
  refine V_ret ?_
  exact X_return _ rfl ⟨_, rfl, hK0⟩
 ·
  refine GI_make (E := 198) (sz := 9) (by_ := 88) (m := 40) (kd := .i64) (zv := .agg #[.slice none 0 0, .bool false, nt 0, nt 0, nt 0, nt 0, nt 0, nt 0, nt 0]) 112 (.const (Value.int IntKind.i64 40)) (.const (Value.int IntKind.i64 40)) ((List.replicate 40 [.slice none 0 0, .bool false, nt 0, nt 0, nt 0, nt 0, nt 0, nt 0, nt 0]).flatten) (some 2) (by kernel_rfl) (by kernel_rfl) K6 (by kernel_rfl) (by kernel_rfl) (by kernel_rfl) (by kernel_rfl) (by decide) (by decide) (by kernel_rfl) ?_
  intro b16 w16 e16 hb16 k16 z16 K17
  have hsz18 := Keep.size k16
  replace hK0 := Keep.tr hK0 (Keep.ofNone k16)
  have hb16lt := hb16.lt
  refine GI_make (E := 196) (sz := 7) (by_ := 56) (m := 12) (kd := .i64) (zv := .agg #[.bool false, nt 0, nt 0, nt 0, nt 0, nt 0, nt 0]) 111 (.const (Value.int IntKind.i64 12)) (.const (Value.int IntKind.i64 12)) ((List.replicate 12 [.bool false, nt 0, nt 0, nt 0, nt 0, nt 0, nt 0]).flatten) (some 1) (by kernel_rfl) (by kernel_rfl) K17 (by kernel_rfl) (by kernel_rfl) (by kernel_rfl) (by kernel_rfl) (by decide) (by decide) (by kernel_rfl) ?_
  intro b19 w19 e19 hb19 k19 z19 K20
  have hsz21 := Keep.size k19
  replace hb16 := hb16.keep k19 (fun f => f)
  replace hK0 := Keep.tr hK0 (Keep.ofNone k19)
  have hb19lt := hb19.lt
  refine GI_static [3, 4] [(3, .agg #[.slice (some ⟨b19, 0, none⟩) 12 12, .slice (some ⟨b16, 0, none⟩) 40 40])] (by kernel_rfl) ?_
  refine GI_box 114 (.tmp 3) (.agg #[.slice (some ⟨b19, 0, none⟩) 12 12, .slice (some ⟨b16, 0, none⟩) 40 40]) [.slice (some ⟨b19, 0, none⟩) 12 12, .slice (some ⟨b16, 0, none⟩) 40 40] (some 4) (by kernel_rfl) (by kernel_rfl) K20 (by kernel_rfl) (by kernel_rfl) ?_
  intro b22 w22 e22 hb22 k22 z22 K23
  have hsz24 := Keep.size k22
  replace hb16 := hb16.keep k22 (fun f => f)
  replace hb19 := hb19.keep k22 (fun f => f)
  replace hK0 := Keep.tr hK0 (Keep.ofNone k22)
  have hb22lt := hb22.lt
  refine GI_static [] [(0, pt b22)] (by kernel_rfl) ?_
  refine GI_end ?_
  refine X_then ?_
  refine V_ret ?_
  exact X_return _ rfl ⟨_, rfl, hK0⟩

def msk24 (fs : List Int) : List Int := fs.map fun x => bAnd x 16777215
theorem msk24_at {fs : List Int} {x : Int} (h : x ∈ msk24 fs) : 0 ≤ x ∧ x ≤ 16777215 := by
  obtain ⟨y, _, rfl⟩ := List.mem_map.1 h
  exact bAnd_le y 16777215 (by decide)
theorem msk24_step {fs : List Int} {i : Nat} {x : Int} (h : fs[i]? = some x) : msk24 (fs.take (i + 1)) = msk24 (fs.take i) ++ [bAnd x 16777215] := by
  obtain ⟨h1, rfl⟩ := List.getElem?_eq_some_iff.1 h
  unfold msk24; rw [List.take_succ_eq_append_getElem h1, List.map_append]; rfl
theorem tot_newX_step (fs : List Int) (n : Nat) : tot (newX fs (n + 1)) = tot (newX fs n) + (fs[n]?).getD 0 := by
  have happ : ∀ (a b : List Acc), tot (a ++ b) = tot a + tot b := by
    intro a b
    induction a with
    | nil => simp [tot]
    | cons y l ih => simp only [List.cons_append, tot, ih]; omega
  rw [newX_succ, happ]
  simp only [tot]
  omega
theorem newX_tot24 {fs : List Int} (h : ∀ x ∈ fs, 0 ≤ x ∧ x ≤ 16777215) : ∀ i : Nat, tot (newX fs i) ≤ i * 16777215
  | 0 => by simp [newX, tot]
  | i + 1 => by
    have ih := newX_tot24 h i
    rw [tot_newX_step]
    have : (fs[i]?).getD 0 ≤ 16777215 := by
      cases hf : fs[i]? with
      | none => simp
      | some x => exact (h x (List.mem_of_getElem? hf)).2
    omega
theorem msk24_ok {fs : List Int} (h : fs.length ≤ 10) : okP (msk24 fs) :=
  ⟨by simpa [msk24] using h, fun x hx => by have := msk24_at hx; omega, by have := newX_tot24 (fs := msk24 fs) (fun x hx => msk24_at hx) 10; omega⟩

set_option maxRecDepth 10000 in
theorem begin_weak (A : Option Addr) (cap : Nat) (fs : List Int) (w : World) (hA0 : ArgT w 1 intc A cap fs) (hn : fs.length ≤ 9223372036854775807) : Calls Try.prog 7 #[.slice A fs.length cap] w fun e w' => ∃ b v l F G xv yv, e = .returned (.pointer (some ⟨b, 0, none⟩)) ∧ Blk w' b [.pointer (some ⟨l, 0, none⟩), .pointer (some ⟨v, 0, none⟩), .pointer xv, .pointer yv, .int .i64 0] 33 ∧ VotT F w' v VS.zero ∧ Led G w' l (newX (msk24 (fs.take 10)) 10) [] ∧ Keep none_ w w' ∧ w.heap.size ≤ b ∧ (∀ q, F q → w.heap.size ≤ q ∧ q ≠ b) ∧ (∀ q, G q → w.heap.size ≤ q ∧ q ≠ b) ∧ (∀ q, F q → ¬ G q) := by
 have hA := hA0
 have hK0 : Keep none_ w w := Keep.refl _ _
 have hzhK0 := Keep.size hK0
 refine enterV Try.func7 rfl [.slice A fs.length cap] 58 rfl rfl rfl ?_
 refine V_pick [(0, .slice A fs.length cap)] rfl ?_
 refine V_seq ?_
 refine V_region ?_
 refine OI_static 1 [(0, .slice A fs.length cap)] (by kernel_rfl) ?_
 refine OI_end rfl ?_
 refine X_then ?_
 refine V_seq ?_
 refine V_region ?_
 refine OI_static 1 [(0, .slice A fs.length cap), (3, .slice none 0 0)] (by kernel_rfl) ?_
 refine OI_end rfl ?_
 refine X_then ?_
 refine V_seq ?_
 refine V_seq ?_
 refine V_region ?_
 refine OI_static 1 [(0, .slice A fs.length cap), (3, .slice none 0 0), (4, nt 0)] (by kernel_rfl) ?_
 refine OI_end rfl ?_
 refine X_then ?_
 refine V_block ?_
 refine V_pick [(0, .slice A fs.length cap), (3, .slice none 0 0), (4, nt 0)] rfl ?_
 refine V_loop (fun k wI e => ∃ i : Nat, ∃ A2 : Option Addr, ∃ cap2 : Nat, ∃ ms : List Int, (k + i = min fs.length 10) ∧ (ms = msk24 (fs.take i)) ∧ (SlT wI 1 intc A2 cap2 ms) ∧ (∀ q, inA A2 q → w.heap.size ≤ q) ∧ Keep none_ w wI ∧ e = [(0, .slice A fs.length cap), (3, .slice A2 ms.length cap2), (4, nt ((i : Nat) : Int))]) (min fs.length 10) ⟨0, none, 0, [], by omega, rfl, SlT.nil _ _ _, fun q h => (inA_none h).elim, Keep.refl _ _, rfl⟩ ?_
 rintro k2 w1 _ ⟨i, A2, cap2, ms, hki, hms, hA2, ow2, hk3, rfl⟩
 have hsz4 := Keep.size hk3
 replace hA := ArgT.keep0 hA hk3
 replace hK0 := Keep.tr hK0 (Keep.ofNone hk3)
 have hzhk3 := Keep.size hk3
 have lt2 := SlT.lt hA2
 have hml : ms.length = i := by rw [hms]; simp [msk24]; omega
 refine V_seq ?_
 refine V_seq ?_
 refine V_region ?_
 refine OI_static 5 [(0, .slice A fs.length cap), (3, .slice A2 ms.length cap2), (4, nt ((i : Nat) : Int)), (14, .bool (decide (((i : Nat) : Int) < ((fs.length : Nat) : Int))))] (by kernel_rfl) ?_
 by_cases hg5 : ((i : Nat) : Int) < ((fs.length : Nat) : Int)
 ·
  refine OI_eq [(0, .slice A fs.length cap), (3, .slice A2 ms.length cap2), (4, nt ((i : Nat) : Int)), (14, .bool true)] (by first | simp [hg5] | rfl) ?_
  refine OI_static 8 [(0, .slice A fs.length cap), (3, .slice A2 ms.length cap2), (4, nt ((i : Nat) : Int)), (15, nt ((i : Nat) : Int)), (16, .bool (decide (((i : Nat) : Int) < 10))), (17, .bool (decide (((i : Nat) : Int) < 10)))] (by kernel_rfl) ?_
  refine OI_end rfl ?_
  refine X_then ?_
  refine V_if (((i : Nat) : Int) < 10) (by kernel_rfl) (fun hc6 => ?_) (fun hc6 => ?_)
  ·
   refine V_skip ?_
   refine X_then ?_
   refine V_seq ?_
   refine V_block ?_
   refine V_region ?_
   refine OI_static 3 [(0, .slice A fs.length cap), (4, nt ((i : Nat) : Int)), (15, nt ((i : Nat) : Int)), (16, .bool (decide (((i : Nat) : Int) < 10))), (20, .slice A2 ms.length cap2), (21, .slice A fs.length cap), (22, nt ((i : Nat) : Int))] (by kernel_rfl) ?_
   obtain ⟨b7, o7, L7, rfl, hat7⟩ := ArgT.open_ hA (by first | omega | (simp only [List.length_map]; omega) | (simp; done) | (simp; omega))
   have hb7lt0 := ArgT.lt hA0 (by first | omega | (simp only [List.length_map]; omega) | (simp; done) | (simp; omega))
   have hb7lt := hat7.blk.lt
   refine OI_pure (some 23) (.indexAddr 24 (.tmp 21) (.tmp 22)) (by kernel_rfl) (pure_idxN (b := b7) (o := o7) (len := fs.length) (cap := cap) (kd := .i64) (j := i) (E := 3) (sz := 1) (by_ := 8) (by kernel_rfl) (by kernel_rfl) (by kernel_rfl) (by omega)) ?_
   obtain ⟨x8, hx9⟩ : ∃ x, fs[i]? = some x := ⟨_, List.getElem?_eq_getElem (by first | omega | (simp only [List.length_map]; omega))⟩
   refine OI_cellR 3 (.tmp 23) (o7 + i * 1) (nt x8) (some 24) (by kernel_rfl) (by kernel_rfl) hat7.blk (m := 1) (by kernel_rfl) (AtR.cell0 hat7 (es_at hx9) rfl) ?_
   refine OI_static 6 [(0, .slice (some ⟨b7, o7, none⟩) fs.length cap), (4, nt ((i : Nat) : Int)), (15, nt ((i : Nat) : Int)), (16, .bool (decide (((i : Nat) : Int) < 10))), (20, .slice A2 ms.length cap2), (25, nt (bAnd x8 16777215))] (by kernel_rfl) ?_
   refine OI_slit (E := 3) (zv := nt 0) (sz := 1) (by_ := 8) 24 1 #[(0, (Operand.tmp 25))] [nt (bAnd x8 16777215)] [nt (bAnd x8 16777215)] (some 26) (by kernel_rfl) (by kernel_rfl) (by kernel_rfl) (by omega) rfl (by omega) (by intro v hv; simp only [List.mem_cons, List.not_mem_nil, or_false] at hv; rcases hv with rfl <;> rfl) (by kernel_rfl) rfl ?_
   intro b10 w10 e10 hb10 k10 z10
   have hsz11 := Keep.size k10
   replace hat7 := hat7.keep k10 (fun f => f)
   replace hA2 := SlT.keep0 hA2 k10
   replace hK0 := Keep.tr hK0 (Keep.ofNone k10)
   replace hk3 := Keep.tr hk3 (Keep.ofNone k10)
   have hb10lt := hb10.lt
   refine OI_append (t := 24) (at2 := 24) (E := 3) (E2 := 3) (sz := 1) (by_ := 8) (zv := nt 0) (m := ms.length) (k := 1) (.tmp 20) (.tmp 26) (.slice A2 ms.length cap2) (.slice (some ⟨b10, 0, none⟩) 1 1) (some 27) (by kernel_rfl) (by kernel_rfl) (by kernel_rfl) (by kernel_rfl) (by kernel_rfl) (by kernel_rfl) (by kernel_rfl) (SlT.slr hA2) (slr_one hb10 (intc_len (bAnd x8 16777215))) (intc_one (bAnd x8 16777215)) (by first | omega | (simp only [List.length_nil]; omega)) (by omega) (by first | omega | (simp only [List.length_nil]; omega)) (by omega) ?_
   intro vv9 w12 hap
   obtain ⟨A12, cap12, rfl, hA12, hk12, own12x⟩ := app_one (f := intc) (xs := ms) (x := (bAnd x8 16777215)) (A := A2) (cap := cap2) hap (fun x _ => intc_len x) (intc_len _)
   have own12 : ∀ q, inA A12 q → w.heap.size ≤ q := fun q hq => by rcases own12x q hq with h | h; exact ow2 q h; (show w.heap.size ≤ q; omega)
   have hsz13 := Keep.size hk12
   replace hat7 := hat7.keep hk12 (fun hs => by have h1 := ow2 _ hs; have h2 := lt2 _ hs; omega)
   replace hK0 := Keep.fresh hK0 hk12 (by intro i hi hs; first | exact hs | (exfalso; have h1 := ow2 i hs; have h2 := lt2 i hs; omega) | (have h1 := ow2 i hs; have h2 := lt2 i hs; show _ ∨ _; omega))
   replace hk3 := Keep.fresh hk3 hk12 (by intro i hi hs; first | exact hs | (exfalso; have h1 := ow2 i hs; have h2 := lt2 i hs; omega) | (have h1 := ow2 i hs; have h2 := lt2 i hs; show _ ∨ _; omega))
   have lt12 := SlT.lt hA12
   refine OI_static 9 [(0, .slice (some ⟨b7, o7, none⟩) fs.length cap), (3, .slice A12 ((ms ++ [bAnd x8 16777215]).length) cap12), (4, nt ((i : Nat) : Int)), (15, nt ((i : Nat) : Int)), (16, .bool (decide (((i : Nat) : Int) < 10)))] (by kernel_rfl) ?_
   refine OI_end rfl ?_
   refine X_block ?_
   refine X_then ?_
   refine V_region ?_
   have hw14 : IntKind.i64.wrap (((i : Nat) : Int) + 1) = ((i + 1 : Nat) : Int) := (wrap64_id (by omega) (by omega)).trans (by omega)
   refine OI_static 2 [(0, .slice (some ⟨b7, o7, none⟩) fs.length cap), (3, .slice A12 ((ms ++ [bAnd x8 16777215]).length) cap12), (15, nt ((i : Nat) : Int)), (16, .bool (decide (((i : Nat) : Int) < 10))), (19, nt (IntKind.i64.wrap (((i : Nat) : Int) + 1)))] (by kernel_rfl) ?_
   refine OI_eq [(0, .slice (some ⟨b7, o7, none⟩) fs.length cap), (3, .slice A12 ((ms ++ [bAnd x8 16777215]).length) cap12), (15, nt ((i : Nat) : Int)), (16, .bool (decide (((i : Nat) : Int) < 10))), (19, nt ((i + 1 : Nat) : Int))] (by rw [hw14]) ?_
   refine OI_static 3 [(0, .slice (some ⟨b7, o7, none⟩) fs.length cap), (3, .slice A12 ((ms ++ [bAnd x8 16777215]).length) cap12), (4, nt ((i + 1 : Nat) : Int)), (15, nt ((i : Nat) : Int)), (16, .bool (decide (((i : Nat) : Int) < 10)))] (by kernel_rfl) ?_
   refine OI_end rfl ?_
   exact V_again (k2 - 1) (by omega) [(0, .slice (some ⟨b7, o7, none⟩) fs.length cap), (3, .slice A12 ((ms ++ [bAnd x8 16777215]).length) cap12), (4, nt ((i + 1 : Nat) : Int))] rfl ⟨i + 1, A12, cap12, ms ++ [bAnd x8 16777215], by omega, by rw [msk24_step hx9, ← hms], hA12, own12, hk3, rfl⟩
  ·
   refine V_exit ?_
   refine X_exit_then ?_
   refine X_exit_then ?_
   refine X_exit_here ?_
   refine X_then ?_
   refine V_seq ?_
   refine V_region ?_
   refine OI_static 1 [(3, .slice A2 ms.length cap2), (29, .slice A2 ms.length cap2)] (by kernel_rfl) ?_
   have hie : i = min fs.length 10 := by omega
   have htk : fs.take i = fs.take 10 := by rw [hie]; rcases Nat.le_total fs.length 10 with h9 | h9; (rw [Nat.min_eq_left h9, List.take_length, List.take_of_length_le h9]); rw [Nat.min_eq_right h9]
   rw [htk] at hms
   have hok9 := msk24_ok (fs := fs.take 10) (by rw [List.length_take]; omega)
   rw [← hms] at hok9
   refine OI_call { callee := (Callee.value (Operand.func 17)), args := #[(Operand.tmp 29)], argTypes := #[24] } 17 #[.slice A2 ms.length cap2] (some 30) (by kernel_rfl) (by kernel_rfl) (by kernel_rfl) (new_ok A2 cap2 ms _ (SlT.arg hA2) (by omega) hok9) ?_
   rintro _ w15 ⟨l17, F18, rfl, ho19, hk16, hge20⟩
   refine ⟨_, rfl, ?_⟩
   have hsz21 := Keep.size hk16
   replace hA := ArgT.keep0 hA hk16
   replace hA2 := SlT.keep0 hA2 hk16
   replace hK0 := Keep.tr hK0 (Keep.ofNone hk16)
   have own22 : ∀ q, F18 q → w1.heap.size ≤ q := fun q hq => by have h1 := hge20 q hq; omega
   have lt23 := Led.lt ho19
   have dis24 : ∀ q, F18 q → ¬ inA A2 q := fun q h1 h2 => by have h3 := hge20 q h1; have h4 := lt2 q h2; omega
   have hl17lt : l17 < w15.heap.size := Led.lt ho19 _ (Led.at_ ho19)
   have hl17ge := hge20 _ (Led.at_ ho19)
   refine OI_static 7 [(3, .slice A2 ms.length cap2), (5, pt l17), (6, nt 0)] (by kernel_rfl) ?_
   refine OI_end rfl ?_
   refine X_then ?_
   refine V_seq ?_
   refine V_region ?_
   refine OI_static 1 [(5, pt l17), (6, nt 0), (34, .slice A2 ms.length cap2)] (by kernel_rfl) ?_
   refine OI_call { callee := (Callee.value (Operand.func 18)), args := #[(Operand.tmp 34)], argTypes := #[24] } 18 #[.slice A2 ms.length cap2] (some 35) (by kernel_rfl) (by kernel_rfl) (by kernel_rfl) (rnew6_weak A2 cap2 ms _ (SlT.arg hA2) (by omega)) ?_
   rintro _ w25 ⟨pv27, n28, rfl, hk26⟩
   refine ⟨_, rfl, ?_⟩
   have hsz29 := Keep.size hk26
   replace hA := ArgT.keep0 hA hk26
   replace hA2 := SlT.keep0 hA2 hk26
   replace hK0 := Keep.tr hK0 (Keep.ofNone hk26)
   replace ho19 := Led.keep ho19 hk26 (fun _ _ f => f)
   refine OI_static 7 [(5, pt l17), (6, nt 0), (7, .pointer pv27)] (by kernel_rfl) ?_
   refine OI_end rfl ?_
   refine X_then ?_
   refine V_seq ?_
   refine V_region ?_
   refine OI_static 1 [(5, pt l17), (6, nt 0), (7, .pointer pv27), (38, pt l17)] (by kernel_rfl) ?_
   refine OI_call { callee := (Callee.value (Operand.func 19)), args := #[], argTypes := #[] } 19 #[] (some 39) (by kernel_rfl) (by kernel_rfl) (by kernel_rfl) (new_votT _) ?_
   rintro _ w32 ⟨g34, F35, rfl, ho36, hk33, hge37⟩
   refine ⟨_, rfl, ?_⟩
   have hsz38 := Keep.size hk33
   replace hA := ArgT.keep0 hA hk33
   replace hA2 := SlT.keep0 hA2 hk33
   replace hK0 := Keep.tr hK0 (Keep.ofNone hk33)
   replace ho19 := Led.keep ho19 hk33 (fun _ _ f => f)
   have own39 : ∀ q, F35 q → w25.heap.size ≤ q := fun q hq => by have h1 := hge37 q hq; omega
   have lt40 := VotT.lt ho36
   have dis41 : ∀ q, F35 q → ¬ inA A2 q := fun q h1 h2 => by have h3 := hge37 q h1; have h4 := lt2 q h2; omega
   have dis42 : ∀ q, F35 q → ¬ F18 q := fun q h1 h2 => by have h3 := hge37 q h1; have h4 := lt23 q h2; omega
   have hg34lt : g34 < w32.heap.size := VotT.lt ho36 _ (VotT.at_ ho36)
   have hg34ge := hge37 _ (VotT.at_ ho36)
   refine OI_static 3 [(5, pt l17), (6, nt 0), (38, pt l17), (39, pt g34), (40, .pointer pv27)] (by kernel_rfl) ?_
   refine OI_call { callee := (Callee.value (Operand.func 20)), args := #[], argTypes := #[] } 20 #[] (some 41) (by kernel_rfl) (by kernel_rfl) (by kernel_rfl) (rnew11_weak _) ?_
   rintro _ w43 ⟨pv45, rfl, hk44⟩
   refine ⟨_, rfl, ?_⟩
   have hsz46 := Keep.size hk44
   replace hA := ArgT.keep0 hA hk44
   replace hA2 := SlT.keep0 hA2 hk44
   replace hK0 := Keep.tr hK0 (Keep.ofNone hk44)
   replace ho19 := Led.keep ho19 hk44 (fun _ _ f => f)
   replace ho36 := VotT.keep ho36 hk44 (fun _ _ f => f)
   refine OI_static 5 [(5, pt l17), (6, nt 0), (42, .agg #[pt l17, pt g34, .pointer pv27, .pointer pv45, nt 0])] (by kernel_rfl) ?_
   refine OI_box 33 (.tmp 42) (.agg #[pt l17, pt g34, .pointer pv27, .pointer pv45, nt 0]) [pt l17, pt g34, .pointer pv27, .pointer pv45, nt 0] (some 43) (by kernel_rfl) (by kernel_rfl) (by kernel_rfl) ?_
   intro b47 w47 e47 hb47 k47 z47
   have hsz48 := Keep.size k47
   replace hA := ArgT.keep0 hA k47
   replace hA2 := SlT.keep0 hA2 k47
   replace hK0 := Keep.tr hK0 (Keep.ofNone k47)
   replace ho19 := Led.keep ho19 k47 (fun _ _ f => f)
   replace ho36 := VotT.keep ho36 k47 (fun _ _ f => f)
   have hb47lt := hb47.lt
   refine OI_static 7 [(5, pt l17), (6, nt 0), (9, pt b47)] (by kernel_rfl) ?_
   refine OI_end rfl ?_
   refine X_then ?_
   refine V_seq ?_
   refine V_seq ?_
   refine V_region ?_
   refine OI_static 10 [(9, pt b47), (50, .bool false), (53, .pointer (some ⟨b47, 1, none⟩))] (by kernel_rfl) ?_
   refine OI_cell 29 (.tmp 53) 1 (pt g34) (some 54) (by kernel_rfl) (by kernel_rfl) hb47 (m := 1) (by kernel_rfl) rfl ?_
   refine OI_static 13 [(9, pt b47), (56, .bool false)] (by kernel_rfl) ?_
   refine OI_end rfl ?_
   refine X_then ?_
   refine V_false rfl ?_
   refine V_skip ?_
   refine X_then ?_
   refine V_seq ?_
   refine V_region ?_
   refine OI_static 2 [(2, pt b47)] (by kernel_rfl) ?_
   refine OI_end rfl ?_
   refine X_then ?_
   refine V_ret ?_
   exact X_return _ rfl ⟨b47, g34, l17, F35, F18, pv27, pv45, rfl, hb47, ho36, by rw [hms] at ho19; exact ho19, hK0, by omega, fun q hq => ⟨by have h1 := own39 q hq; omega, by have h1 := lt40 q hq; omega⟩, fun q hq => ⟨by have h1 := own22 q hq; omega, by have h1 := lt23 q hq; omega⟩, dis42⟩
 ·
  refine OI_eq [(0, .slice A fs.length cap), (3, .slice A2 ms.length cap2), (4, nt ((i : Nat) : Int)), (14, .bool false)] (by first | simp [hg5] | rfl) ?_
  refine OI_static 8 [(0, .slice A fs.length cap), (3, .slice A2 ms.length cap2), (4, nt ((i : Nat) : Int)), (15, undef), (16, undef), (17, .bool false)] (by kernel_rfl) ?_
  refine OI_end rfl ?_
  refine X_then ?_
  refine V_false rfl ?_
  refine V_exit ?_
  refine X_exit_then ?_
  refine X_exit_then ?_
  refine X_exit_here ?_
  refine X_then ?_
  refine V_seq ?_
  refine V_region ?_
  refine OI_static 1 [(3, .slice A2 ms.length cap2), (29, .slice A2 ms.length cap2)] (by kernel_rfl) ?_
  have hie : i = min fs.length 10 := by omega
  have htk : fs.take i = fs.take 10 := by rw [hie]; rcases Nat.le_total fs.length 10 with h9 | h9; (rw [Nat.min_eq_left h9, List.take_length, List.take_of_length_le h9]); rw [Nat.min_eq_right h9]
  rw [htk] at hms
  have hok9 := msk24_ok (fs := fs.take 10) (by rw [List.length_take]; omega)
  rw [← hms] at hok9
  refine OI_call { callee := (Callee.value (Operand.func 17)), args := #[(Operand.tmp 29)], argTypes := #[24] } 17 #[.slice A2 ms.length cap2] (some 30) (by kernel_rfl) (by kernel_rfl) (by kernel_rfl) (new_ok A2 cap2 ms _ (SlT.arg hA2) (by omega) hok9) ?_
  rintro _ w49 ⟨l51, F52, rfl, ho53, hk50, hge54⟩
  refine ⟨_, rfl, ?_⟩
  have hsz55 := Keep.size hk50
  replace hA := ArgT.keep0 hA hk50
  replace hA2 := SlT.keep0 hA2 hk50
  replace hK0 := Keep.tr hK0 (Keep.ofNone hk50)
  have own56 : ∀ q, F52 q → w1.heap.size ≤ q := fun q hq => by have h1 := hge54 q hq; omega
  have lt57 := Led.lt ho53
  have dis58 : ∀ q, F52 q → ¬ inA A2 q := fun q h1 h2 => by have h3 := hge54 q h1; have h4 := lt2 q h2; omega
  have hl51lt : l51 < w49.heap.size := Led.lt ho53 _ (Led.at_ ho53)
  have hl51ge := hge54 _ (Led.at_ ho53)
  refine OI_static 7 [(3, .slice A2 ms.length cap2), (5, pt l51), (6, nt 0)] (by kernel_rfl) ?_
  refine OI_end rfl ?_
  refine X_then ?_
  refine V_seq ?_
  refine V_region ?_
  refine OI_static 1 [(5, pt l51), (6, nt 0), (34, .slice A2 ms.length cap2)] (by kernel_rfl) ?_
  refine OI_call { callee := (Callee.value (Operand.func 18)), args := #[(Operand.tmp 34)], argTypes := #[24] } 18 #[.slice A2 ms.length cap2] (some 35) (by kernel_rfl) (by kernel_rfl) (by kernel_rfl) (rnew6_weak A2 cap2 ms _ (SlT.arg hA2) (by omega)) ?_
  rintro _ w59 ⟨pv61, n62, rfl, hk60⟩
  refine ⟨_, rfl, ?_⟩
  have hsz63 := Keep.size hk60
  replace hA := ArgT.keep0 hA hk60
  replace hA2 := SlT.keep0 hA2 hk60
  replace hK0 := Keep.tr hK0 (Keep.ofNone hk60)
  replace ho53 := Led.keep ho53 hk60 (fun _ _ f => f)
  refine OI_static 7 [(5, pt l51), (6, nt 0), (7, .pointer pv61)] (by kernel_rfl) ?_
  refine OI_end rfl ?_
  refine X_then ?_
  refine V_seq ?_
  refine V_region ?_
  refine OI_static 1 [(5, pt l51), (6, nt 0), (7, .pointer pv61), (38, pt l51)] (by kernel_rfl) ?_
  refine OI_call { callee := (Callee.value (Operand.func 19)), args := #[], argTypes := #[] } 19 #[] (some 39) (by kernel_rfl) (by kernel_rfl) (by kernel_rfl) (new_votT _) ?_
  rintro _ w66 ⟨g68, F69, rfl, ho70, hk67, hge71⟩
  refine ⟨_, rfl, ?_⟩
  have hsz72 := Keep.size hk67
  replace hA := ArgT.keep0 hA hk67
  replace hA2 := SlT.keep0 hA2 hk67
  replace hK0 := Keep.tr hK0 (Keep.ofNone hk67)
  replace ho53 := Led.keep ho53 hk67 (fun _ _ f => f)
  have own73 : ∀ q, F69 q → w59.heap.size ≤ q := fun q hq => by have h1 := hge71 q hq; omega
  have lt74 := VotT.lt ho70
  have dis75 : ∀ q, F69 q → ¬ inA A2 q := fun q h1 h2 => by have h3 := hge71 q h1; have h4 := lt2 q h2; omega
  have dis76 : ∀ q, F69 q → ¬ F52 q := fun q h1 h2 => by have h3 := hge71 q h1; have h4 := lt57 q h2; omega
  have hg68lt : g68 < w66.heap.size := VotT.lt ho70 _ (VotT.at_ ho70)
  have hg68ge := hge71 _ (VotT.at_ ho70)
  refine OI_static 3 [(5, pt l51), (6, nt 0), (38, pt l51), (39, pt g68), (40, .pointer pv61)] (by kernel_rfl) ?_
  refine OI_call { callee := (Callee.value (Operand.func 20)), args := #[], argTypes := #[] } 20 #[] (some 41) (by kernel_rfl) (by kernel_rfl) (by kernel_rfl) (rnew11_weak _) ?_
  rintro _ w77 ⟨pv79, rfl, hk78⟩
  refine ⟨_, rfl, ?_⟩
  have hsz80 := Keep.size hk78
  replace hA := ArgT.keep0 hA hk78
  replace hA2 := SlT.keep0 hA2 hk78
  replace hK0 := Keep.tr hK0 (Keep.ofNone hk78)
  replace ho53 := Led.keep ho53 hk78 (fun _ _ f => f)
  replace ho70 := VotT.keep ho70 hk78 (fun _ _ f => f)
  refine OI_static 5 [(5, pt l51), (6, nt 0), (42, .agg #[pt l51, pt g68, .pointer pv61, .pointer pv79, nt 0])] (by kernel_rfl) ?_
  refine OI_box 33 (.tmp 42) (.agg #[pt l51, pt g68, .pointer pv61, .pointer pv79, nt 0]) [pt l51, pt g68, .pointer pv61, .pointer pv79, nt 0] (some 43) (by kernel_rfl) (by kernel_rfl) (by kernel_rfl) ?_
  intro b81 w81 e81 hb81 k81 z81
  have hsz82 := Keep.size k81
  replace hA := ArgT.keep0 hA k81
  replace hA2 := SlT.keep0 hA2 k81
  replace hK0 := Keep.tr hK0 (Keep.ofNone k81)
  replace ho53 := Led.keep ho53 k81 (fun _ _ f => f)
  replace ho70 := VotT.keep ho70 k81 (fun _ _ f => f)
  have hb81lt := hb81.lt
  refine OI_static 7 [(5, pt l51), (6, nt 0), (9, pt b81)] (by kernel_rfl) ?_
  refine OI_end rfl ?_
  refine X_then ?_
  refine V_seq ?_
  refine V_seq ?_
  refine V_region ?_
  refine OI_static 10 [(9, pt b81), (50, .bool false), (53, .pointer (some ⟨b81, 1, none⟩))] (by kernel_rfl) ?_
  refine OI_cell 29 (.tmp 53) 1 (pt g68) (some 54) (by kernel_rfl) (by kernel_rfl) hb81 (m := 1) (by kernel_rfl) rfl ?_
  refine OI_static 13 [(9, pt b81), (56, .bool false)] (by kernel_rfl) ?_
  refine OI_end rfl ?_
  refine X_then ?_
  refine V_false rfl ?_
  refine V_skip ?_
  refine X_then ?_
  refine V_seq ?_
  refine V_region ?_
  refine OI_static 2 [(2, pt b81)] (by kernel_rfl) ?_
  refine OI_end rfl ?_
  refine X_then ?_
  refine V_ret ?_
  exact X_return _ rfl ⟨b81, g68, l51, F69, F52, pv61, pv79, rfl, hb81, ho70, by rw [hms] at ho53; exact ho53, hK0, by omega, fun q hq => ⟨by have h1 := own73 q hq; omega, by have h1 := lt74 q hq; omega⟩, fun q hq => ⟨by have h1 := own56 q hq; omega, by have h1 := lt57 q hq; omega⟩, dis76⟩
end Go.Al


namespace Go.Al
open Go Go.RowKit Go.Proofs
/-! ### Locks, by accounts and ids -/
theorem getC_set (a b x : Int) : ∀ (cs : List Ci), Srt cs → ∀ a' b', getC a' b' (setC a b x cs) = if a' = a ∧ b' = b then some x else getC a' b' cs
  | [], _, a', b' => by
    simp only [setC, getC]
    by_cases h : a' = a ∧ b' = b
    · rw [if_pos ⟨h.1.symm, h.2.symm⟩, if_pos h]
    · rw [if_neg (fun e => h ⟨e.1.symm, e.2.symm⟩), if_neg h]
  | c :: l, hs, a', b' => by
    have hs2 := List.pairwise_cons.1 hs
    have ih := getC_set a b x l hs2.2 a' b'
    simp only [setC]
    split
    · rename_i he
      simp only [getC]
      by_cases h : a' = a ∧ b' = b
      · rw [if_pos ⟨h.1.symm, h.2.symm⟩, if_pos h]
      · rw [if_neg (fun e => h ⟨e.1.symm, e.2.symm⟩), if_neg h, if_neg (fun e => h ⟨by omega, by omega⟩)]
    · rename_i he
      split
      · simp only [getC]
        rw [ih]
        by_cases h : a' = a ∧ b' = b
        · rw [if_pos h, if_pos h, if_neg (fun e => he ⟨by omega, by omega⟩)]
        · rw [if_neg h, if_neg h]
      · simp only [getC]
        by_cases h : a' = a ∧ b' = b
        · rw [if_pos ⟨h.1.symm, h.2.symm⟩, if_pos h]
        · rw [if_neg (fun e => h ⟨e.1.symm, e.2.symm⟩), if_neg h]
def LkOk (cs : List Ci) : Prop := Srt cs ∧ ∀ c ∈ cs, 0 < c.v ∧ c.v ≤ 1073741824
theorem LkOk.nil : LkOk [] := ⟨Srt.nil, fun c hc => by cases hc⟩
theorem setC_mem3 {a b v : Int} {y : Ci} : ∀ {cs : List Ci}, y ∈ setC a b v cs → y = ⟨a, b, v⟩ ∨ y ∈ cs
  | [], h => by simp only [setC, List.mem_singleton] at h; exact .inl h
  | x :: l, h => by
    simp only [setC] at h
    split at h
    · rcases List.mem_cons.1 h with h | h
      · exact .inl h
      · exact .inr (List.mem_cons_of_mem _ h)
    · split at h
      · rcases List.mem_cons.1 h with rfl | h
        · exact .inr (List.mem_cons_self ..)
        · exact (setC_mem3 h).imp id (List.mem_cons_of_mem _)
      · rcases List.mem_cons.1 h with h | h
        · exact .inl h
        · exact .inr h
theorem delC_mem3 {a b : Int} {y : Ci} : ∀ {cs : List Ci}, y ∈ delC a b cs → y ∈ cs
  | [], h => by simp [delC] at h
  | x :: l, h => by
    simp only [delC] at h
    split at h
    · exact List.mem_cons_of_mem _ h
    · rcases List.mem_cons.1 h with rfl | h
      · exact List.mem_cons_self ..
      · exact List.mem_cons_of_mem _ (delC_mem3 h)
theorem LkOk.lock {cs : List Ci} (h : LkOk cs) (a t n : Int) : LkOk (lockC cs a t n) := by
  unfold lockC
  split
  · split
    · exact ⟨(h.1.del a t).1, fun c hc => h.2 c (delC_mem3 hc)⟩
    · refine ⟨(Srt.set h.1).1, fun c hc => ?_⟩
      rcases setC_mem3 hc with rfl | hc
      · simp only; omega
      · exact h.2 c hc
  · exact h
theorem LkOk.raise {cs : List Ci} (h : LkOk cs) (a t n : Int) : LkOk (raiseC cs a t n) := by
  unfold raiseC
  split
  · exact h
  · exact h.lock _ _ _
theorem setC_len (a b v : Int) : ∀ cs : List Ci, (setC a b v cs).length ≤ cs.length + 1
  | [] => by simp [setC]
  | x :: l => by
    have := setC_len a b v l
    simp only [setC]
    split
    · simp
    · split
      · simp only [List.length_cons]; omega
      · simp
theorem delC_len (a b : Int) : ∀ cs : List Ci, (delC a b cs).length ≤ cs.length
  | [] => by simp [delC]
  | x :: l => by
    have := delC_len a b l
    simp only [delC]
    split <;> simp <;> omega
theorem lockC_len (cs : List Ci) (a i n : Int) : (lockC cs a i n).length ≤ cs.length + 1 := by
  unfold lockC
  split
  · split
    · have := delC_len a i cs; omega
    · exact setC_len _ _ _ _
  · omega
theorem raiseC_len (cs : List Ci) (a i n : Int) : (raiseC cs a i n).length ≤ cs.length + 1 := by
  unfold raiseC
  split
  · omega
  · exact lockC_len _ _ _ _
/-! ### What succeeds -/
theorem vote_go {xs : List Acc} {s : VS} {who ref : Int} {x : Vt} {q : PollS} (h1 : 0 ≤ who ∧ who ≤ 9) (h2 : okV x) (h3 : pollAt s ref = some q) (h4 : q.state = 0) (h5 : (s.rc who q.track).d = none) (h6 : capI x ≤ (acct xs who).free) (h7 : (GV.getC who ref s.cs).isSome = true ∨ (vrow s who q.track).length < 6) :
    voteE xs s who ref x = 0 ∧ voteS xs s who ref x = { s.setP ref.toNat { q with t := voteT s who ref x q } with cs := GV.setC who ref x s.cs } ∧ ∀ cs, voteC xs cs s who ref x = raiseC cs who q.track (capI x) := by
  have hE : voteE xs s who ref x = 0 := by
    unfold voteE
    rw [if_neg (by rintro (h9 | h9); exact h9 h1; exact h9 h2), h3]; dsimp only
    rw [if_neg (fun h9 => h9 h4), if_neg (by rw [h5]; decide), if_neg (by omega), if_neg ?_]
    rintro ⟨h8, h9⟩
    rcases h7 with h7 | h7
    · rw [h7] at h8; cases h8
    · omega
  refine ⟨hE, ?_, fun cs => ?_⟩
  · unfold voteS; rw [if_pos hE, h3]
  · unfold voteC; rw [if_pos hE, h3]
theorem del_go {xs : List Acc} {s : VS} {who t to level n : Int} (h1 : 0 ≤ who ∧ who ≤ 9) (h2 : 0 ≤ to ∧ to ≤ 9) (h3 : 0 ≤ t ∧ t ≤ 3) (h4 : 0 ≤ level ∧ level ≤ 6) (h5 : 0 ≤ n ∧ n ≤ 1073741824) (h6 : who ≠ to) (h7 : (s.rc who t).d = none) (h8 : vrow s who t = []) (h9 : n ≤ (acct xs who).free) :
    delE xs s who t to level n = 0 ∧ delS xs s who t to level n = getsS (s.setR who t { s.rc who t with d := some (DelS.mk to level n) }) to t (Wgt.mk (cvVotes n level) n) ∧ ∀ cs, delC2 xs cs s who t to level n = raiseC cs who t n := by
  have hE : delE xs s who t to level n = 0 := by
    unfold delE
    rw [if_neg (by rintro (h | h | h | h | h | h); exact h h1; exact h h2; exact h h3; exact h h4; exact h h5; exact h h6), if_neg (by rw [h7]; decide), if_neg (by rw [h8]; decide), if_neg (by omega)]
  refine ⟨hE, ?_, fun cs => ?_⟩
  · unfold delS; rw [if_pos hE]
  · unfold delC2; rw [if_pos hE]
theorem w64_id {x : Int} (h1 : -9223372036854775808 ≤ x) (h2 : x ≤ 9223372036854775807) : w64 x = x := wrap64_id (by omega) (by omega)
theorem capI_ok {x : Vt} (h : okV x) : capI x = x.a + x.n + x.s ∧ 0 ≤ capI x ∧ capI x ≤ 1073741824 := by
  have hb := h.1
  have e : capI x = x.a + x.n + x.s := by unfold capI; rw [w64_id (x := x.a + x.n) (by omega) (by omega), w64_id (by omega) (by omega)]
  rw [e]; omega
end Go.Al


namespace Go.Al
open Go Go.RowKit Go.Proofs
/-! ### What is lent counts -/
def knX : List Acc := newX [0, 10, 10] 10
def knV : Vt := ⟨1, true, 2, 10, 0, 0⟩
def knS1 : VS := openS VS.zero 0 1
def knS2 : VS := delS knX knS1 2 1 1 1 10
def knC2 : List Ci := delC2 knX [] knS1 2 1 1 1 10
def knS3 : VS := voteS knX knS2 1 0 knV
def knC3 : List Ci := voteC knX knC2 knS2 1 0 knV
theorem kn1 : openE VS.zero 0 1 = 0 := by kernel_rfl
theorem kn2 : delE knX knS1 2 1 1 1 10 = 0 := by kernel_rfl
theorem kn3 : voteE knX knS2 1 0 knV = 0 := by kernel_rfl
theorem kn4 : tallyT knS3 0 = ⟨30, 0, 20⟩ := by kernel_rfl
theorem kn0 : newX (msk24 ([0, 10, 10].take 10)) 10 = knX := by kernel_rfl
theorem kn5 : knC2.length < 100000 := by rw [show knC2.length = 1 by kernel_rfl]; decide

set_option maxRecDepth 10000 in
theorem known_spec (w : World) : Calls Try.prog 11 #[] w fun e w' => e = .returned (.bool true) ∧ Keep none_ w w' := by
 have hK0 : Keep none_ w w := Keep.refl _ _
 have hzhK0 := Keep.size hK0
 refine enterV Try.func11 rfl [] 48 rfl rfl rfl ?_
 refine V_pick [] rfl ?_
 refine V_seq ?_
 refine V_region ?_
 refine OI_static 1 [] (by kernel_rfl) ?_
 refine OI_end rfl ?_
 refine X_then ?_
 refine V_seq ?_
 refine V_region ?_
 refine OI_slit (E := 3) (zv := nt 0) (sz := 1) (by_ := 8) 24 3 #[(0, (Operand.const (Value.int IntKind.i64 0))), (1, (Operand.const (Value.int IntKind.i64 10))), (2, (Operand.const (Value.int IntKind.i64 10)))] [nt 0, nt 10, nt 10] [nt 0, nt 10, nt 10] (some 5) (by kernel_rfl) (by kernel_rfl) (by kernel_rfl) (by omega) rfl (by omega) (by intro v hv; simp only [List.mem_cons, List.not_mem_nil, or_false] at hv; rcases hv with rfl | rfl | rfl <;> rfl) (by kernel_rfl) rfl ?_
 intro b1 w1 e1 hb1 k1 z1
 have hsz2 := Keep.size k1
 replace hK0 := Keep.tr hK0 (Keep.ofNone k1)
 have hb1lt := hb1.lt
 refine OI_call { callee := (Callee.value (Operand.func 7)), args := #[(Operand.tmp 5)], argTypes := #[24] } 7 #[.slice (some ⟨b1, 0, none⟩) 3 3] (some 6) (by kernel_rfl) (by kernel_rfl) (by kernel_rfl) (begin_weak (some ⟨b1, 0, none⟩) 3 [0, 10, 10] _ (slt_blk (xs := [0, 10, 10]) (f := intc) hb1 (fun _ => rfl) rfl).arg (by simp)) ?_
 rintro _ w5 ⟨b7, v8, l9, F10, G11, xv12, yv13, rfl, hb14, ho15, hl16, hk6, hge17, hF18, hG19, hd20⟩
 refine ⟨_, rfl, ?_⟩
 have hsz21 := Keep.size hk6
 replace hb1 := hb1.keep hk6 (fun f => f)
 replace hK0 := Keep.tr hK0 (Keep.ofNone hk6)
 have hb7lt := hb14.lt
 have own22 : ∀ q, F10 q → w1.heap.size ≤ q ∧ q ≠ b1 ∧ q ≠ b7 := fun q hq => by have h1 := hF18 q hq; omega
 have lt23 := VotT.lt ho15
 have hb7lt := hb14.lt
 have own24 : ∀ q, G11 q → w1.heap.size ≤ q ∧ q ≠ b1 ∧ q ≠ b7 := fun q hq => by have h1 := hG19 q hq; omega
 have lt25 := Led.lt hl16
 replace hl16 : Led G11 w5 l9 knX ([] : List Ci) := by rw [kn0] at hl16; exact hl16
 refine OI_static 3 [(1, pt b7)] (by kernel_rfl) ?_
 refine OI_end rfl ?_
 refine X_then ?_
 refine V_seq ?_
 refine V_seq ?_
 refine V_region ?_
 refine OI_static 2 [(1, pt b7), (8, .bool false)] (by kernel_rfl) ?_
 refine OI_end rfl ?_
 refine X_then ?_
 refine V_false rfl ?_
 refine V_skip ?_
 refine X_then ?_
 refine V_seq ?_
 refine V_region ?_
 refine OI_static 3 [(1, pt b7), (11, .pointer (some ⟨b7, 1, none⟩))] (by kernel_rfl) ?_
 refine OI_cell 29 (.tmp 11) 1 (pt v8) (some 12) (by kernel_rfl) (by kernel_rfl) hb14 (m := 1) (by kernel_rfl) rfl ?_
 refine OI_call { callee := (Callee.value (Operand.func 8)), args := #[(Operand.tmp 12), (Operand.const (Value.int IntKind.i64 0)), (Operand.const (Value.int IntKind.i64 1))], argTypes := #[29, 3, 3] } 8 #[pt v8, nt 0, nt 1] (some 13) (by kernel_rfl) (by kernel_rfl) (by kernel_rfl) (open_specT F10 v8 VS.zero 0 1 _ ho15) ?_
 rintro _ w28 ⟨rfl, ⟨F30, ho31, hfr32⟩, hk29⟩
 refine ⟨_, rfl, ?_⟩
 have hsz33 := Keep.size hk29
 replace hb14 := hb14.keep hk29 (fun hs => by have h1 := own22 _ hs; have h2 := lt23 _ hs; omega)
 replace hK0 := Keep.fresh hK0 hk29 (by intro i hi hs; first | exact hs | (exfalso; have h1 := own22 i hs; have h2 := lt23 i hs; omega) | (have h1 := own22 i hs; have h2 := lt23 i hs; show _ ∨ _; omega))
 replace hl16 := Led.keep hl16 hk29 (fun q hq hs => hd20 q hs hq)
 have own35 : ∀ q, F30 q → w1.heap.size ≤ q ∧ q ≠ b7 := fun q hq => by rcases hfr32 q hq with h | h; (have h1 := own22 q h; have h2 := lt23 q h; omega); omega
 have lt34 := VotT.lt ho31
 have dis36 : ∀ q, F30 q → ¬ G11 q := fun q h1 h2 => by rcases hfr32 q h1 with h | h; exact hd20 q h h2; (have h4 := lt25 q h2; omega)
 replace ho31 : VotT F30 w28 v8 knS1 := by rw [show openS VS.zero 0 1 = knS1 from rfl] at ho31; exact ho31
 refine OI_pick [(1, pt b7), (13, nt (openE VS.zero 0 1))] (by kernel_rfl) ?_
 refine OI_eq [(1, pt b7), (13, nt 0)] (by rw [kn1]) ?_
 refine OI_static 6 [(1, pt b7), (2, nt 0)] (by kernel_rfl) ?_
 refine OI_end rfl ?_
 refine X_then ?_
 refine V_seq ?_
 refine V_draws (acts [8]) none_ [[0, 1, 2, 3, 4, 5, 6, 7, 8, 9]] (by kernel_rfl) (by repeat first | exact sure_body (by rintro _ _ ⟨h, _⟩; exact ⟨_, h⟩) | refine sure_then ?_ | refine sure_block ?_ | refine sure_join ?_) (by kernel_rfl) ?_
 intro w38 hk37 he39 L hL40
 have hsz41 := Keep.size hk37
 replace hb14 := hb14.keep hk37 (fun f => f)
 replace hK0 := Keep.tr hK0 (Keep.ofNone hk37)
 replace hl16 := Led.keep hl16 hk37 (fun _ _ f => f)
 replace ho31 := VotT.keep ho31 hk37 (fun _ _ f => f)
 have qhb14 := hb14
 have K42 : Keep none_ w38 w38 := Keep.refl _ _
 obtain rfl := List.mem_singleton.1 hL40
 refine GI_static [3, 4, 5, 6, 7, 8, 9] [(1, pt b7), (2, nt 0), (16, .pointer (some ⟨b7, 1, none⟩))] (by kernel_rfl) ?_
 refine GI_cell 29 (.tmp 16) 1 (pt v8) (some 17) (by kernel_rfl) (by kernel_rfl) (by kernel_rfl) qhb14 (fun f => f) (m := 1) (by kernel_rfl) rfl ?_
 refine GI_static [7, 8, 9] [(1, pt b7), (2, nt 0), (17, pt v8), (20, pt b7)] (by kernel_rfl) ?_
 refine GI_cell 28 (.tmp 20) 0 (pt l9) (some 21) (by kernel_rfl) (by kernel_rfl) (by kernel_rfl) qhb14 (fun f => f) (m := 1) (by kernel_rfl) rfl ?_
 refine GI_call0 { callee := (Callee.value (Operand.func 12)), args := #[(Operand.tmp 17), (Operand.tmp 21), (Operand.const (Value.int IntKind.i64 2)), (Operand.const (Value.int IntKind.i64 1)), (Operand.const (Value.int IntKind.i64 1)), (Operand.const (Value.int IntKind.i64 1)), (Operand.const (Value.int IntKind.i64 10))], argTypes := #[29, 28, 3, 3, 3, 3, 3] } 12 #[pt v8, pt l9, nt 2, nt 1, nt 1, nt 1, nt 10] (some 22) (by kernel_rfl) (by kernel_rfl) (by kernel_rfl) (by kernel_rfl) (by kernel_rfl) (delegate_spec F30 G11 v8 l9 knS1 knX ([] : List Ci) 2 1 1 1 10 _ ho31 hl16 dis36 (by first | decide | exact kn5)) ?_
 rintro _ w45 ⟨rfl, ⟨F47, F50, ho48, ho51, hfr49, hfr52, hdis53⟩, hk46⟩
 refine ⟨_, rfl, ?_⟩
 have hsz54 := Keep.size hk46
 replace hb14 := hb14.keep hk46 (fun hs => by rcases hs with hs | hs; (have u0 := own35 _ hs; have u1 := lt34 _ hs; omega); (have u0 := own24 _ hs; have u1 := lt25 _ hs; omega))
 replace hK0 := Keep.fresh hK0 hk46 (by intro i hi hs; first | exact hs | (rcases hs with hs | hs; (have u0 := own35 i hs; have u1 := lt34 i hs; omega); (have u0 := own24 i hs; have u1 := lt25 i hs; omega)))
 have own56 : ∀ q, F47 q → w1.heap.size ≤ q ∧ q ≠ b7 := fun q hq => by rcases hfr49 q hq with h | h; (have h1 := own35 q h; have h2 := lt34 q h; omega); omega
 have lt55 := VotT.lt ho48
 have own58 : ∀ q, F50 q → w1.heap.size ≤ q ∧ q ≠ b7 := fun q hq => by rcases hfr52 q hq with h | h; (have h1 := own24 q h; have h2 := lt25 q h; omega); omega
 have lt57 := Led.lt ho51
 replace ho48 : VotT F47 w45 v8 knS2 := by rw [show delS knX knS1 2 1 1 1 10 = knS2 from rfl] at ho48; exact ho48
 replace ho51 : Led F50 w45 l9 knX knC2 := by rw [show delC2 knX ([] : List Ci) knS1 2 1 1 1 10 = knC2 from rfl] at ho51; exact ho51
 refine GI_pick [(1, pt b7), (2, nt 0), (22, nt (delE knX knS1 2 1 1 1 10))] (by kernel_rfl) ?_
 refine GI_eq [(1, pt b7), (2, nt 0), (22, nt 0)] (by rw [kn2]) ?_
 refine GI_static [] [(1, pt b7), (2, nt 0), (3, nt 0)] (by kernel_rfl) ?_
 refine GI_end ?_
 refine X_then ?_
 refine V_seq ?_
 refine V_draws (acts [9]) none_ [[0, 1, 2, 3, 4, 5, 6, 7, 8, 9, 10]] (by kernel_rfl) (by repeat first | exact sure_body (by rintro _ _ ⟨h, _⟩; exact ⟨_, h⟩) | refine sure_then ?_ | refine sure_block ?_ | refine sure_join ?_) (by kernel_rfl) ?_
 intro w60 hk59 he61 L hL62
 have hsz63 := Keep.size hk59
 replace hb14 := hb14.keep hk59 (fun f => f)
 replace hK0 := Keep.tr hK0 (Keep.ofNone hk59)
 replace ho48 := VotT.keep ho48 hk59 (fun _ _ f => f)
 replace ho51 := Led.keep ho51 hk59 (fun _ _ f => f)
 have qhb14 := hb14
 have K64 : Keep none_ w60 w60 := Keep.refl _ _
 obtain rfl := List.mem_singleton.1 hL62
 refine GI_static [3, 4, 5, 6, 7, 8, 9, 10] [(1, pt b7), (2, nt 0), (3, nt 0), (25, .pointer (some ⟨b7, 1, none⟩))] (by kernel_rfl) ?_
 refine GI_cell 29 (.tmp 25) 1 (pt v8) (some 26) (by kernel_rfl) (by kernel_rfl) (by kernel_rfl) qhb14 (fun f => f) (m := 1) (by kernel_rfl) rfl ?_
 refine GI_static [7, 8, 9, 10] [(1, pt b7), (2, nt 0), (3, nt 0), (26, pt v8), (29, pt b7)] (by kernel_rfl) ?_
 refine GI_cell 28 (.tmp 29) 0 (pt l9) (some 30) (by kernel_rfl) (by kernel_rfl) (by kernel_rfl) qhb14 (fun f => f) (m := 1) (by kernel_rfl) rfl ?_
 refine GI_static [9, 10] [(1, pt b7), (2, nt 0), (3, nt 0), (26, pt v8), (30, pt l9), (31, .agg #[nt 1, .bool true, nt 2, nt 10, nt 0, nt 0])] (by kernel_rfl) ?_
 refine GI_call0 { callee := (Callee.value (Operand.func 9)), args := #[(Operand.tmp 26), (Operand.tmp 30), (Operand.const (Value.int IntKind.i64 1)), (Operand.const (Value.int IntKind.i64 0)), (Operand.tmp 31)], argTypes := #[29, 28, 3, 3, 26] } 9 #[pt v8, pt l9, nt 1, nt 0, .agg #[nt 1, .bool true, nt 2, nt 10, nt 0, nt 0]] (some 32) (by kernel_rfl) (by kernel_rfl) (by kernel_rfl) (by kernel_rfl) (by kernel_rfl) (vote_spec F47 F50 v8 l9 knS2 knX knC2 1 0 (Vt.mk 1 true 2 10 0 0) _ ho48 ho51 hdis53 (by first | decide | exact kn5)) ?_
 rintro _ w67 ⟨rfl, ⟨F69, F72, ho70, ho73, hfr71, hfr74, hdis75⟩, hk68⟩
 refine ⟨_, rfl, ?_⟩
 have hsz76 := Keep.size hk68
 replace hb14 := hb14.keep hk68 (fun hs => by rcases hs with hs | hs; (have u0 := own56 _ hs; have u1 := lt55 _ hs; omega); (have u0 := own58 _ hs; have u1 := lt57 _ hs; omega))
 replace hK0 := Keep.fresh hK0 hk68 (by intro i hi hs; first | exact hs | (rcases hs with hs | hs; (have u0 := own56 i hs; have u1 := lt55 i hs; omega); (have u0 := own58 i hs; have u1 := lt57 i hs; omega)))
 have own78 : ∀ q, F69 q → w1.heap.size ≤ q ∧ q ≠ b7 := fun q hq => by rcases hfr71 q hq with h | h; (have h1 := own56 q h; have h2 := lt55 q h; omega); omega
 have lt77 := VotT.lt ho70
 have own80 : ∀ q, F72 q → w1.heap.size ≤ q ∧ q ≠ b7 := fun q hq => by rcases hfr74 q hq with h | h; (have h1 := own58 q h; have h2 := lt57 q h; omega); omega
 have lt79 := Led.lt ho73
 replace ho70 : VotT F69 w67 v8 knS3 := by rw [show voteS knX knS2 1 0 (Vt.mk 1 true 2 10 0 0) = knS3 from rfl] at ho70; exact ho70
 replace ho73 : Led F72 w67 l9 knX knC3 := by rw [show voteC knX knC2 knS2 1 0 (Vt.mk 1 true 2 10 0 0) = knC3 from rfl] at ho73; exact ho73
 refine GI_pick [(1, pt b7), (2, nt 0), (3, nt 0), (32, nt (voteE knX knS2 1 0 (Vt.mk 1 true 2 10 0 0)))] (by kernel_rfl) ?_
 refine GI_eq [(1, pt b7), (2, nt 0), (3, nt 0), (32, nt 0)] (by rw [show voteE knX knS2 1 0 (Vt.mk 1 true 2 10 0 0) = 0 from kn3]) ?_
 refine GI_static [] [(1, pt b7), (2, nt 0), (3, nt 0), (4, nt 0)] (by kernel_rfl) ?_
 refine GI_end ?_
 refine X_then ?_
 refine V_seq ?_
 refine V_region ?_
 refine OI_static 10 [(39, .bool true), (42, .pointer (some ⟨b7, 1, none⟩))] (by kernel_rfl) ?_
 refine OI_cell 29 (.tmp 42) 1 (pt v8) (some 43) (by kernel_rfl) (by kernel_rfl) hb14 (m := 1) (by kernel_rfl) rfl ?_
 refine OI_call { callee := (Callee.value (Operand.func 13)), args := #[(Operand.tmp 43), (Operand.const (Value.int IntKind.i64 0))], argTypes := #[29, 3] } 13 #[pt v8, nt 0] (some 44) (by kernel_rfl) (by kernel_rfl) (by kernel_rfl) (tally_spec F69 v8 knS3 0 _ (ho70).1) ?_
 rintro _ w81 ⟨rfl, hk82⟩
 refine ⟨_, rfl, ?_⟩
 have hsz83 := Keep.size hk82
 replace hK0 := Keep.tr hK0 (Keep.ofNone hk82)
 replace ho70 := VotT.keep ho70 hk82 (fun _ _ f => f)
 replace ho73 := Led.keep ho73 hk82 (fun _ _ f => f)
 refine OI_pick [(39, .bool true), (44, .agg (Tly.cells (tallyT knS3 0)).toArray)] (by kernel_rfl) ?_
 refine OI_eq [(39, .bool true), (44, .agg #[nt 30, nt 0, nt 20])] (by rw [kn4]; rfl) ?_
 refine OI_static 13 [(39, .bool true), (44, .agg #[nt 30, nt 0, nt 20]), (45, .agg #[nt 30, nt 0, nt 20])] (by kernel_rfl) ?_
 refine OI_pure (some 46) ((Op.binOp BinOp.eql 43 (Operand.tmp 44) (Operand.tmp 45) 43)) (by kernel_rfl) (pure_eql_same (xs := [nt 30, nt 0, nt 20]) (by kernel_rfl) (by kernel_rfl) (by kernel_rfl) (by kernel_rfl)) ?_
 refine OI_static 16 [(0, .bool true)] (by kernel_rfl) ?_
 refine OI_end rfl ?_
 refine X_then ?_
 refine V_ret ?_
 exact X_return (.bool true) rfl ⟨rfl, hK0⟩
end Go.Al


namespace Go.Al
open Go Go.RowKit Go.Proofs
theorem raise_lt {cs : List Ci} {m : Nat} (h : cs.length < m) (a t n : Int) : (raiseC cs a t n).length < m + 1 := by have := raiseC_len cs a t n; omega
theorem gets_nil {s : VS} {a t : Int} {wt : Wgt} (r0 : RecS) (h0 : s.rc a t = r0) (hv : vrow s a t = []) : getsS s a t wt = s.setR a t { r0 with got := gotW r0.got wt } := by
  unfold getsS
  rw [h0, hv]; rfl
theorem gotW_zero {v c : Int} (h1 : -9223372036854775808 ≤ v ∧ v ≤ 9223372036854775807) (h2 : -9223372036854775808 ≤ c ∧ c ≤ 9223372036854775807) : gotW ⟨0, 0⟩ ⟨v, c⟩ = ⟨v, c⟩ := by
  unfold gotW
  simp only [Int.zero_add]
  rw [w64_id h1.1 h1.2, w64_id h2.1 h2.2]
/-! ### A vote that is cast anew -/
end Go.Al


namespace Go.Al
open Go Go.RowKit Go.Proofs
theorem cv_bnd {n level B : Int} (h1 : 0 ≤ n) (h2 : n ≤ B) (hB : B ≤ 1073741824) (h3 : 0 ≤ level ∧ level ≤ 6) : 0 ≤ cvVotes n level ∧ cvVotes n level ≤ 6 * B := by
  unfold cvVotes
  have ht : Int.tdiv n 10 = n / 10 := Int.tdiv_eq_ediv_of_nonneg h1
  rcases (by omega : level = 0 ∨ level = 1 ∨ level = 2 ∨ level = 3 ∨ level = 4 ∨ level = 5 ∨ level = 6) with rfl | rfl | rfl | rfl | rfl | rfl | rfl
  · rw [if_pos rfl, ht, w64_id (by omega) (by omega)]; omega
  all_goals (rw [if_neg (by decide), w64_id (by omega) (by omega)]; omega)
theorem vote_not {xs : List Acc} {s : VS} {who ref : Int} {x : Vt} {k : Int} (h : voteE xs s who ref x = k) (hk : k ≠ 0) : voteS xs s who ref x = s ∧ ∀ cs, voteC xs cs s who ref x = cs := by
  refine ⟨?_, fun cs => ?_⟩
  · unfold voteS; rw [h, if_neg hk]
  · unfold voteC; rw [h, if_neg hk]
theorem del_not {xs : List Acc} {s : VS} {who t to level n k : Int} (h : delE xs s who t to level n = k) (hk : k ≠ 0) : delS xs s who t to level n = s ∧ ∀ cs, delC2 xs cs s who t to level n = cs := by
  refine ⟨?_, fun cs => ?_⟩
  · unfold delS; rw [h, if_neg hk]
  · unfold delC2; rw [h, if_neg hk]
end Go.Al


namespace Go.Al
open Go Go.RowKit Go.Proofs
/-! ### What is lent to one who splits -/
end Go.Al


namespace Go.Al
open Go Go.RowKit Go.Proofs
/-! ### Who lends, and who votes -/
theorem rc_same (s : VS) (a t : Int) (r : RecS) : (s.setR a t r).rc a t = r := if_pos ⟨rfl, rfl⟩
theorem rc_other (s : VS) {a t b u : Int} (r : RecS) (h : ¬ (b = a ∧ u = t)) : (s.setR a t r).rc b u = s.rc b u := if_neg h
def lnX : List Acc := newX [100, 100, 100, 100] 10
def lnV (n : Int) : Vt := ⟨1, true, 1, n, 0, 0⟩
def lnS1 (t m : Int) : VS := ⟨[some ⟨t, Tly.zero, 0, 0⟩, some ⟨m, Tly.zero, 0, 0⟩, none, none, none, none, none, none, none, none, none, none], [], fun _ _ => RecS.zero⟩
def lnS2 (who to t m n : Int) : VS := ((lnS1 t m).setR who t ⟨some ⟨to, 3, n⟩, ⟨0, 0⟩, 0, 0⟩).setR to t ⟨none, ⟨cvVotes n 3, n⟩, 0, 0⟩
def lnS3 (who to t m n : Int) : VS := { (lnS2 who to t m n).setP 1 ⟨m, addT Tly.zero (gainT (lnV n) ⟨0, 0⟩), 0, 0⟩ with cs := [⟨who, 1, lnV n⟩] }
def lnS4 (who to t m n : Int) : VS := undS (lnS3 who to t m n) who t 5
def lnS5 (who to t m n : Int) : VS := voteS lnX (lnS4 who to t m n) who 0 (lnV n)
theorem ln0 : newX (msk24 ([100, 100, 100, 100].take 10)) 10 = lnX := by kernel_rfl
theorem ln_m {t : Int} (h : 0 ≤ t ∧ t ≤ 3) : (0 ≤ Int.tmod (t + 1) 4 ∧ Int.tmod (t + 1) 4 ≤ 3) ∧ Int.tmod (t + 1) 4 ≠ t := by
  rcases (by omega : t = 0 ∨ t = 1 ∨ t = 2 ∨ t = 3) with rfl | rfl | rfl | rfl <;> decide
theorem ln_open {t m : Int} (h : 0 ≤ t ∧ t ≤ 3) (h2 : 0 ≤ m ∧ m ≤ 3) : openS (openS VS.zero 0 t) 1 m = lnS1 t m := by
  rcases (by omega : t = 0 ∨ t = 1 ∨ t = 2 ∨ t = 3) with rfl | rfl | rfl | rfl <;> rcases (by omega : m = 0 ∨ m = 1 ∨ m = 2 ∨ m = 3) with rfl | rfl | rfl | rfl <;> kernel_rfl
theorem lnF {who : Int} (h : 0 ≤ who ∧ who ≤ 3) : (acct lnX who).free = 100 := by
  rcases (by omega : who = 0 ∨ who = 1 ∨ who = 2 ∨ who = 3) with rfl | rfl | rfl | rfl <;> kernel_rfl
theorem lnV_ok {n : Int} (h : 0 ≤ n ∧ n ≤ 100) : okV (lnV n) := ⟨by simp only [lnV]; omega, .inl ⟨rfl, by show (0 : Int) ≤ 1; decide, by show (1 : Int) ≤ 6; decide, rfl, rfl⟩⟩
theorem lnV_c {n : Int} (h : 0 ≤ n ∧ n ≤ 100) : capI (lnV n) = n := by rw [(capI_ok (lnV_ok h)).1]; simp only [lnV]; omega
theorem ln_same {xs : List Acc} {s : VS} {who t n : Int} : delE xs s who t who 3 n = 1 := by
  unfold delE
  rw [if_pos (.inr (.inr (.inr (.inr (.inr (fun h => h rfl))))))]
def LnH (who to t m n : Int) : Prop := (0 ≤ who ∧ who ≤ 3) ∧ (0 ≤ to ∧ to ≤ 3) ∧ (0 ≤ t ∧ t ≤ 3) ∧ m ≠ t ∧ (0 ≤ n ∧ n ≤ 100) ∧ who ≠ to
theorem ln_a {who to t m n : Int} (H : LnH who to t m n) : delE lnX (lnS1 t m) who t to 3 n = 0 ∧ delS lnX (lnS1 t m) who t to 3 n = lnS2 who to t m n ∧ ∀ cs, delC2 lnX cs (lnS1 t m) who t to 3 n = raiseC cs who t n := by
  obtain ⟨hw, ho, ht, hm, hn, hne⟩ := H
  have hb := cv_bnd (level := 3) hn.1 hn.2 (by decide) (by decide)
  obtain ⟨g1, g2, g3⟩ := del_go (xs := lnX) (s := lnS1 t m) (who := who) (t := t) (to := to) (level := 3) (n := n) ⟨hw.1, by omega⟩ ⟨ho.1, by omega⟩ ht (by decide) ⟨hn.1, by omega⟩ hne rfl rfl (by rw [lnF hw]; exact hn.2)
  refine ⟨g1, ?_, g3⟩
  rw [g2, gets_nil RecS.zero (rc_other _ _ (fun e => hne e.1.symm)) rfl, show RecS.zero.got = ⟨0, 0⟩ from rfl, gotW_zero (by omega) (by omega)]
  rfl
theorem ln_b {who to t m n : Int} (H : LnH who to t m n) : voteE lnX (lnS2 who to t m n) who 0 (lnV n) = 5 := by
  obtain ⟨hw, ho, ht, hm, hn, hne⟩ := H
  have hr : (lnS2 who to t m n).rc who t = ⟨some ⟨to, 3, n⟩, ⟨0, 0⟩, 0, 0⟩ := (rc_other _ _ (fun e => hne e.1)).trans (rc_same _ _ _ _)
  unfold voteE
  rw [if_neg (by rintro (h9 | h9); exact h9 ⟨hw.1, by omega⟩; exact h9 (lnV_ok hn)), show pollAt (lnS2 who to t m n) 0 = some ⟨t, Tly.zero, 0, 0⟩ from rfl]
  dsimp only
  rw [if_neg (fun h => h rfl), hr, if_pos (show (⟨some ⟨to, 3, n⟩, ⟨0, 0⟩, 0, 0⟩ : RecS).d.isSome = true from rfl)]
theorem ln_c {who to t m n : Int} (H : LnH who to t m n) : voteE lnX (lnS2 who to t m n) who 1 (lnV n) = 0 ∧ voteS lnX (lnS2 who to t m n) who 1 (lnV n) = lnS3 who to t m n ∧ ∀ cs, voteC lnX cs (lnS2 who to t m n) who 1 (lnV n) = raiseC cs who m (capI (lnV n)) := by
  obtain ⟨hw, ho, ht, hm, hn, hne⟩ := H
  have hr : (lnS2 who to t m n).rc who m = RecS.zero := (rc_other _ _ (fun e => hne e.1)).trans (rc_other _ _ (fun e => hm e.2))
  obtain ⟨g1, g2, g3⟩ := vote_go (xs := lnX) (s := lnS2 who to t m n) (who := who) (ref := 1) (x := lnV n) (q := ⟨m, Tly.zero, 0, 0⟩) ⟨hw.1, by omega⟩ (lnV_ok hn) rfl rfl (by show ((lnS2 who to t m n).rc who m).d = none; rw [hr]; rfl) (by rw [lnV_c hn, lnF hw]; exact hn.2) (.inr (by show (0 : Nat) < 6; decide))
  refine ⟨g1, ?_, g3⟩
  rw [g2, show voteT (lnS2 who to t m n) who 1 (lnV n) ⟨m, Tly.zero, 0, 0⟩ = addT Tly.zero (gainT (lnV n) ((lnS2 who to t m n).rc who m).got) from rfl, hr]
  rfl
theorem ln_d {who to t m n : Int} (H : LnH who to t m n) : delE lnX (lnS3 who to t m n) who t to 3 n = 5 := by
  obtain ⟨hw, ho, ht, hm, hn, hne⟩ := H
  have hr : (lnS3 who to t m n).rc who t = ⟨some ⟨to, 3, n⟩, ⟨0, 0⟩, 0, 0⟩ := (rc_other (VS.setR _ _ _ _) _ (fun e => hne e.1)).trans (rc_same _ _ _ _)
  unfold delE
  rw [if_neg (by rintro (h | h | h | h | h | h); exact h ⟨hw.1, by omega⟩; exact h ⟨ho.1, by omega⟩; exact h ht; exact h (by decide); exact h ⟨hn.1, by omega⟩; exact h hne), hr, if_pos (show (⟨some ⟨to, 3, n⟩, ⟨0, 0⟩, 0, 0⟩ : RecS).d.isSome = true from rfl)]
theorem ln_e {who to t m n : Int} (H : LnH who to t m n) : undE (lnS3 who to t m n) who t = 0 ∧ ((lnS4 who to t m n).rc who t).d = none ∧ pollAt (lnS4 who to t m n) 0 = some ⟨t, Tly.zero, 0, 0⟩ ∧ (lnS4 who to t m n).cs = [⟨who, 1, lnV n⟩] ∧ trk (lnS4 who to t m n) 0 = t ∧ trk (lnS4 who to t m n) 1 = m := by
  obtain ⟨hw, ho, ht, hm, hn, hne⟩ := H
  have hr : (lnS3 who to t m n).rc who t = ⟨some ⟨to, 3, n⟩, ⟨0, 0⟩, 0, 0⟩ := (rc_other (VS.setR _ _ _ _) _ (fun e => hne e.1)).trans (rc_same _ _ _ _)
  have hE : undE (lnS3 who to t m n) who t = 0 := by
    unfold undE
    rw [if_neg (by rintro (h | h); exact h ⟨hw.1, by omega⟩; exact h ht), hr, if_pos (show (⟨some ⟨to, 3, n⟩, ⟨0, 0⟩, 0, 0⟩ : RecS).d.isSome = true from rfl)]
  have hs : lnS4 who to t m n = (undS1 (lnS3 who to t m n) who t ⟨to, 3, n⟩).setR who t (joinR ((undS1 (lnS3 who to t m n) who t ⟨to, 3, n⟩).rc who t) (w64 (5 + cvPeriod 3 8)) n 5) := by
    unfold lnS4 undS
    rw [if_pos hE, hr]
  have h1 : undS1 (lnS3 who to t m n) who t ⟨to, 3, n⟩ = ((lnS3 who to t m n).setR who t ⟨none, ⟨0, 0⟩, 0, 0⟩).setR to t { (⟨none, ⟨cvVotes n 3, n⟩, 0, 0⟩ : RecS) with got := gotW ⟨cvVotes n 3, n⟩ ⟨w64 (0 - cvVotes n 3), w64 (0 - n)⟩ } := by
    unfold undS1
    rw [hr]
    refine gets_nil ⟨none, ⟨cvVotes n 3, n⟩, 0, 0⟩ ((rc_other _ _ (fun e => hne e.1.symm)).trans (rc_same (VS.setR _ _ _ _) _ _ _)) ?_
    have hl : GV.rowL to [⟨who, 1, lnV n⟩] = [] := by simp [GV.rowL, hne]
    unfold vrow
    rw [show ((lnS3 who to t m n).setR who t ⟨none, ⟨0, 0⟩, 0, 0⟩).cs = [⟨who, 1, lnV n⟩] from rfl, hl]; rfl
  refine ⟨hE, ?_, by rw [hs, h1]; rfl, by rw [hs, h1]; rfl, by rw [hs, h1]; rfl, by rw [hs, h1]; rfl⟩
  rw [hs, rc_same, joinR_d, h1, rc_other _ _ (fun e => hne e.1), rc_same]
theorem ln_f {who to t m n : Int} (H : LnH who to t m n) : voteE lnX (lnS4 who to t m n) who 0 (lnV n) = 0 ∧ (∀ cs, voteC lnX cs (lnS4 who to t m n) who 0 (lnV n) = raiseC cs who t (capI (lnV n))) ∧ delE lnX (lnS5 who to t m n) who t to 3 n = 9 := by
  obtain ⟨hw, ho, ht, hm, hn, hne⟩ := H
  obtain ⟨_, e1, e2, e3, e4, e5⟩ := ln_e ⟨hw, ho, ht, hm, hn, hne⟩
  have hv : vrow (lnS4 who to t m n) who t = [] := by
    have hl : GV.rowL who [⟨who, 1, lnV n⟩] = [((1 : Int), lnV n)] := by simp [GV.rowL]
    unfold vrow
    rw [e3, hl]; simp [e5, hm]
  obtain ⟨g1, g2, g3⟩ := vote_go (xs := lnX) (s := lnS4 who to t m n) (who := who) (ref := 0) (x := lnV n) (q := ⟨t, Tly.zero, 0, 0⟩) ⟨hw.1, by omega⟩ (lnV_ok hn) e2 rfl e1 (by rw [lnV_c hn, lnF hw]; exact hn.2) (.inr (by rw [hv]; decide))
  refine ⟨g1, g3, ?_⟩
  have hs : lnS5 who to t m n = { (lnS4 who to t m n).setP 0 { (⟨t, Tly.zero, 0, 0⟩ : PollS) with t := voteT (lnS4 who to t m n) who 0 (lnV n) ⟨t, Tly.zero, 0, 0⟩ } with cs := GV.setC who 0 (lnV n) (lnS4 who to t m n).cs } := g2
  have hc : (lnS5 who to t m n).cs = [⟨who, 0, lnV n⟩, ⟨who, 1, lnV n⟩] := by
    rw [hs]
    show GV.setC who 0 (lnV n) (lnS4 who to t m n).cs = _
    rw [e3]
    show (if who = who ∧ (1 : Int) = 0 then _ else if GV.ltC who 1 who 0 then _ else _) = _
    rw [if_neg (by omega), if_neg (by unfold GV.ltC; omega)]
  have hd : ((lnS5 who to t m n).rc who t).d = none := by rw [hs]; exact e1
  have h9 : (lnS4 who to t m n).ps[(0 : Nat)]? = some (some ⟨t, Tly.zero, 0, 0⟩) := by
    have h : ((lnS4 who to t m n).ps[(0 : Nat)]?).join = some ⟨t, Tly.zero, 0, 0⟩ := by have h := e2; unfold pollAt at h; rw [if_pos (by decide)] at h; exact h
    cases hh : (lnS4 who to t m n).ps[(0 : Nat)]? with
    | none => rw [hh] at h; cases h
    | some z => rw [hh] at h; exact congrArg some h
  have h0 : trk (lnS5 who to t m n) 0 = t := by
    rw [hs]
    exact (trk_setP (s := lnS4 who to t m n) (i := 0) (q := ⟨t, Tly.zero, 0, 0⟩) h9 (by rfl) 0).trans e4
  have hl : GV.rowL who [⟨who, 0, lnV n⟩, ⟨who, 1, lnV n⟩] = [((0 : Int), lnV n), ((1 : Int), lnV n)] := by simp [GV.rowL]
  have hp : (((vrow (lnS5 who to t m n) who t).length : Nat) : Int) > 0 := by
    unfold vrow
    rw [hc, hl, List.filter_cons_of_pos (by rw [h0]; exact beq_self_eq_true t)]
    simp only [List.length_cons]; omega
  unfold delE
  rw [if_neg (by rintro (h | h | h | h | h | h); exact h ⟨hw.1, by omega⟩; exact h ⟨ho.1, by omega⟩; exact h ht; exact h (by decide); exact h ⟨hn.1, by omega⟩; exact h hne), hd, if_neg (by decide), if_pos hp]
end Go.Al


namespace Go.Al
open Go Go.RowKit Go.Proofs
set_option maxRecDepth 10000 in
set_option maxHeartbeats 1000000 in
theorem undelegate_at (F : Nat → Prop) (v : Nat) (P : VP) (s : VS) (who t now : Int) (w : World) (h : Vot F w v P s) : Calls Try.prog 16 #[.pointer (some ⟨v, 0, none⟩), .int .i64 who, .int .i64 t, .int .i64 now] w fun e w' => e = .returned (.int .i64 (undE s who t)) ∧ (∃ F', VotE F' w' v (undS s who t now) ∧ (∀ q, F' q → F q ∨ w.heap.size ≤ q)) ∧ Keep F w w' := by
 have hFlt := Vot.lt h
 have hvlt := hFlt _ (Vot.at_ h)
 have hFo : ∀ q, F q → 0 ≤ q := fun q _ => Nat.zero_le q
 have hFr : ∀ q, F q → F q ∨ w.heap.size ≤ q := fun _ h => .inl h
 have hinv := Vot.inv h
 have hK0 : Keep F w w := Keep.refl _ _
 have hzhK0 := Keep.size hK0
 refine enterV Try.func16 rfl [pt v, nt who, nt t, nt now] 73 rfl rfl rfl ?_
 refine V_pick [(0, pt v), (1, nt who), (2, nt t), (3, nt now)] rfl ?_
 refine V_seq ?_
 refine V_region ?_
 refine OI_static 1 [(0, pt v), (1, nt who), (2, nt t), (3, nt now)] (by kernel_rfl) ?_
 refine OI_end rfl ?_
 refine X_then ?_
 refine V_seq ?_
 refine V_seq ?_
 refine V_region ?_
 refine OI_static 4 [(0, pt v), (1, nt who), (2, nt t), (3, nt now), (13, .bool false), (14, nt who)] (by kernel_rfl) ?_
 refine OI_call { callee := (Callee.value (Operand.func 24)), args := #[(Operand.tmp 14)], argTypes := #[3] } 24 #[nt who] (some 15) (by kernel_rfl) (by kernel_rfl) (by kernel_rfl) (isAcc_spec who _) ?_
 rintro _ w ⟨rfl, rfl⟩
 refine ⟨_, rfl, ?_⟩
 refine OI_static 8 [(0, pt v), (1, nt who), (2, nt t), (3, nt now), (18, .bool (!(decide (0 ≤ who ∧ who ≤ 9))))] (by kernel_rfl) ?_
 by_cases hg6 : 0 ≤ who ∧ who ≤ 9
 ·
  refine OI_eq [(0, pt v), (1, nt who), (2, nt t), (3, nt now), (18, .bool false)] (by first | simp [hg6] | rfl) ?_
  refine OI_static 9 [(0, pt v), (1, nt who), (2, nt t), (3, nt now), (18, .bool false), (19, nt t)] (by kernel_rfl) ?_
  refine OI_call { callee := (Callee.value (Operand.func 22)), args := #[(Operand.tmp 19)], argTypes := #[3] } 22 #[nt t] (some 20) (by kernel_rfl) (by kernel_rfl) (by kernel_rfl) (isTrk_spec t _) ?_
  rintro _ w ⟨rfl, rfl⟩
  refine ⟨_, rfl, ?_⟩
  refine OI_static 12 [(0, pt v), (1, nt who), (2, nt t), (3, nt now), (22, .bool (!(decide (0 ≤ t ∧ t ≤ 3))))] (by kernel_rfl) ?_
  refine OI_end rfl ?_
  refine X_then ?_
  refine V_not (0 ≤ t ∧ t ≤ 3) (by kernel_rfl) (fun hc12 => ?_) (fun hc12 => ?_)
  ·
   refine V_seq ?_
   refine V_region ?_
   refine OI_static 1 [(8, nt 1)] (by kernel_rfl) ?_
   refine OI_end rfl ?_
   refine X_then ?_
   refine V_ret ?_
   refine X_ret_then ?_
   have hE13 : undE s who t = 1 := by unfold undE; rw [if_pos (.inr (hc12))]
   exact X_return (nt 1) rfl ⟨by rw [hE13], ⟨F, ⟨_, by rw [show undS s who t now = s from by unfold undS; rw [hE13, if_neg (by decide)]]; exact h⟩, hFr⟩, hK0⟩
  ·
   refine V_skip ?_
   refine X_then ?_
   refine V_seq ?_
   refine V_region ?_
   refine OI_static 3 [(0, pt v), (2, nt t), (3, nt now), (23, pt v), (24, nt who), (25, nt t)] (by kernel_rfl) ?_
   rcases hd14 : (s.rc who t).d with _ | d15
   ·
    refine OI_call { callee := (Callee.value (Operand.func 26)), args := #[(Operand.tmp 23), (Operand.tmp 24), (Operand.tmp 25)], argTypes := #[29, 3, 3] } 26 #[pt v, nt who, nt t] (some 26) (by kernel_rfl) (by kernel_rfl) (by kernel_rfl) (record_spec F v P s who t _ h (by omega) (by omega)) ?_
    rintro _ w30 ⟨q20, P21, rfl, hgc25, hpp26, hgv27, hmn28, hdl29, ⟨F22, ho23, hfr24⟩, hk31⟩
    refine ⟨_, rfl, ?_⟩
    have hsz32 := Keep.size hk31
    replace hK0 := Keep.fresh hK0 hk31 (fun i hi hs => by rcases hFr i hs with h | h; exact h; (exfalso; omega))
    have own34 : ∀ q, F22 q → 0 ≤ q := fun q hq => by rcases hfr24 q hq with h | h; (have h1 := hFo q h; have h2 := hFlt q h; omega); omega
    have lt33 := Vot.lt ho23
    have rel35 : ∀ q, F22 q → F q ∨ w.heap.size ≤ q := fun q hq => by rcases hfr24 q hq with h | h; exact hFr q h; exact .inr (by omega)
    have hgq20lt := lt33 _ (Vot.at_ ho23)
    obtain ⟨hF37, hm36⟩ := Vot.recN ho23 hgc25 hd14
    have hq20lt := hm36.lt
    have hloq20 := lt33 _ hF37
    have hoq20 := own34 _ hF37
    refine OI_static 5 [(0, pt v), (2, nt t), (3, nt now), (9, pt q20)] (by kernel_rfl) ?_
    refine OI_end rfl ?_
    refine X_then ?_
    refine V_seq ?_
    refine V_region ?_
    refine OI_static 3 [(0, pt v), (2, nt t), (3, nt now), (9, pt q20), (29, pt q20)] (by kernel_rfl) ?_
    refine OI_cell 72 (.tmp 29) 0 (.pointer none) (some 30) (by kernel_rfl) (by kernel_rfl) hm36 (m := 1) (by kernel_rfl) rfl ?_
    refine OI_static 5 [(0, pt v), (2, nt t), (3, nt now), (9, pt q20), (10, .pointer none)] (by kernel_rfl) ?_
    refine OI_end rfl ?_
    refine X_then ?_
    refine V_seq ?_
    refine V_seq ?_
    refine V_region ?_
    refine OI_static 2 [(0, pt v), (2, nt t), (3, nt now), (9, pt q20), (10, .pointer none), (32, .bool true)] (by kernel_rfl) ?_
    refine OI_end rfl ?_
    refine X_then ?_
    refine V_true rfl ?_
    refine V_seq ?_
    refine V_region ?_
    refine OI_static 1 [(8, nt 4)] (by kernel_rfl) ?_
    refine OI_end rfl ?_
    refine X_then ?_
    refine V_ret ?_
    refine X_ret_then ?_
    have hE38 : undE s who t = 4 := by unfold undE; rw [if_neg (by rintro (h9 | h9); exact h9 hg6; exact h9 hc12)]; rw [if_neg (by rw [hd14]; decide)]
    exact X_return (nt 4) rfl ⟨by rw [hE38], ⟨F22, ⟨_, by rw [show undS s who t now = s from by unfold undS; rw [hE38, if_neg (by decide)]]; exact ho23⟩, rel35⟩, hK0⟩
   ·
    refine OI_call { callee := (Callee.value (Operand.func 26)), args := #[(Operand.tmp 23), (Operand.tmp 24), (Operand.tmp 25)], argTypes := #[29, 3, 3] } 26 #[pt v, nt who, nt t] (some 26) (by kernel_rfl) (by kernel_rfl) (by kernel_rfl) (record_spec F v P s who t _ h (by omega) (by omega)) ?_
    rintro _ w53 ⟨q43, P44, rfl, hgc48, hpp49, hgv50, hmn51, hdl52, ⟨F45, ho46, hfr47⟩, hk54⟩
    refine ⟨_, rfl, ?_⟩
    have hsz55 := Keep.size hk54
    replace hK0 := Keep.fresh hK0 hk54 (fun i hi hs => by rcases hFr i hs with h | h; exact h; (exfalso; omega))
    have own57 : ∀ q, F45 q → 0 ≤ q := fun q hq => by rcases hfr47 q hq with h | h; (have h1 := hFo q h; have h2 := hFlt q h; omega); omega
    have lt56 := Vot.lt ho46
    have rel58 : ∀ q, F45 q → F q ∨ w.heap.size ≤ q := fun q hq => by rcases hfr47 q hq with h | h; exact hFr q h; exact .inr (by omega)
    have hgq43lt := lt56 _ (Vot.at_ ho46)
    obtain ⟨bd61, hF60, hF62, hm59, hm63⟩ := Vot.recD ho46 hgc48 hd14
    have hbd61lt := hm63.lt
    have hlobd61 := lt56 _ hF62
    have hobd61 := own57 _ hF62
    have hq43lt := hm59.lt
    have hloq43 := lt56 _ hF60
    have hoq43 := own57 _ hF60
    have hnebd61q43 : bd61 ≠ q43 := Blk.ne hm63 hm59 (by decide)
    refine OI_static 5 [(0, pt v), (2, nt t), (3, nt now), (9, pt q43)] (by kernel_rfl) ?_
    refine OI_end rfl ?_
    refine X_then ?_
    refine V_seq ?_
    refine V_region ?_
    refine OI_static 3 [(0, pt v), (2, nt t), (3, nt now), (9, pt q43), (29, pt q43)] (by kernel_rfl) ?_
    refine OI_cell 72 (.tmp 29) 0 (pt bd61) (some 30) (by kernel_rfl) (by kernel_rfl) hm59 (m := 1) (by kernel_rfl) rfl ?_
    refine OI_static 5 [(0, pt v), (2, nt t), (3, nt now), (9, pt q43), (10, pt bd61)] (by kernel_rfl) ?_
    refine OI_end rfl ?_
    refine X_then ?_
    refine V_seq ?_
    refine V_seq ?_
    refine V_region ?_
    refine OI_static 2 [(0, pt v), (2, nt t), (3, nt now), (9, pt q43), (10, pt bd61), (32, .bool false)] (by kernel_rfl) ?_
    refine OI_end rfl ?_
    refine X_then ?_
    refine V_false rfl ?_
    refine V_skip ?_
    refine X_then ?_
    refine V_seq ?_
    refine V_region ?_
    refine OI_static 3 [(0, pt v), (2, nt t), (3, nt now), (9, pt q43), (10, pt bd61), (35, pt q43)] (by kernel_rfl) ?_
    refine OI_set (m := 1) (kd := false) 72 (.tmp 35) (.const (Value.pointer none)) 0 (.pointer none) [.pointer none] none (by kernel_rfl) (by kernel_rfl) (by kernel_rfl) hm59 (by kernel_rfl) (by kernel_rfl) (by kernel_rfl) (Nat.le_of_ble_eq_true (by kernel_rfl)) (by simp [Value.oneCell']) ?_
    intro w64 hn67 hk65 hz66
    replace hn67 : Blk w64 q43 [.pointer none, nt (((s.rc who t)).got.v), nt (((s.rc who t)).got.c), nt (((s.rc who t)).till), nt (((s.rc who t)).n)] 76 := hn67
    have hsz68 := Keep.size hk65
    replace hm63 := hm63.keep hk65 (by show ¬ (bd61 = q43); omega)
    replace hK0 := Keep.fresh hK0 hk65 (fun i hi hs => by have hs : F45 i := (by rw [show i = q43 from hs]; exact hF60); rcases rel58 i hs with h | h; exact h; (exfalso; omega))
    have ho69 := Vot.setRec (a := who) (t := t) (r' := { (s.rc who t) with d := none }) (dp := (some ⟨bd61, 0, none⟩)) (dp' := none) ho46 hgc48 hm59 hk65 (show Blk _ _ (RecS.cells none { (s.rc who t) with d := none }) _ from hn67) (.inr ⟨rfl, rfl⟩)
    obtain ⟨r70, hr70⟩ : ∃ r9 : RecS, r9 = { (s.rc who t) with d := none } := ⟨_, rfl⟩
    replace hn67 : Blk w64 q43 (RecS.cells none r70) 76 := by rw [hr70]; exact hn67
    have hq43lt := hn67.lt
    refine OI_end rfl ?_
    refine X_then ?_
    refine V_seq ?_
    refine V_draws (acts [14, 22]) none_ [[6, 7, 8, 9, 10, 11, 12, 13, 14, 0, 1, 2, 3, 4, 5, 15, 16, 17, 18, 19, 20, 21, 22]] (by kernel_rfl) (by repeat first | exact sure_body (by rintro _ _ ⟨h, _⟩; exact ⟨_, h⟩) | refine sure_then ?_ | refine sure_block ?_ | refine sure_join ?_) (by kernel_rfl) ?_
    intro w72 hk71 he73 L hL74
    have hsz75 := Keep.size hk71
    replace hm63 := hm63.keep hk71 (fun f => f)
    replace hn67 := hn67.keep hk71 (fun f => f)
    replace hK0 := Keep.tr hK0 (Keep.ofNone hk71)
    replace ho69 := Vot.keep ho69 hk71 (fun _ _ f => f)
    have qhm63 := hm63
    have qhn67 := hn67
    have K76 : Keep none_ w72 w72 := Keep.refl _ _
    obtain rfl := List.mem_singleton.1 hL74
    refine GI_static [9, 10, 11, 12, 13, 14, 0, 1, 2, 3, 4, 5, 15, 16, 17, 18, 19, 20, 21, 22] [(0, pt v), (2, nt t), (3, nt now), (9, pt q43), (10, pt bd61), (44, .pointer (some ⟨bd61, 2, none⟩))] (by kernel_rfl) ?_
    refine GI_cell 3 (.tmp 44) 2 (nt ((d15).n)) (some 45) (by kernel_rfl) (by kernel_rfl) (by kernel_rfl) qhm63 (fun f => f) (m := 1) (by kernel_rfl) rfl ?_
    refine GI_static [13, 14, 0, 1, 2, 3, 4, 5, 15, 16, 17, 18, 19, 20, 21, 22] [(0, pt v), (2, nt t), (3, nt now), (9, pt q43), (10, pt bd61), (45, nt ((d15).n)), (48, .pointer (some ⟨bd61, 1, none⟩))] (by kernel_rfl) ?_
    refine GI_cell 3 (.tmp 48) 1 (nt ((d15).level)) (some 49) (by kernel_rfl) (by kernel_rfl) (by kernel_rfl) qhm63 (fun f => f) (m := 1) (by kernel_rfl) rfl ?_
    refine GI_call { callee := (Callee.value (Operand.func 38)), args := #[(Operand.tmp 45), (Operand.tmp 49)], argTypes := #[3, 3] } 38 #[nt ((d15).n), nt ((d15).level)] (some 50) (by kernel_rfl) (by kernel_rfl) (by kernel_rfl) (by kernel_rfl) (cvVotes_spec ((d15).n) ((d15).level) _) ?_
    rintro _ w72 ⟨rfl, rfl⟩
    refine ⟨_, rfl, K76, ?_⟩
    refine GI_static [4, 5, 15, 16, 17, 18, 19, 20, 21, 22] [(2, nt t), (3, nt now), (9, pt q43), (10, pt bd61), (36, pt v), (39, pt bd61), (50, nt (cvVotes ((d15).n) ((d15).level)))] (by kernel_rfl) ?_
    refine GI_cell 3 (.tmp 39) 0 (nt ((d15).to)) (some 40) (by kernel_rfl) (by kernel_rfl) (by kernel_rfl) qhm63 (fun f => f) (m := 1) (by kernel_rfl) rfl ?_
    refine GI_static [19, 20, 21, 22] [(3, nt now), (9, pt q43), (10, pt bd61), (36, pt v), (40, nt ((d15).to)), (41, nt t), (51, nt (IntKind.i64.wrap (0 - (cvVotes ((d15).n) ((d15).level))))), (54, .pointer (some ⟨bd61, 2, none⟩))] (by kernel_rfl) ?_
    refine GI_cell 3 (.tmp 54) 2 (nt ((d15).n)) (some 55) (by kernel_rfl) (by kernel_rfl) (by kernel_rfl) qhm63 (fun f => f) (m := 1) (by kernel_rfl) rfl ?_
    refine GI_static [22] [(3, nt now), (9, pt q43), (10, pt bd61), (36, pt v), (40, nt ((d15).to)), (41, nt t), (57, .agg #[nt (IntKind.i64.wrap (0 - (cvVotes ((d15).n) ((d15).level)))), nt (IntKind.i64.wrap (0 - ((d15).n)))])] (by kernel_rfl) ?_
    refine GI_final 22 (by kernel_rfl) (by kernel_rfl) ?_
    refine OI_call { callee := (Callee.value (Operand.func 37)), args := #[(Operand.tmp 36), (Operand.tmp 40), (Operand.tmp 41), (Operand.tmp 57)], argTypes := #[29, 3, 3, 74] } 37 #[pt v, nt ((d15).to), nt t, .agg #[nt (IntKind.i64.wrap (0 - (cvVotes ((d15).n) ((d15).level)))), nt (IntKind.i64.wrap (0 - ((d15).n)))]] (some 58) (by kernel_rfl) (by kernel_rfl) (by kernel_rfl) (gets_spec F45 v P44 (s.setR who t { (s.rc who t) with d := none }) ((d15).to) t (Wgt.mk (IntKind.i64.wrap (0 - (cvVotes ((d15).n) ((d15).level)))) (IntKind.i64.wrap (0 - ((d15).n)))) _ ho69 (hinv.dels _ _ _ hd14).1 (by omega)) ?_
    rintro _ w84 ⟨rfl, P86, hpp90, hgv91, hmn92, hdl93, ⟨F87, ho88, hfr89⟩, hk85⟩
    refine ⟨_, rfl, ?_⟩
    have hsz94 := Keep.size hk85
    replace hK0 := Keep.fresh hK0 hk85 (fun i hi hs => by rcases rel58 i hs with h | h; exact h; (exfalso; omega))
    have own96 : ∀ q, F87 q → 0 ≤ q := fun q hq => by rcases hfr89 q hq with h | h; (have h1 := own57 q h; have h2 := lt56 q h; omega); omega
    have lt95 := Vot.lt ho88
    have rel97 : ∀ q, F87 q → F q ∨ w.heap.size ≤ q := fun q hq => by rcases hfr89 q hq with h | h; exact rel58 q h; exact .inr (by omega)
    have hqq43w84 := hmn92 _ _ _ hgc48
    obtain ⟨hF99, hm98⟩ := Vot.recN ho88 hqq43w84 (by rw [getsS_d]; exact (by rw [show (s.setR who t { (s.rc who t) with d := none }).rc who t = r70 from ((updR_self _ _ _ _).trans hr70.symm)]; first | done | exact (by rw [hr70])))
    have hq43lt := hm98.lt
    have hloq43 := lt95 _ hF99
    have hoq43 := own96 _ hF99
    have hdkbd61 := hdl93 bd61 _ hm63
    have hbd61lt := hdkbd61.lt
    refine OI_end rfl ?_
    refine X_then ?_
    refine V_seq ?_
    refine V_draws (acts [6, 13]) none_ [[2, 3, 4, 5, 6, 0, 1, 7, 8, 9, 10, 11, 12, 13]] (by kernel_rfl) (by repeat first | exact sure_body (by rintro _ _ ⟨h, _⟩; exact ⟨_, h⟩) | refine sure_then ?_ | refine sure_block ?_ | refine sure_join ?_) (by kernel_rfl) ?_
    intro w101 hk100 he102 L hL103
    have hsz104 := Keep.size hk100
    replace hm98 := hm98.keep hk100 (fun f => f)
    replace hdkbd61 := hdkbd61.keep hk100 (fun f => f)
    replace hK0 := Keep.tr hK0 (Keep.ofNone hk100)
    replace ho88 := Vot.keep ho88 hk100 (fun _ _ f => f)
    have qhm98 := hm98
    have qhdkbd61 := hdkbd61
    have K105 : Keep none_ w101 w101 := Keep.refl _ _
    obtain rfl := List.mem_singleton.1 hL103
    refine GI_static [5, 6, 0, 1, 7, 8, 9, 10, 11, 12, 13] [(3, nt now), (9, pt q43), (10, pt bd61), (63, .pointer (some ⟨bd61, 1, none⟩))] (by kernel_rfl) ?_
    refine GI_cell 3 (.tmp 63) 1 (nt ((d15).level)) (some 64) (by kernel_rfl) (by kernel_rfl) (by kernel_rfl) qhdkbd61 (fun f => f) (m := 1) (by kernel_rfl) rfl ?_
    refine GI_call { callee := (Callee.value (Operand.func 41)), args := #[(Operand.tmp 64), (Operand.const (Value.int IntKind.i64 8))], argTypes := #[3, 3] } 41 #[nt ((d15).level), nt 8] (some 65) (by kernel_rfl) (by kernel_rfl) (by kernel_rfl) (by kernel_rfl) (cvPeriod_spec ((d15).level) 8 _ (hinv.dels _ _ _ hd14).2.1) ?_
    rintro _ w101 ⟨rfl, rfl⟩
    refine ⟨_, rfl, K105, ?_⟩
    refine GI_static [11, 12, 13] [(3, nt now), (59, pt q43), (66, nt (IntKind.i64.wrap (now + (cvPeriod ((d15).level) 8)))), (69, .pointer (some ⟨bd61, 2, none⟩))] (by kernel_rfl) ?_
    refine GI_cell 3 (.tmp 69) 2 (nt ((d15).n)) (some 70) (by kernel_rfl) (by kernel_rfl) (by kernel_rfl) qhdkbd61 (fun f => f) (m := 1) (by kernel_rfl) rfl ?_
    refine GI_static [13] [(59, pt q43), (66, nt (IntKind.i64.wrap (now + (cvPeriod ((d15).level) 8)))), (70, nt ((d15).n)), (71, nt now)] (by kernel_rfl) ?_
    refine GI_final 13 (by kernel_rfl) (by kernel_rfl) ?_
    refine OI_call { callee := (Callee.value (Operand.func 40)), args := #[(Operand.tmp 59), (Operand.tmp 66), (Operand.tmp 70), (Operand.tmp 71)], argTypes := #[68, 3, 3, 3] } 40 #[pt q43, nt (IntKind.i64.wrap (now + (cvPeriod ((d15).level) 8))), nt ((d15).n), nt now] (some 72) (by kernel_rfl) (by kernel_rfl) (by kernel_rfl) (joins_spec q43 none ((getsS (s.setR who t { (s.rc who t) with d := none }) ((d15).to) t (Wgt.mk (IntKind.i64.wrap (0 - (cvVotes ((d15).n) ((d15).level)))) (IntKind.i64.wrap (0 - ((d15).n))))).rc who t) (IntKind.i64.wrap (now + (cvPeriod ((d15).level) 8))) ((d15).n) now _ hm98) ?_
    rintro _ w113 ⟨rfl, hn115, hk114⟩
    refine ⟨_, rfl, ?_⟩
    have hsz116 := Keep.size hk114
    replace hdkbd61 := hdkbd61.keep hk114 (by show ¬ (bd61 = q43); omega)
    replace hK0 := Keep.fresh hK0 hk114 (fun i hi hs => by have hs : F87 i := (by rw [show i = q43 from hs]; exact hF99); rcases rel97 i hs with h | h; exact h; (exfalso; omega))
    have ho117 := Vot.setRec (a := who) (t := t) (r' := (joinR ((getsS (s.setR who t { (s.rc who t) with d := none }) ((d15).to) t (Wgt.mk (IntKind.i64.wrap (0 - (cvVotes ((d15).n) ((d15).level)))) (IntKind.i64.wrap (0 - ((d15).n))))).rc who t) (IntKind.i64.wrap (now + (cvPeriod ((d15).level) 8))) ((d15).n) now)) (dp := none) (dp' := none) ho88 hqq43w84 hm98 hk114 (show Blk _ _ (RecS.cells none (joinR ((getsS (s.setR who t { (s.rc who t) with d := none }) ((d15).to) t (Wgt.mk (IntKind.i64.wrap (0 - (cvVotes ((d15).n) ((d15).level)))) (IntKind.i64.wrap (0 - ((d15).n))))).rc who t) (IntKind.i64.wrap (now + (cvPeriod ((d15).level) 8))) ((d15).n) now)) _ from hn115) (.inl ⟨rfl, by first | rfl | exact joinR_d _ _ _ _ | (rw [show (getsS (s.setR who t { (s.rc who t) with d := none }) ((d15).to) t (Wgt.mk (IntKind.i64.wrap (0 - (cvVotes ((d15).n) ((d15).level)))) (IntKind.i64.wrap (0 - ((d15).n))))).rc who t = ((getsS (s.setR who t { (s.rc who t) with d := none }) ((d15).to) t (Wgt.mk (IntKind.i64.wrap (0 - (cvVotes ((d15).n) ((d15).level)))) (IntKind.i64.wrap (0 - ((d15).n))))).rc who t) from rfl]) | (rw [show (getsS (s.setR who t { (s.rc who t) with d := none }) ((d15).to) t (Wgt.mk (IntKind.i64.wrap (0 - (cvVotes ((d15).n) ((d15).level)))) (IntKind.i64.wrap (0 - ((d15).n))))).rc who t = ((getsS (s.setR who t { (s.rc who t) with d := none }) ((d15).to) t (Wgt.mk (IntKind.i64.wrap (0 - (cvVotes ((d15).n) ((d15).level)))) (IntKind.i64.wrap (0 - ((d15).n))))).rc who t) from rfl]; exact joinR_d _ _ _ _)⟩)
    obtain ⟨r118, hr118⟩ : ∃ r9 : RecS, r9 = (joinR ((getsS (s.setR who t { (s.rc who t) with d := none }) ((d15).to) t (Wgt.mk (IntKind.i64.wrap (0 - (cvVotes ((d15).n) ((d15).level)))) (IntKind.i64.wrap (0 - ((d15).n))))).rc who t) (IntKind.i64.wrap (now + (cvPeriod ((d15).level) 8))) ((d15).n) now) := ⟨_, rfl⟩
    replace hn115 : Blk w113 q43 (RecS.cells none r118) 76 := by rw [hr118]; exact hn115
    have hq43lt := hn115.lt
    refine OI_end rfl ?_
    refine X_then ?_
    refine V_seq ?_
    refine V_region ?_
    refine OI_static 1 [(8, nt 0)] (by kernel_rfl) ?_
    refine OI_end rfl ?_
    refine X_then ?_
    refine V_ret ?_
    have hE119 : undE s who t = 0 := by unfold undE; rw [if_neg (by rintro (h9 | h9); exact h9 hg6; exact h9 hc12)]; rw [if_pos (by rw [hd14]; rfl)]
    exact X_return (nt 0) rfl ⟨by rw [hE119], ⟨F87, ⟨_, by rw [show undS s who t now = ((getsS (s.setR who t { (s.rc who t) with d := none }) ((d15).to) t (Wgt.mk (IntKind.i64.wrap (0 - (cvVotes ((d15).n) ((d15).level)))) (IntKind.i64.wrap (0 - ((d15).n))))).setR who t (joinR ((getsS (s.setR who t { (s.rc who t) with d := none }) ((d15).to) t (Wgt.mk (IntKind.i64.wrap (0 - (cvVotes ((d15).n) ((d15).level)))) (IntKind.i64.wrap (0 - ((d15).n))))).rc who t) (IntKind.i64.wrap (now + (cvPeriod ((d15).level) 8))) ((d15).n) now)) from by unfold undS; rw [hE119, if_pos rfl, hd14]; rfl]; exact ho117⟩, rel97⟩, hK0⟩
 ·
  refine OI_eq [(0, pt v), (1, nt who), (2, nt t), (3, nt now), (18, .bool true)] (by first | simp [hg6] | rfl) ?_
  refine OI_static 12 [(0, pt v), (1, nt who), (2, nt t), (3, nt now), (22, .bool true)] (by kernel_rfl) ?_
  refine OI_end rfl ?_
  refine X_then ?_
  refine V_true rfl ?_
  refine V_seq ?_
  refine V_region ?_
  refine OI_static 1 [(8, nt 1)] (by kernel_rfl) ?_
  refine OI_end rfl ?_
  refine X_then ?_
  refine V_ret ?_
  refine X_ret_then ?_
  have hE120 : undE s who t = 1 := by unfold undE; rw [if_pos (.inl hg6)]
  exact X_return (nt 1) rfl ⟨by rw [hE120], ⟨F, ⟨_, by rw [show undS s who t now = s from by unfold undS; rw [hE120, if_neg (by decide)]]; exact h⟩, hFr⟩, hK0⟩
end Go.Al


namespace Go.Al
open Go Go.RowKit Go.Proofs
theorem undelegate_specT (F : Nat → Prop) (v : Nat) (s : VS) (who t now : Int) (w : World) (h : VotT F w v s) : Calls Try.prog 16 #[.pointer (some ⟨v, 0, none⟩), .int .i64 who, .int .i64 t, .int .i64 now] w fun e w' => e = .returned (.int .i64 (undE s who t)) ∧ (∃ F', VotT F' w' v (undS s who t now) ∧ (∀ q, F' q → F q ∨ w.heap.size ≤ q)) ∧ Keep F w w' := by
  obtain ⟨h, ht⟩ := h
  refine ((let ⟨P, h⟩ := h; undelegate_at F v P s who t now w h)).mono ?_
  rintro e w' ⟨rfl, ⟨F', h1, h3⟩, hk⟩
  exact ⟨rfl, ⟨F', ⟨h1, ht.undS _ _ _⟩, h3⟩, hk⟩
end Go.Al


namespace Go.Al
open Go Go.RowKit Go.Proofs
set_option maxRecDepth 10000 in
set_option maxHeartbeats 1000000 in
theorem walk_VotingLends_same (who t n : Int) (w : World) : Calls Try.prog 6 #[.int .i64 who, .int .i64 who, .int .i64 t, .int .i64 n] w fun e w' => e = .returned (.bool true) ∧ Keep none_ w w' := by
 have hK0 : Keep none_ w w := Keep.refl _ _
 have hzhK0 := Keep.size hK0
 refine enterV Try.func6 rfl [nt who, nt who, nt t, nt n] 184 rfl rfl rfl ?_
 refine V_pick [(0, nt who), (1, nt who), (2, nt t), (3, nt n)] rfl ?_
 refine V_seq ?_
 refine V_region ?_
 refine OI_static 1 [(0, nt who), (1, nt who), (2, nt t), (3, nt n)] (by kernel_rfl) ?_
 refine OI_end rfl ?_
 refine X_then ?_
 refine V_seq ?_
 refine V_seq ?_
 refine V_region ?_
 refine OI_static 3 [(0, nt who), (1, nt who), (2, nt t), (3, nt n), (20, .bool (decide (who < 0)))] (by kernel_rfl) ?_
 by_cases hg1 : who < 0
 ·
  refine OI_eq [(0, nt who), (1, nt who), (2, nt t), (3, nt n), (20, .bool true)] (by first | simp [hg1] | rfl) ?_
  refine OI_static 30 [(0, nt who), (1, nt who), (2, nt t), (3, nt n), (47, .bool true)] (by kernel_rfl) ?_
  refine OI_end rfl ?_
  refine X_then ?_
  refine V_true rfl ?_
  refine V_seq ?_
  refine V_region ?_
  refine OI_static 1 [(8, .bool true)] (by kernel_rfl) ?_
  refine OI_end rfl ?_
  refine X_then ?_
  refine V_ret ?_
  refine X_ret_then ?_
  exact X_return (.bool true) rfl ⟨rfl, hK0⟩
 ·
  refine OI_eq [(0, nt who), (1, nt who), (2, nt t), (3, nt n), (20, .bool false)] (by first | simp [hg1] | rfl) ?_
  refine OI_static 7 [(0, nt who), (1, nt who), (2, nt t), (3, nt n), (24, .bool (decide (who > 3)))] (by kernel_rfl) ?_
  by_cases hg2 : who > 3
  ·
   refine OI_eq [(0, nt who), (1, nt who), (2, nt t), (3, nt n), (24, .bool true)] (by first | simp [hg2] | rfl) ?_
   refine OI_static 30 [(0, nt who), (1, nt who), (2, nt t), (3, nt n), (47, .bool true)] (by kernel_rfl) ?_
   refine OI_end rfl ?_
   refine X_then ?_
   refine V_true rfl ?_
   refine V_seq ?_
   refine V_region ?_
   refine OI_static 1 [(8, .bool true)] (by kernel_rfl) ?_
   refine OI_end rfl ?_
   refine X_then ?_
   refine V_ret ?_
   refine X_ret_then ?_
   exact X_return (.bool true) rfl ⟨rfl, hK0⟩
  ·
   refine OI_eq [(0, nt who), (1, nt who), (2, nt t), (3, nt n), (24, .bool false)] (by first | simp [hg2] | rfl) ?_
   refine OI_static 11 [(0, nt who), (1, nt who), (2, nt t), (3, nt n), (28, .bool (decide (who < 0)))] (by kernel_rfl) ?_
   by_cases hg3 : who < 0
   ·
    refine OI_eq [(0, nt who), (1, nt who), (2, nt t), (3, nt n), (28, .bool true)] (by first | simp [hg3] | rfl) ?_
    refine OI_static 30 [(0, nt who), (1, nt who), (2, nt t), (3, nt n), (47, .bool true)] (by kernel_rfl) ?_
    refine OI_end rfl ?_
    refine X_then ?_
    refine V_true rfl ?_
    refine V_seq ?_
    refine V_region ?_
    refine OI_static 1 [(8, .bool true)] (by kernel_rfl) ?_
    refine OI_end rfl ?_
    refine X_then ?_
    refine V_ret ?_
    refine X_ret_then ?_
    exact X_return (.bool true) rfl ⟨rfl, hK0⟩
   ·
    refine OI_eq [(0, nt who), (1, nt who), (2, nt t), (3, nt n), (28, .bool false)] (by first | simp [hg3] | rfl) ?_
    refine OI_static 15 [(0, nt who), (1, nt who), (2, nt t), (3, nt n), (32, .bool (decide (who > 3)))] (by kernel_rfl) ?_
    by_cases hg4 : who > 3
    ·
     refine OI_eq [(0, nt who), (1, nt who), (2, nt t), (3, nt n), (32, .bool true)] (by first | simp [hg4] | rfl) ?_
     refine OI_static 30 [(0, nt who), (1, nt who), (2, nt t), (3, nt n), (47, .bool true)] (by kernel_rfl) ?_
     refine OI_end rfl ?_
     refine X_then ?_
     refine V_true rfl ?_
     refine V_seq ?_
     refine V_region ?_
     refine OI_static 1 [(8, .bool true)] (by kernel_rfl) ?_
     refine OI_end rfl ?_
     refine X_then ?_
     refine V_ret ?_
     refine X_ret_then ?_
     exact X_return (.bool true) rfl ⟨rfl, hK0⟩
    ·
     refine OI_eq [(0, nt who), (1, nt who), (2, nt t), (3, nt n), (32, .bool false)] (by first | simp [hg4] | rfl) ?_
     refine OI_static 19 [(0, nt who), (1, nt who), (2, nt t), (3, nt n), (36, .bool (decide (t < 0)))] (by kernel_rfl) ?_
     by_cases hg5 : t < 0
     ·
      refine OI_eq [(0, nt who), (1, nt who), (2, nt t), (3, nt n), (36, .bool true)] (by first | simp [hg5] | rfl) ?_
      refine OI_static 30 [(0, nt who), (1, nt who), (2, nt t), (3, nt n), (47, .bool true)] (by kernel_rfl) ?_
      refine OI_end rfl ?_
      refine X_then ?_
      refine V_true rfl ?_
      refine V_seq ?_
      refine V_region ?_
      refine OI_static 1 [(8, .bool true)] (by kernel_rfl) ?_
      refine OI_end rfl ?_
      refine X_then ?_
      refine V_ret ?_
      refine X_ret_then ?_
      exact X_return (.bool true) rfl ⟨rfl, hK0⟩
     ·
      refine OI_eq [(0, nt who), (1, nt who), (2, nt t), (3, nt n), (36, .bool false)] (by first | simp [hg5] | rfl) ?_
      refine OI_static 23 [(0, nt who), (1, nt who), (2, nt t), (3, nt n), (40, .bool (decide (t ≥ 4)))] (by kernel_rfl) ?_
      by_cases hg6 : t ≥ 4
      ·
       refine OI_eq [(0, nt who), (1, nt who), (2, nt t), (3, nt n), (40, .bool true)] (by first | simp [hg6] | rfl) ?_
       refine OI_static 30 [(0, nt who), (1, nt who), (2, nt t), (3, nt n), (47, .bool true)] (by kernel_rfl) ?_
       refine OI_end rfl ?_
       refine X_then ?_
       refine V_true rfl ?_
       refine V_seq ?_
       refine V_region ?_
       refine OI_static 1 [(8, .bool true)] (by kernel_rfl) ?_
       refine OI_end rfl ?_
       refine X_then ?_
       refine V_ret ?_
       refine X_ret_then ?_
       exact X_return (.bool true) rfl ⟨rfl, hK0⟩
      ·
       refine OI_eq [(0, nt who), (1, nt who), (2, nt t), (3, nt n), (40, .bool false)] (by first | simp [hg6] | rfl) ?_
       refine OI_static 27 [(0, nt who), (1, nt who), (2, nt t), (3, nt n), (44, .bool (decide (n < 0)))] (by kernel_rfl) ?_
       by_cases hg7 : n < 0
       ·
        refine OI_eq [(0, nt who), (1, nt who), (2, nt t), (3, nt n), (44, .bool true)] (by first | simp [hg7] | rfl) ?_
        refine OI_static 30 [(0, nt who), (1, nt who), (2, nt t), (3, nt n), (47, .bool true)] (by kernel_rfl) ?_
        refine OI_end rfl ?_
        refine X_then ?_
        refine V_true rfl ?_
        refine V_seq ?_
        refine V_region ?_
        refine OI_static 1 [(8, .bool true)] (by kernel_rfl) ?_
        refine OI_end rfl ?_
        refine X_then ?_
        refine V_ret ?_
        refine X_ret_then ?_
        exact X_return (.bool true) rfl ⟨rfl, hK0⟩
       ·
        refine OI_eq [(0, nt who), (1, nt who), (2, nt t), (3, nt n), (44, .bool false)] (by first | simp [hg7] | rfl) ?_
        refine OI_static 30 [(0, nt who), (1, nt who), (2, nt t), (3, nt n), (47, .bool (decide (n > 100)))] (by kernel_rfl) ?_
        refine OI_end rfl ?_
        refine X_then ?_
        refine V_if (n > 100) (by kernel_rfl) (fun hc8 => ?_) (fun hc8 => ?_)
        ·
         refine V_seq ?_
         refine V_region ?_
         refine OI_static 1 [(8, .bool true)] (by kernel_rfl) ?_
         refine OI_end rfl ?_
         refine X_then ?_
         refine V_ret ?_
         refine X_ret_then ?_
         exact X_return (.bool true) rfl ⟨rfl, hK0⟩
        ·
         refine V_skip ?_
         refine X_then ?_
         refine V_seq ?_
         refine V_region ?_
         refine OI_slit (E := 3) (zv := nt 0) (sz := 1) (by_ := 8) 24 4 #[(0, (Operand.const (Value.int IntKind.i64 100))), (1, (Operand.const (Value.int IntKind.i64 100))), (2, (Operand.const (Value.int IntKind.i64 100))), (3, (Operand.const (Value.int IntKind.i64 100)))] [nt 100, nt 100, nt 100, nt 100] [nt 100, nt 100, nt 100, nt 100] (some 48) (by kernel_rfl) (by kernel_rfl) (by kernel_rfl) (by omega) rfl (by omega) (by intro v hv; simp only [List.mem_cons, List.not_mem_nil, or_false] at hv; rcases hv with rfl | rfl | rfl | rfl <;> rfl) (by kernel_rfl) rfl ?_
         intro b9 w9 e9 hb9 k9 z9
         have hsz10 := Keep.size k9
         replace hK0 := Keep.tr hK0 (Keep.ofNone k9)
         have hb9lt := hb9.lt
         refine OI_call { callee := (Callee.value (Operand.func 7)), args := #[(Operand.tmp 48)], argTypes := #[24] } 7 #[.slice (some ⟨b9, 0, none⟩) 4 4] (some 49) (by kernel_rfl) (by kernel_rfl) (by kernel_rfl) (begin_weak (some ⟨b9, 0, none⟩) 4 [100, 100, 100, 100] _ (slt_blk (xs := [100, 100, 100, 100]) (f := intc) hb9 (fun _ => rfl) rfl).arg (by simp)) ?_
         rintro _ w13 ⟨b15, v16, l17, F18, G19, xv20, yv21, rfl, hb22, ho23, hl24, hk14, hge25, hF26, hG27, hd28⟩
         refine ⟨_, rfl, ?_⟩
         have hsz29 := Keep.size hk14
         replace hb9 := hb9.keep hk14 (fun f => f)
         replace hK0 := Keep.tr hK0 (Keep.ofNone hk14)
         have hb15lt := hb22.lt
         have own30 : ∀ q, F18 q → w9.heap.size ≤ q ∧ q ≠ b9 ∧ q ≠ b15 := fun q hq => by have h1 := hF26 q hq; omega
         have lt31 := VotT.lt ho23
         have hb15lt := hb22.lt
         have own32 : ∀ q, G19 q → w9.heap.size ≤ q ∧ q ≠ b9 ∧ q ≠ b15 := fun q hq => by have h1 := hG27 q hq; omega
         have lt33 := Led.lt hl24
         replace hl24 : Led G19 w13 l17 lnX ([] : List Ci) := by rw [ln0] at hl24; exact hl24
         refine OI_static 3 [(0, nt who), (1, nt who), (2, nt t), (3, nt n), (9, pt b15)] (by kernel_rfl) ?_
         refine OI_end rfl ?_
         refine X_then ?_
         refine V_seq ?_
         refine V_seq ?_
         refine V_region ?_
         refine OI_static 2 [(0, nt who), (1, nt who), (2, nt t), (3, nt n), (9, pt b15), (51, .bool false)] (by kernel_rfl) ?_
         refine OI_end rfl ?_
         refine X_then ?_
         refine V_false rfl ?_
         refine V_skip ?_
         refine X_then ?_
         refine V_seq ?_
         refine V_region ?_
         refine OI_static 3 [(0, nt who), (1, nt who), (2, nt t), (3, nt n), (9, pt b15), (54, .pointer (some ⟨b15, 1, none⟩))] (by kernel_rfl) ?_
         refine OI_cell 29 (.tmp 54) 1 (pt v16) (some 55) (by kernel_rfl) (by kernel_rfl) hb22 (m := 1) (by kernel_rfl) rfl ?_
         refine OI_static 5 [(0, nt who), (1, nt who), (2, nt t), (3, nt n), (9, pt b15), (55, pt v16), (56, nt t)] (by kernel_rfl) ?_
         have hm9 := ln_m (t := t) (by omega)
         refine OI_call { callee := (Callee.value (Operand.func 8)), args := #[(Operand.tmp 55), (Operand.const (Value.int IntKind.i64 0)), (Operand.tmp 56)], argTypes := #[29, 3, 3] } 8 #[pt v16, nt 0, nt t] (some 57) (by kernel_rfl) (by kernel_rfl) (by kernel_rfl) (open_specT F18 v16 VS.zero 0 t _ ho23) ?_
         rintro _ w36 ⟨rfl, ⟨F38, ho39, hfr40⟩, hk37⟩
         refine ⟨_, rfl, ?_⟩
         have hsz41 := Keep.size hk37
         replace hb22 := hb22.keep hk37 (fun hs => by have h1 := own30 _ hs; have h2 := lt31 _ hs; omega)
         replace hK0 := Keep.fresh hK0 hk37 (by intro i hi hs; first | exact hs | (exfalso; have h1 := own30 i hs; have h2 := lt31 i hs; omega) | (have h1 := own30 i hs; have h2 := lt31 i hs; show _ ∨ _; omega))
         replace hl24 := Led.keep hl24 hk37 (fun q hq hs => hd28 q hs hq)
         have own43 : ∀ q, F38 q → w9.heap.size ≤ q ∧ q ≠ b15 := fun q hq => by rcases hfr40 q hq with h | h; (have h1 := own30 q h; have h2 := lt31 q h; omega); omega
         have lt42 := VotT.lt ho39
         have dis44 : ∀ q, F38 q → ¬ G19 q := fun q h1 h2 => by rcases hfr40 q h1 with h | h; exact hd28 q h h2; (have h4 := lt33 q h2; omega)
         refine OI_end rfl ?_
         refine X_then ?_
         refine V_seq ?_
         refine V_region ?_
         refine OI_static 3 [(0, nt who), (1, nt who), (2, nt t), (3, nt n), (9, pt b15), (60, .pointer (some ⟨b15, 1, none⟩))] (by kernel_rfl) ?_
         refine OI_cell 29 (.tmp 60) 1 (pt v16) (some 61) (by kernel_rfl) (by kernel_rfl) hb22 (m := 1) (by kernel_rfl) rfl ?_
         have hw45 : IntKind.i64.wrap (t + 1) = t + 1 := (wrap64_id (by omega) (by omega)).trans (by omega)
         refine OI_static 6 [(0, nt who), (1, nt who), (2, nt t), (3, nt n), (9, pt b15), (61, pt v16), (63, nt (IntKind.i64.wrap (t + 1)))] (by kernel_rfl) ?_
         refine OI_eq [(0, nt who), (1, nt who), (2, nt t), (3, nt n), (9, pt b15), (61, pt v16), (63, nt (t + 1))] (by rw [hw45]) ?_
         refine OI_static 7 [(0, nt who), (1, nt who), (2, nt t), (3, nt n), (9, pt b15), (61, pt v16), (64, nt (Int.tmod (t + 1) 4))] (by kernel_rfl) ?_
         refine OI_call { callee := (Callee.value (Operand.func 8)), args := #[(Operand.tmp 61), (Operand.const (Value.int IntKind.i64 1)), (Operand.tmp 64)], argTypes := #[29, 3, 3] } 8 #[pt v16, nt 1, nt (Int.tmod (t + 1) 4)] (some 65) (by kernel_rfl) (by kernel_rfl) (by kernel_rfl) (open_specT F38 v16 (openS VS.zero 0 t) 1 (Int.tmod (t + 1) 4) _ ho39) ?_
         rintro _ w48 ⟨rfl, ⟨F50, ho51, hfr52⟩, hk49⟩
         refine ⟨_, rfl, ?_⟩
         have hsz53 := Keep.size hk49
         replace hb22 := hb22.keep hk49 (fun hs => by have h1 := own43 _ hs; have h2 := lt42 _ hs; omega)
         replace hK0 := Keep.fresh hK0 hk49 (by intro i hi hs; first | exact hs | (exfalso; have h1 := own43 i hs; have h2 := lt42 i hs; omega) | (have h1 := own43 i hs; have h2 := lt42 i hs; show _ ∨ _; omega))
         replace hl24 := Led.keep hl24 hk49 (fun q hq hs => dis44 q hs hq)
         have own55 : ∀ q, F50 q → w9.heap.size ≤ q ∧ q ≠ b15 := fun q hq => by rcases hfr52 q hq with h | h; (have h1 := own43 q h; have h2 := lt42 q h; omega); omega
         have lt54 := VotT.lt ho51
         have dis56 : ∀ q, F50 q → ¬ G19 q := fun q h1 h2 => by rcases hfr52 q h1 with h | h; exact dis44 q h h2; (have h4 := lt33 q h2; omega)
         replace ho51 : VotT F50 w48 v16 (lnS1 t (Int.tmod (t + 1) 4)) := by rw [show openS (openS VS.zero 0 t) 1 (Int.tmod (t + 1) 4) = (lnS1 t (Int.tmod (t + 1) 4)) from ln_open (by omega) hm9.1] at ho51; exact ho51
         refine OI_end rfl ?_
         refine X_then ?_
         refine V_seq ?_
         refine V_region ?_
         refine OI_static 2 [(0, nt who), (1, nt who), (2, nt t), (3, nt n), (9, pt b15), (67, .agg #[nt 1, .bool true, nt 1, nt n, nt 0, nt 0])] (by kernel_rfl) ?_
         refine OI_alloc 26 (.agg #[nt 0, .bool false, nt 0, nt 0, nt 0, nt 0]) [nt 0, .bool false, nt 0, nt 0, nt 0, nt 0] (some 10) (by kernel_rfl) (by kernel_rfl) (by kernel_rfl) ?_
         intro b57 w57 e57 hb57 k57 z57
         have hsz58 := Keep.size k57
         replace hb22 := hb22.keep k57 (fun f => f)
         replace hK0 := Keep.tr hK0 (Keep.ofNone k57)
         replace hl24 := Led.keep hl24 k57 (fun _ _ f => f)
         replace ho51 := VotT.keep ho51 k57 (fun _ _ f => f)
         have hb57lt := hb57.lt
         refine OI_set (m := 6) (kd := true) 26 (.tmp 10) (.tmp 67) 0 (.agg #[nt 1, .bool true, nt 1, nt n, nt 0, nt 0]) [nt 1, .bool true, nt 1, nt n, nt 0, nt 0] none (by kernel_rfl) (by kernel_rfl) (by kernel_rfl) hb57 (by kernel_rfl) (by kernel_rfl) (by kernel_rfl) (Nat.le_of_ble_eq_true (by kernel_rfl)) (by simp [Value.oneCell']) ?_
         intro w59 hb57_62 hk60 hz61
         replace hb57_62 : Blk w59 b57 [nt 1, .bool true, nt 1, nt n, nt 0, nt 0] 26 := hb57_62
         have hsz63 := Keep.size hk60
         replace hb22 := hb22.keep hk60 (by show ¬ (_ = _); omega)
         replace hK0 := Keep.fresh hK0 hk60 (by intro i hi hs; first | exact hs | exact Or.inl hs | exact Or.inr hs | (exfalso; have hs2 : i = b57 := hs; omega))
         replace hl24 := Led.keep hl24 hk60 (fun q hq hs => by have hs : q = b57 := hs; have g0 := own32 q hq; have g1 := lt33 q hq; omega)
         replace ho51 := VotT.keep ho51 hk60 (fun q hq hs => by have hs : q = b57 := hs; have g0 := own55 q hq; have g1 := lt54 q hq; omega)
         refine OI_end rfl ?_
         refine X_then ?_
         refine V_seq ?_
         refine V_draws (acts [12]) none_ [[0, 1, 2, 3, 4, 5, 6, 7, 8, 9, 10, 11, 12, 13]] (by kernel_rfl) (by repeat first | exact sure_body (by rintro _ _ ⟨h, _⟩; exact ⟨_, h⟩) | refine sure_then ?_ | refine sure_block ?_ | refine sure_join ?_) (by kernel_rfl) ?_
         intro w65 hk64 he66 L hL67
         have hsz68 := Keep.size hk64
         replace hb22 := hb22.keep hk64 (fun f => f)
         replace hb57_62 := hb57_62.keep hk64 (fun f => f)
         replace hK0 := Keep.tr hK0 (Keep.ofNone hk64)
         replace hl24 := Led.keep hl24 hk64 (fun _ _ f => f)
         replace ho51 := VotT.keep ho51 hk64 (fun _ _ f => f)
         have qhb22 := hb22
         have qhb57_62 := hb57_62
         have K69 : Keep none_ w65 w65 := Keep.refl _ _
         obtain rfl := List.mem_singleton.1 hL67
         refine GI_static [3, 4, 5, 6, 7, 8, 9, 10, 11, 12, 13] [(0, nt who), (1, nt who), (2, nt t), (3, nt n), (9, pt b15), (10, pt b57), (70, .pointer (some ⟨b15, 1, none⟩))] (by kernel_rfl) ?_
         refine GI_cell 29 (.tmp 70) 1 (pt v16) (some 71) (by kernel_rfl) (by kernel_rfl) (by kernel_rfl) qhb22 (fun f => f) (m := 1) (by kernel_rfl) rfl ?_
         refine GI_static [7, 8, 9, 10, 11, 12, 13] [(0, nt who), (1, nt who), (2, nt t), (3, nt n), (9, pt b15), (10, pt b57), (71, pt v16), (74, pt b15)] (by kernel_rfl) ?_
         refine GI_cell 28 (.tmp 74) 0 (pt l17) (some 75) (by kernel_rfl) (by kernel_rfl) (by kernel_rfl) qhb22 (fun f => f) (m := 1) (by kernel_rfl) rfl ?_
         refine GI_static [12, 13] [(0, nt who), (1, nt who), (2, nt t), (3, nt n), (9, pt b15), (10, pt b57), (71, pt v16), (75, pt l17), (76, nt who), (77, nt t), (78, nt who), (79, nt n)] (by kernel_rfl) ?_
         have s3a := ln_same (xs := lnX) (s := (lnS1 t (Int.tmod (t + 1) 4))) (who := who) (t := t) (n := n)
         obtain ⟨s3b, s3c⟩ := del_not s3a (by decide)
         refine GI_call0 { callee := (Callee.value (Operand.func 12)), args := #[(Operand.tmp 71), (Operand.tmp 75), (Operand.tmp 76), (Operand.tmp 77), (Operand.tmp 78), (Operand.const (Value.int IntKind.i64 3)), (Operand.tmp 79)], argTypes := #[29, 28, 3, 3, 3, 3, 3] } 12 #[pt v16, pt l17, nt who, nt t, nt who, nt 3, nt n] (some 80) (by kernel_rfl) (by kernel_rfl) (by kernel_rfl) (by kernel_rfl) (by kernel_rfl) (delegate_spec F50 G19 v16 l17 (lnS1 t (Int.tmod (t + 1) 4)) lnX ([] : List Ci) who t who 3 n _ ho51 hl24 dis56 (by first | decide | exact Nat.lt_trans (raise_lt (m := 1) (by decide) _ _ _) (by decide) | exact Nat.lt_trans (raise_lt (raise_lt (m := 1) (by decide) _ _ _) _ _ _) (by decide) | exact Nat.lt_trans (raise_lt (raise_lt (raise_lt (m := 1) (by decide) _ _ _) _ _ _) _ _ _) (by decide) | exact Nat.lt_trans (raise_lt (raise_lt (raise_lt (raise_lt (m := 1) (by decide) _ _ _) _ _ _) _ _ _) _ _ _) (by decide))) ?_
         rintro _ w72 ⟨rfl, ⟨F74, F77, ho75, ho78, hfr76, hfr79, hdis80⟩, hk73⟩
         refine ⟨_, rfl, ?_⟩
         have hsz81 := Keep.size hk73
         replace hb22 := hb22.keep hk73 (fun hs => by rcases hs with hs | hs; (have u0 := own55 _ hs; have u1 := lt54 _ hs; omega); (have u0 := own32 _ hs; have u1 := lt33 _ hs; omega))
         replace hb57_62 := hb57_62.keep hk73 (fun hs => by rcases hs with hs | hs; (have u0 := own55 _ hs; have u1 := lt54 _ hs; omega); (have u0 := own32 _ hs; have u1 := lt33 _ hs; omega))
         replace hK0 := Keep.fresh hK0 hk73 (by intro i hi hs; first | exact hs | (rcases hs with hs | hs; (have u0 := own55 i hs; have u1 := lt54 i hs; omega); (have u0 := own32 i hs; have u1 := lt33 i hs; omega)))
         have own83 : ∀ q, F74 q → w9.heap.size ≤ q ∧ q ≠ b15 ∧ q ≠ b57 := fun q hq => by rcases hfr76 q hq with h | h; (have h1 := own55 q h; have h2 := lt54 q h; omega); omega
         have lt82 := VotT.lt ho75
         have own85 : ∀ q, F77 q → w9.heap.size ≤ q ∧ q ≠ b15 ∧ q ≠ b57 := fun q hq => by rcases hfr79 q hq with h | h; (have h1 := own32 q h; have h2 := lt33 q h; omega); omega
         have lt84 := Led.lt ho78
         replace ho75 : VotT F74 w72 v16 (lnS1 t (Int.tmod (t + 1) 4)) := by rw [s3b] at ho75; exact ho75
         replace ho78 : Led F77 w72 l17 lnX ([] : List Ci) := by rw [s3c _] at ho78; exact ho78
         refine GI_pick [(0, nt who), (1, nt who), (2, nt t), (3, nt n), (9, pt b15), (10, pt b57), (80, nt (delE lnX (lnS1 t (Int.tmod (t + 1) 4)) who t who 3 n))] (by kernel_rfl) ?_
         refine GI_eq [(0, nt who), (1, nt who), (2, nt t), (3, nt n), (9, pt b15), (10, pt b57), (80, nt 1)] (by rw [s3a]) ?_
         refine GI_static [] [(0, nt who), (1, nt who), (2, nt t), (3, nt n), (9, pt b15), (10, pt b57), (11, nt 1)] (by kernel_rfl) ?_
         refine GI_end ?_
         refine X_then ?_
         refine V_seq ?_
         refine V_seq ?_
         refine V_region ?_
         refine OI_static 3 [(0, nt who), (1, nt who), (2, nt t), (3, nt n), (9, pt b15), (10, pt b57), (11, nt 1), (83, .bool (decide (who = who)))] (by kernel_rfl) ?_
         refine OI_end rfl ?_
         refine X_then ?_
         refine V_eq [(0, nt who), (1, nt who), (2, nt t), (3, nt n), (9, pt b15), (10, pt b57), (11, nt 1), (83, .bool true)] (by rw [decide_eq_true (rfl : who = who)]) ?_
         refine V_true rfl ?_
         refine V_seq ?_
         refine V_region ?_
         refine OI_static 3 [(86, .bool true)] (by kernel_rfl) ?_
         refine OI_call { callee := (Callee.value (Operand.func 11)), args := #[], argTypes := #[] } 11 #[] (some 87) (by kernel_rfl) (by kernel_rfl) (by kernel_rfl) (known_spec _) ?_
         rintro _ w87 ⟨rfl, hk88⟩
         refine ⟨_, rfl, ?_⟩
         have hsz89 := Keep.size hk88
         replace hK0 := Keep.tr hK0 (Keep.ofNone hk88)
         replace ho75 := VotT.keep ho75 hk88 (fun _ _ f => f)
         replace ho78 := Led.keep ho78 hk88 (fun _ _ f => f)
         refine OI_static 6 [(8, .bool true)] (by kernel_rfl) ?_
         refine OI_end rfl ?_
         refine X_then ?_
         refine V_ret ?_
         refine X_ret_then ?_
         exact X_return (.bool true) rfl ⟨rfl, hK0⟩

set_option maxRecDepth 10000 in
set_option maxHeartbeats 1000000 in
theorem walk_VotingLends_other (who to t n : Int) (hne : who ≠ to) (w : World) : Calls Try.prog 6 #[.int .i64 who, .int .i64 to, .int .i64 t, .int .i64 n] w fun e w' => e = .returned (.bool true) ∧ Keep none_ w w' := by
 have hK0 : Keep none_ w w := Keep.refl _ _
 have hzhK0 := Keep.size hK0
 refine enterV Try.func6 rfl [nt who, nt to, nt t, nt n] 184 rfl rfl rfl ?_
 refine V_pick [(0, nt who), (1, nt to), (2, nt t), (3, nt n)] rfl ?_
 refine V_seq ?_
 refine V_region ?_
 refine OI_static 1 [(0, nt who), (1, nt to), (2, nt t), (3, nt n)] (by kernel_rfl) ?_
 refine OI_end rfl ?_
 refine X_then ?_
 refine V_seq ?_
 refine V_seq ?_
 refine V_region ?_
 refine OI_static 3 [(0, nt who), (1, nt to), (2, nt t), (3, nt n), (20, .bool (decide (who < 0)))] (by kernel_rfl) ?_
 by_cases hg1 : who < 0
 ·
  refine OI_eq [(0, nt who), (1, nt to), (2, nt t), (3, nt n), (20, .bool true)] (by first | simp [hg1] | rfl) ?_
  refine OI_static 30 [(0, nt who), (1, nt to), (2, nt t), (3, nt n), (47, .bool true)] (by kernel_rfl) ?_
  refine OI_end rfl ?_
  refine X_then ?_
  refine V_true rfl ?_
  refine V_seq ?_
  refine V_region ?_
  refine OI_static 1 [(8, .bool true)] (by kernel_rfl) ?_
  refine OI_end rfl ?_
  refine X_then ?_
  refine V_ret ?_
  refine X_ret_then ?_
  exact X_return (.bool true) rfl ⟨rfl, hK0⟩
 ·
  refine OI_eq [(0, nt who), (1, nt to), (2, nt t), (3, nt n), (20, .bool false)] (by first | simp [hg1] | rfl) ?_
  refine OI_static 7 [(0, nt who), (1, nt to), (2, nt t), (3, nt n), (24, .bool (decide (who > 3)))] (by kernel_rfl) ?_
  by_cases hg2 : who > 3
  ·
   refine OI_eq [(0, nt who), (1, nt to), (2, nt t), (3, nt n), (24, .bool true)] (by first | simp [hg2] | rfl) ?_
   refine OI_static 30 [(0, nt who), (1, nt to), (2, nt t), (3, nt n), (47, .bool true)] (by kernel_rfl) ?_
   refine OI_end rfl ?_
   refine X_then ?_
   refine V_true rfl ?_
   refine V_seq ?_
   refine V_region ?_
   refine OI_static 1 [(8, .bool true)] (by kernel_rfl) ?_
   refine OI_end rfl ?_
   refine X_then ?_
   refine V_ret ?_
   refine X_ret_then ?_
   exact X_return (.bool true) rfl ⟨rfl, hK0⟩
  ·
   refine OI_eq [(0, nt who), (1, nt to), (2, nt t), (3, nt n), (24, .bool false)] (by first | simp [hg2] | rfl) ?_
   refine OI_static 11 [(0, nt who), (1, nt to), (2, nt t), (3, nt n), (28, .bool (decide (to < 0)))] (by kernel_rfl) ?_
   by_cases hg3 : to < 0
   ·
    refine OI_eq [(0, nt who), (1, nt to), (2, nt t), (3, nt n), (28, .bool true)] (by first | simp [hg3] | rfl) ?_
    refine OI_static 30 [(0, nt who), (1, nt to), (2, nt t), (3, nt n), (47, .bool true)] (by kernel_rfl) ?_
    refine OI_end rfl ?_
    refine X_then ?_
    refine V_true rfl ?_
    refine V_seq ?_
    refine V_region ?_
    refine OI_static 1 [(8, .bool true)] (by kernel_rfl) ?_
    refine OI_end rfl ?_
    refine X_then ?_
    refine V_ret ?_
    refine X_ret_then ?_
    exact X_return (.bool true) rfl ⟨rfl, hK0⟩
   ·
    refine OI_eq [(0, nt who), (1, nt to), (2, nt t), (3, nt n), (28, .bool false)] (by first | simp [hg3] | rfl) ?_
    refine OI_static 15 [(0, nt who), (1, nt to), (2, nt t), (3, nt n), (32, .bool (decide (to > 3)))] (by kernel_rfl) ?_
    by_cases hg4 : to > 3
    ·
     refine OI_eq [(0, nt who), (1, nt to), (2, nt t), (3, nt n), (32, .bool true)] (by first | simp [hg4] | rfl) ?_
     refine OI_static 30 [(0, nt who), (1, nt to), (2, nt t), (3, nt n), (47, .bool true)] (by kernel_rfl) ?_
     refine OI_end rfl ?_
     refine X_then ?_
     refine V_true rfl ?_
     refine V_seq ?_
     refine V_region ?_
     refine OI_static 1 [(8, .bool true)] (by kernel_rfl) ?_
     refine OI_end rfl ?_
     refine X_then ?_
     refine V_ret ?_
     refine X_ret_then ?_
     exact X_return (.bool true) rfl ⟨rfl, hK0⟩
    ·
     refine OI_eq [(0, nt who), (1, nt to), (2, nt t), (3, nt n), (32, .bool false)] (by first | simp [hg4] | rfl) ?_
     refine OI_static 19 [(0, nt who), (1, nt to), (2, nt t), (3, nt n), (36, .bool (decide (t < 0)))] (by kernel_rfl) ?_
     by_cases hg5 : t < 0
     ·
      refine OI_eq [(0, nt who), (1, nt to), (2, nt t), (3, nt n), (36, .bool true)] (by first | simp [hg5] | rfl) ?_
      refine OI_static 30 [(0, nt who), (1, nt to), (2, nt t), (3, nt n), (47, .bool true)] (by kernel_rfl) ?_
      refine OI_end rfl ?_
      refine X_then ?_
      refine V_true rfl ?_
      refine V_seq ?_
      refine V_region ?_
      refine OI_static 1 [(8, .bool true)] (by kernel_rfl) ?_
      refine OI_end rfl ?_
      refine X_then ?_
      refine V_ret ?_
      refine X_ret_then ?_
      exact X_return (.bool true) rfl ⟨rfl, hK0⟩
     ·
      refine OI_eq [(0, nt who), (1, nt to), (2, nt t), (3, nt n), (36, .bool false)] (by first | simp [hg5] | rfl) ?_
      refine OI_static 23 [(0, nt who), (1, nt to), (2, nt t), (3, nt n), (40, .bool (decide (t ≥ 4)))] (by kernel_rfl) ?_
      by_cases hg6 : t ≥ 4
      ·
       refine OI_eq [(0, nt who), (1, nt to), (2, nt t), (3, nt n), (40, .bool true)] (by first | simp [hg6] | rfl) ?_
       refine OI_static 30 [(0, nt who), (1, nt to), (2, nt t), (3, nt n), (47, .bool true)] (by kernel_rfl) ?_
       refine OI_end rfl ?_
       refine X_then ?_
       refine V_true rfl ?_
       refine V_seq ?_
       refine V_region ?_
       refine OI_static 1 [(8, .bool true)] (by kernel_rfl) ?_
       refine OI_end rfl ?_
       refine X_then ?_
       refine V_ret ?_
       refine X_ret_then ?_
       exact X_return (.bool true) rfl ⟨rfl, hK0⟩
      ·
       refine OI_eq [(0, nt who), (1, nt to), (2, nt t), (3, nt n), (40, .bool false)] (by first | simp [hg6] | rfl) ?_
       refine OI_static 27 [(0, nt who), (1, nt to), (2, nt t), (3, nt n), (44, .bool (decide (n < 0)))] (by kernel_rfl) ?_
       by_cases hg7 : n < 0
       ·
        refine OI_eq [(0, nt who), (1, nt to), (2, nt t), (3, nt n), (44, .bool true)] (by first | simp [hg7] | rfl) ?_
        refine OI_static 30 [(0, nt who), (1, nt to), (2, nt t), (3, nt n), (47, .bool true)] (by kernel_rfl) ?_
        refine OI_end rfl ?_
        refine X_then ?_
        refine V_true rfl ?_
        refine V_seq ?_
        refine V_region ?_
        refine OI_static 1 [(8, .bool true)] (by kernel_rfl) ?_
        refine OI_end rfl ?_
        refine X_then ?_
        refine V_ret ?_
        refine X_ret_then ?_
        exact X_return (.bool true) rfl ⟨rfl, hK0⟩
       ·
        refine OI_eq [(0, nt who), (1, nt to), (2, nt t), (3, nt n), (44, .bool false)] (by first | simp [hg7] | rfl) ?_
        refine OI_static 30 [(0, nt who), (1, nt to), (2, nt t), (3, nt n), (47, .bool (decide (n > 100)))] (by kernel_rfl) ?_
        refine OI_end rfl ?_
        refine X_then ?_
        refine V_if (n > 100) (by kernel_rfl) (fun hc8 => ?_) (fun hc8 => ?_)
        ·
         refine V_seq ?_
         refine V_region ?_
         refine OI_static 1 [(8, .bool true)] (by kernel_rfl) ?_
         refine OI_end rfl ?_
         refine X_then ?_
         refine V_ret ?_
         refine X_ret_then ?_
         exact X_return (.bool true) rfl ⟨rfl, hK0⟩
        ·
         refine V_skip ?_
         refine X_then ?_
         refine V_seq ?_
         refine V_region ?_
         refine OI_slit (E := 3) (zv := nt 0) (sz := 1) (by_ := 8) 24 4 #[(0, (Operand.const (Value.int IntKind.i64 100))), (1, (Operand.const (Value.int IntKind.i64 100))), (2, (Operand.const (Value.int IntKind.i64 100))), (3, (Operand.const (Value.int IntKind.i64 100)))] [nt 100, nt 100, nt 100, nt 100] [nt 100, nt 100, nt 100, nt 100] (some 48) (by kernel_rfl) (by kernel_rfl) (by kernel_rfl) (by omega) rfl (by omega) (by intro v hv; simp only [List.mem_cons, List.not_mem_nil, or_false] at hv; rcases hv with rfl | rfl | rfl | rfl <;> rfl) (by kernel_rfl) rfl ?_
         intro b9 w9 e9 hb9 k9 z9
         have hsz10 := Keep.size k9
         replace hK0 := Keep.tr hK0 (Keep.ofNone k9)
         have hb9lt := hb9.lt
         refine OI_call { callee := (Callee.value (Operand.func 7)), args := #[(Operand.tmp 48)], argTypes := #[24] } 7 #[.slice (some ⟨b9, 0, none⟩) 4 4] (some 49) (by kernel_rfl) (by kernel_rfl) (by kernel_rfl) (begin_weak (some ⟨b9, 0, none⟩) 4 [100, 100, 100, 100] _ (slt_blk (xs := [100, 100, 100, 100]) (f := intc) hb9 (fun _ => rfl) rfl).arg (by simp)) ?_
         rintro _ w13 ⟨b15, v16, l17, F18, G19, xv20, yv21, rfl, hb22, ho23, hl24, hk14, hge25, hF26, hG27, hd28⟩
         refine ⟨_, rfl, ?_⟩
         have hsz29 := Keep.size hk14
         replace hb9 := hb9.keep hk14 (fun f => f)
         replace hK0 := Keep.tr hK0 (Keep.ofNone hk14)
         have hb15lt := hb22.lt
         have own30 : ∀ q, F18 q → w9.heap.size ≤ q ∧ q ≠ b9 ∧ q ≠ b15 := fun q hq => by have h1 := hF26 q hq; omega
         have lt31 := VotT.lt ho23
         have hb15lt := hb22.lt
         have own32 : ∀ q, G19 q → w9.heap.size ≤ q ∧ q ≠ b9 ∧ q ≠ b15 := fun q hq => by have h1 := hG27 q hq; omega
         have lt33 := Led.lt hl24
         replace hl24 : Led G19 w13 l17 lnX ([] : List Ci) := by rw [ln0] at hl24; exact hl24
         refine OI_static 3 [(0, nt who), (1, nt to), (2, nt t), (3, nt n), (9, pt b15)] (by kernel_rfl) ?_
         refine OI_end rfl ?_
         refine X_then ?_
         refine V_seq ?_
         refine V_seq ?_
         refine V_region ?_
         refine OI_static 2 [(0, nt who), (1, nt to), (2, nt t), (3, nt n), (9, pt b15), (51, .bool false)] (by kernel_rfl) ?_
         refine OI_end rfl ?_
         refine X_then ?_
         refine V_false rfl ?_
         refine V_skip ?_
         refine X_then ?_
         refine V_seq ?_
         refine V_region ?_
         refine OI_static 3 [(0, nt who), (1, nt to), (2, nt t), (3, nt n), (9, pt b15), (54, .pointer (some ⟨b15, 1, none⟩))] (by kernel_rfl) ?_
         refine OI_cell 29 (.tmp 54) 1 (pt v16) (some 55) (by kernel_rfl) (by kernel_rfl) hb22 (m := 1) (by kernel_rfl) rfl ?_
         refine OI_static 5 [(0, nt who), (1, nt to), (2, nt t), (3, nt n), (9, pt b15), (55, pt v16), (56, nt t)] (by kernel_rfl) ?_
         have hm9 := ln_m (t := t) (by omega)
         refine OI_call { callee := (Callee.value (Operand.func 8)), args := #[(Operand.tmp 55), (Operand.const (Value.int IntKind.i64 0)), (Operand.tmp 56)], argTypes := #[29, 3, 3] } 8 #[pt v16, nt 0, nt t] (some 57) (by kernel_rfl) (by kernel_rfl) (by kernel_rfl) (open_specT F18 v16 VS.zero 0 t _ ho23) ?_
         rintro _ w36 ⟨rfl, ⟨F38, ho39, hfr40⟩, hk37⟩
         refine ⟨_, rfl, ?_⟩
         have hsz41 := Keep.size hk37
         replace hb22 := hb22.keep hk37 (fun hs => by have h1 := own30 _ hs; have h2 := lt31 _ hs; omega)
         replace hK0 := Keep.fresh hK0 hk37 (by intro i hi hs; first | exact hs | (exfalso; have h1 := own30 i hs; have h2 := lt31 i hs; omega) | (have h1 := own30 i hs; have h2 := lt31 i hs; show _ ∨ _; omega))
         replace hl24 := Led.keep hl24 hk37 (fun q hq hs => hd28 q hs hq)
         have own43 : ∀ q, F38 q → w9.heap.size ≤ q ∧ q ≠ b15 := fun q hq => by rcases hfr40 q hq with h | h; (have h1 := own30 q h; have h2 := lt31 q h; omega); omega
         have lt42 := VotT.lt ho39
         have dis44 : ∀ q, F38 q → ¬ G19 q := fun q h1 h2 => by rcases hfr40 q h1 with h | h; exact hd28 q h h2; (have h4 := lt33 q h2; omega)
         refine OI_end rfl ?_
         refine X_then ?_
         refine V_seq ?_
         refine V_region ?_
         refine OI_static 3 [(0, nt who), (1, nt to), (2, nt t), (3, nt n), (9, pt b15), (60, .pointer (some ⟨b15, 1, none⟩))] (by kernel_rfl) ?_
         refine OI_cell 29 (.tmp 60) 1 (pt v16) (some 61) (by kernel_rfl) (by kernel_rfl) hb22 (m := 1) (by kernel_rfl) rfl ?_
         have hw45 : IntKind.i64.wrap (t + 1) = t + 1 := (wrap64_id (by omega) (by omega)).trans (by omega)
         refine OI_static 6 [(0, nt who), (1, nt to), (2, nt t), (3, nt n), (9, pt b15), (61, pt v16), (63, nt (IntKind.i64.wrap (t + 1)))] (by kernel_rfl) ?_
         refine OI_eq [(0, nt who), (1, nt to), (2, nt t), (3, nt n), (9, pt b15), (61, pt v16), (63, nt (t + 1))] (by rw [hw45]) ?_
         refine OI_static 7 [(0, nt who), (1, nt to), (2, nt t), (3, nt n), (9, pt b15), (61, pt v16), (64, nt (Int.tmod (t + 1) 4))] (by kernel_rfl) ?_
         refine OI_call { callee := (Callee.value (Operand.func 8)), args := #[(Operand.tmp 61), (Operand.const (Value.int IntKind.i64 1)), (Operand.tmp 64)], argTypes := #[29, 3, 3] } 8 #[pt v16, nt 1, nt (Int.tmod (t + 1) 4)] (some 65) (by kernel_rfl) (by kernel_rfl) (by kernel_rfl) (open_specT F38 v16 (openS VS.zero 0 t) 1 (Int.tmod (t + 1) 4) _ ho39) ?_
         rintro _ w48 ⟨rfl, ⟨F50, ho51, hfr52⟩, hk49⟩
         refine ⟨_, rfl, ?_⟩
         have hsz53 := Keep.size hk49
         replace hb22 := hb22.keep hk49 (fun hs => by have h1 := own43 _ hs; have h2 := lt42 _ hs; omega)
         replace hK0 := Keep.fresh hK0 hk49 (by intro i hi hs; first | exact hs | (exfalso; have h1 := own43 i hs; have h2 := lt42 i hs; omega) | (have h1 := own43 i hs; have h2 := lt42 i hs; show _ ∨ _; omega))
         replace hl24 := Led.keep hl24 hk49 (fun q hq hs => dis44 q hs hq)
         have own55 : ∀ q, F50 q → w9.heap.size ≤ q ∧ q ≠ b15 := fun q hq => by rcases hfr52 q hq with h | h; (have h1 := own43 q h; have h2 := lt42 q h; omega); omega
         have lt54 := VotT.lt ho51
         have dis56 : ∀ q, F50 q → ¬ G19 q := fun q h1 h2 => by rcases hfr52 q h1 with h | h; exact dis44 q h h2; (have h4 := lt33 q h2; omega)
         replace ho51 : VotT F50 w48 v16 (lnS1 t (Int.tmod (t + 1) 4)) := by rw [show openS (openS VS.zero 0 t) 1 (Int.tmod (t + 1) 4) = (lnS1 t (Int.tmod (t + 1) 4)) from ln_open (by omega) hm9.1] at ho51; exact ho51
         refine OI_end rfl ?_
         refine X_then ?_
         refine V_seq ?_
         refine V_region ?_
         refine OI_static 2 [(0, nt who), (1, nt to), (2, nt t), (3, nt n), (9, pt b15), (67, .agg #[nt 1, .bool true, nt 1, nt n, nt 0, nt 0])] (by kernel_rfl) ?_
         refine OI_alloc 26 (.agg #[nt 0, .bool false, nt 0, nt 0, nt 0, nt 0]) [nt 0, .bool false, nt 0, nt 0, nt 0, nt 0] (some 10) (by kernel_rfl) (by kernel_rfl) (by kernel_rfl) ?_
         intro b57 w57 e57 hb57 k57 z57
         have hsz58 := Keep.size k57
         replace hb22 := hb22.keep k57 (fun f => f)
         replace hK0 := Keep.tr hK0 (Keep.ofNone k57)
         replace hl24 := Led.keep hl24 k57 (fun _ _ f => f)
         replace ho51 := VotT.keep ho51 k57 (fun _ _ f => f)
         have hb57lt := hb57.lt
         refine OI_set (m := 6) (kd := true) 26 (.tmp 10) (.tmp 67) 0 (.agg #[nt 1, .bool true, nt 1, nt n, nt 0, nt 0]) [nt 1, .bool true, nt 1, nt n, nt 0, nt 0] none (by kernel_rfl) (by kernel_rfl) (by kernel_rfl) hb57 (by kernel_rfl) (by kernel_rfl) (by kernel_rfl) (Nat.le_of_ble_eq_true (by kernel_rfl)) (by simp [Value.oneCell']) ?_
         intro w59 hb57_62 hk60 hz61
         replace hb57_62 : Blk w59 b57 [nt 1, .bool true, nt 1, nt n, nt 0, nt 0] 26 := hb57_62
         have hsz63 := Keep.size hk60
         replace hb22 := hb22.keep hk60 (by show ¬ (_ = _); omega)
         replace hK0 := Keep.fresh hK0 hk60 (by intro i hi hs; first | exact hs | exact Or.inl hs | exact Or.inr hs | (exfalso; have hs2 : i = b57 := hs; omega))
         replace hl24 := Led.keep hl24 hk60 (fun q hq hs => by have hs : q = b57 := hs; have g0 := own32 q hq; have g1 := lt33 q hq; omega)
         replace ho51 := VotT.keep ho51 hk60 (fun q hq hs => by have hs : q = b57 := hs; have g0 := own55 q hq; have g1 := lt54 q hq; omega)
         refine OI_end rfl ?_
         refine X_then ?_
         refine V_seq ?_
         refine V_draws (acts [12]) none_ [[0, 1, 2, 3, 4, 5, 6, 7, 8, 9, 10, 11, 12, 13]] (by kernel_rfl) (by repeat first | exact sure_body (by rintro _ _ ⟨h, _⟩; exact ⟨_, h⟩) | refine sure_then ?_ | refine sure_block ?_ | refine sure_join ?_) (by kernel_rfl) ?_
         intro w65 hk64 he66 L hL67
         have hsz68 := Keep.size hk64
         replace hb22 := hb22.keep hk64 (fun f => f)
         replace hb57_62 := hb57_62.keep hk64 (fun f => f)
         replace hK0 := Keep.tr hK0 (Keep.ofNone hk64)
         replace hl24 := Led.keep hl24 hk64 (fun _ _ f => f)
         replace ho51 := VotT.keep ho51 hk64 (fun _ _ f => f)
         have qhb22 := hb22
         have qhb57_62 := hb57_62
         have K69 : Keep none_ w65 w65 := Keep.refl _ _
         obtain rfl := List.mem_singleton.1 hL67
         refine GI_static [3, 4, 5, 6, 7, 8, 9, 10, 11, 12, 13] [(0, nt who), (1, nt to), (2, nt t), (3, nt n), (9, pt b15), (10, pt b57), (70, .pointer (some ⟨b15, 1, none⟩))] (by kernel_rfl) ?_
         refine GI_cell 29 (.tmp 70) 1 (pt v16) (some 71) (by kernel_rfl) (by kernel_rfl) (by kernel_rfl) qhb22 (fun f => f) (m := 1) (by kernel_rfl) rfl ?_
         refine GI_static [7, 8, 9, 10, 11, 12, 13] [(0, nt who), (1, nt to), (2, nt t), (3, nt n), (9, pt b15), (10, pt b57), (71, pt v16), (74, pt b15)] (by kernel_rfl) ?_
         refine GI_cell 28 (.tmp 74) 0 (pt l17) (some 75) (by kernel_rfl) (by kernel_rfl) (by kernel_rfl) qhb22 (fun f => f) (m := 1) (by kernel_rfl) rfl ?_
         refine GI_static [12, 13] [(0, nt who), (1, nt to), (2, nt t), (3, nt n), (9, pt b15), (10, pt b57), (71, pt v16), (75, pt l17), (76, nt who), (77, nt t), (78, nt to), (79, nt n)] (by kernel_rfl) ?_
         obtain ⟨s3a, s3b, s3c⟩ := ln_a (who := who) (to := to) (t := t) (m := (Int.tmod (t + 1) 4)) (n := n) ⟨by omega, by omega, by omega, hm9.2, by omega, hne⟩
         refine GI_call0 { callee := (Callee.value (Operand.func 12)), args := #[(Operand.tmp 71), (Operand.tmp 75), (Operand.tmp 76), (Operand.tmp 77), (Operand.tmp 78), (Operand.const (Value.int IntKind.i64 3)), (Operand.tmp 79)], argTypes := #[29, 28, 3, 3, 3, 3, 3] } 12 #[pt v16, pt l17, nt who, nt t, nt to, nt 3, nt n] (some 80) (by kernel_rfl) (by kernel_rfl) (by kernel_rfl) (by kernel_rfl) (by kernel_rfl) (delegate_spec F50 G19 v16 l17 (lnS1 t (Int.tmod (t + 1) 4)) lnX ([] : List Ci) who t to 3 n _ ho51 hl24 dis56 (by first | decide | exact Nat.lt_trans (raise_lt (m := 1) (by decide) _ _ _) (by decide) | exact Nat.lt_trans (raise_lt (raise_lt (m := 1) (by decide) _ _ _) _ _ _) (by decide) | exact Nat.lt_trans (raise_lt (raise_lt (raise_lt (m := 1) (by decide) _ _ _) _ _ _) _ _ _) (by decide) | exact Nat.lt_trans (raise_lt (raise_lt (raise_lt (raise_lt (m := 1) (by decide) _ _ _) _ _ _) _ _ _) _ _ _) (by decide))) ?_
         rintro _ w72 ⟨rfl, ⟨F74, F77, ho75, ho78, hfr76, hfr79, hdis80⟩, hk73⟩
         refine ⟨_, rfl, ?_⟩
         have hsz81 := Keep.size hk73
         replace hb22 := hb22.keep hk73 (fun hs => by rcases hs with hs | hs; (have u0 := own55 _ hs; have u1 := lt54 _ hs; omega); (have u0 := own32 _ hs; have u1 := lt33 _ hs; omega))
         replace hb57_62 := hb57_62.keep hk73 (fun hs => by rcases hs with hs | hs; (have u0 := own55 _ hs; have u1 := lt54 _ hs; omega); (have u0 := own32 _ hs; have u1 := lt33 _ hs; omega))
         replace hK0 := Keep.fresh hK0 hk73 (by intro i hi hs; first | exact hs | (rcases hs with hs | hs; (have u0 := own55 i hs; have u1 := lt54 i hs; omega); (have u0 := own32 i hs; have u1 := lt33 i hs; omega)))
         have own83 : ∀ q, F74 q → w9.heap.size ≤ q ∧ q ≠ b15 ∧ q ≠ b57 := fun q hq => by rcases hfr76 q hq with h | h; (have h1 := own55 q h; have h2 := lt54 q h; omega); omega
         have lt82 := VotT.lt ho75
         have own85 : ∀ q, F77 q → w9.heap.size ≤ q ∧ q ≠ b15 ∧ q ≠ b57 := fun q hq => by rcases hfr79 q hq with h | h; (have h1 := own32 q h; have h2 := lt33 q h; omega); omega
         have lt84 := Led.lt ho78
         replace ho75 : VotT F74 w72 v16 (lnS2 who to t (Int.tmod (t + 1) 4) n) := by rw [s3b] at ho75; exact ho75
         replace ho78 : Led F77 w72 l17 lnX (raiseC ([] : List Ci) who t n) := by rw [s3c _] at ho78; exact ho78
         refine GI_pick [(0, nt who), (1, nt to), (2, nt t), (3, nt n), (9, pt b15), (10, pt b57), (80, nt (delE lnX (lnS1 t (Int.tmod (t + 1) 4)) who t to 3 n))] (by kernel_rfl) ?_
         refine GI_eq [(0, nt who), (1, nt to), (2, nt t), (3, nt n), (9, pt b15), (10, pt b57), (80, nt 0)] (by rw [s3a]) ?_
         refine GI_static [] [(0, nt who), (1, nt to), (2, nt t), (3, nt n), (9, pt b15), (10, pt b57), (11, nt 0)] (by kernel_rfl) ?_
         refine GI_end ?_
         refine X_then ?_
         refine V_seq ?_
         refine V_seq ?_
         refine V_region ?_
         refine OI_static 3 [(0, nt who), (1, nt to), (2, nt t), (3, nt n), (9, pt b15), (10, pt b57), (11, nt 0), (83, .bool (decide (who = to)))] (by kernel_rfl) ?_
         refine OI_end rfl ?_
         refine X_then ?_
         refine V_eq [(0, nt who), (1, nt to), (2, nt t), (3, nt n), (9, pt b15), (10, pt b57), (11, nt 0), (83, .bool false)] (by rw [decide_eq_false hne]) ?_
         refine V_false rfl ?_
         refine V_skip ?_
         refine X_then ?_
         refine V_seq ?_
         refine V_draws (acts [10]) none_ [[0, 1, 2, 3, 4, 5, 6, 7, 8, 9, 10, 11]] (by kernel_rfl) (by repeat first | exact sure_body (by rintro _ _ ⟨h, _⟩; exact ⟨_, h⟩) | refine sure_then ?_ | refine sure_block ?_ | refine sure_join ?_) (by kernel_rfl) ?_
         intro w88 hk87 he89 L hL90
         have hsz91 := Keep.size hk87
         replace hb22 := hb22.keep hk87 (fun f => f)
         replace hb57_62 := hb57_62.keep hk87 (fun f => f)
         replace hK0 := Keep.tr hK0 (Keep.ofNone hk87)
         replace ho75 := VotT.keep ho75 hk87 (fun _ _ f => f)
         replace ho78 := Led.keep ho78 hk87 (fun _ _ f => f)
         have qhb22 := hb22
         have qhb57_62 := hb57_62
         have K92 : Keep none_ w88 w88 := Keep.refl _ _
         obtain rfl := List.mem_singleton.1 hL90
         refine GI_static [3, 4, 5, 6, 7, 8, 9, 10, 11] [(0, nt who), (1, nt to), (2, nt t), (3, nt n), (9, pt b15), (10, pt b57), (11, nt 0), (91, .pointer (some ⟨b15, 1, none⟩))] (by kernel_rfl) ?_
         refine GI_cell 29 (.tmp 91) 1 (pt v16) (some 92) (by kernel_rfl) (by kernel_rfl) (by kernel_rfl) qhb22 (fun f => f) (m := 1) (by kernel_rfl) rfl ?_
         refine GI_static [7, 8, 9, 10, 11] [(0, nt who), (1, nt to), (2, nt t), (3, nt n), (9, pt b15), (10, pt b57), (11, nt 0), (92, pt v16), (95, pt b15)] (by kernel_rfl) ?_
         refine GI_cell 28 (.tmp 95) 0 (pt l17) (some 96) (by kernel_rfl) (by kernel_rfl) (by kernel_rfl) qhb22 (fun f => f) (m := 1) (by kernel_rfl) rfl ?_
         refine GI_static [9, 10, 11] [(0, nt who), (1, nt to), (2, nt t), (3, nt n), (9, pt b15), (10, pt b57), (11, nt 0), (92, pt v16), (96, pt l17), (97, nt who)] (by kernel_rfl) ?_
         refine GI_agg 26 (.tmp 10) 0 [nt 1, .bool true, nt 1, nt n, nt 0, nt 0] (some 98) (by kernel_rfl) (by kernel_rfl) (by kernel_rfl) qhb57_62 (fun f => f) (m := 6) (by kernel_rfl) rfl rfl ?_
         have s4a := ln_b (who := who) (to := to) (t := t) (m := (Int.tmod (t + 1) 4)) (n := n) ⟨by omega, by omega, by omega, hm9.2, by omega, hne⟩
         obtain ⟨s4b, s4c⟩ := vote_not s4a (by decide)
         refine GI_call0 { callee := (Callee.value (Operand.func 9)), args := #[(Operand.tmp 92), (Operand.tmp 96), (Operand.tmp 97), (Operand.const (Value.int IntKind.i64 0)), (Operand.tmp 98)], argTypes := #[29, 28, 3, 3, 26] } 9 #[pt v16, pt l17, nt who, nt 0, .agg #[nt 1, .bool true, nt 1, nt n, nt 0, nt 0]] (some 99) (by kernel_rfl) (by kernel_rfl) (by kernel_rfl) (by kernel_rfl) (by kernel_rfl) (vote_spec F74 F77 v16 l17 (lnS2 who to t (Int.tmod (t + 1) 4) n) lnX (raiseC ([] : List Ci) who t n) who 0 (Vt.mk 1 true 1 n 0 0) _ ho75 ho78 hdis80 (by first | decide | exact Nat.lt_trans (raise_lt (m := 1) (by decide) _ _ _) (by decide) | exact Nat.lt_trans (raise_lt (raise_lt (m := 1) (by decide) _ _ _) _ _ _) (by decide) | exact Nat.lt_trans (raise_lt (raise_lt (raise_lt (m := 1) (by decide) _ _ _) _ _ _) _ _ _) (by decide) | exact Nat.lt_trans (raise_lt (raise_lt (raise_lt (raise_lt (m := 1) (by decide) _ _ _) _ _ _) _ _ _) _ _ _) (by decide))) ?_
         rintro _ w95 ⟨rfl, ⟨F97, F100, ho98, ho101, hfr99, hfr102, hdis103⟩, hk96⟩
         refine ⟨_, rfl, ?_⟩
         have hsz104 := Keep.size hk96
         replace hb22 := hb22.keep hk96 (fun hs => by rcases hs with hs | hs; (have u0 := own83 _ hs; have u1 := lt82 _ hs; omega); (have u0 := own85 _ hs; have u1 := lt84 _ hs; omega))
         replace hb57_62 := hb57_62.keep hk96 (fun hs => by rcases hs with hs | hs; (have u0 := own83 _ hs; have u1 := lt82 _ hs; omega); (have u0 := own85 _ hs; have u1 := lt84 _ hs; omega))
         replace hK0 := Keep.fresh hK0 hk96 (by intro i hi hs; first | exact hs | (rcases hs with hs | hs; (have u0 := own83 i hs; have u1 := lt82 i hs; omega); (have u0 := own85 i hs; have u1 := lt84 i hs; omega)))
         have own106 : ∀ q, F97 q → w9.heap.size ≤ q ∧ q ≠ b15 ∧ q ≠ b57 := fun q hq => by rcases hfr99 q hq with h | h; (have h1 := own83 q h; have h2 := lt82 q h; omega); omega
         have lt105 := VotT.lt ho98
         have own108 : ∀ q, F100 q → w9.heap.size ≤ q ∧ q ≠ b15 ∧ q ≠ b57 := fun q hq => by rcases hfr102 q hq with h | h; (have h1 := own85 q h; have h2 := lt84 q h; omega); omega
         have lt107 := Led.lt ho101
         replace ho98 : VotT F97 w95 v16 (lnS2 who to t (Int.tmod (t + 1) 4) n) := by rw [show voteS lnX (lnS2 who to t (Int.tmod (t + 1) 4) n) who 0 (Vt.mk 1 true 1 n 0 0) = _ from s4b] at ho98; exact ho98
         replace ho101 : Led F100 w95 l17 lnX (raiseC ([] : List Ci) who t n) := by rw [show voteC lnX (raiseC ([] : List Ci) who t n) (lnS2 who to t (Int.tmod (t + 1) 4) n) who 0 (Vt.mk 1 true 1 n 0 0) = _ from s4c _] at ho101; exact ho101
         refine GI_pick [(0, nt who), (1, nt to), (2, nt t), (3, nt n), (9, pt b15), (10, pt b57), (11, nt 0), (99, nt (voteE lnX (lnS2 who to t (Int.tmod (t + 1) 4) n) who 0 (Vt.mk 1 true 1 n 0 0)))] (by kernel_rfl) ?_
         refine GI_eq [(0, nt who), (1, nt to), (2, nt t), (3, nt n), (9, pt b15), (10, pt b57), (11, nt 0), (99, nt 5)] (by rw [show voteE lnX (lnS2 who to t (Int.tmod (t + 1) 4) n) who 0 (Vt.mk 1 true 1 n 0 0) = 5 from s4a]) ?_
         refine GI_static [] [(0, nt who), (1, nt to), (2, nt t), (3, nt n), (9, pt b15), (10, pt b57), (11, nt 0), (12, nt 5)] (by kernel_rfl) ?_
         refine GI_end ?_
         refine X_then ?_
         refine V_seq ?_
         refine V_draws (acts [10]) none_ [[0, 1, 2, 3, 4, 5, 6, 7, 8, 9, 10, 11]] (by kernel_rfl) (by repeat first | exact sure_body (by rintro _ _ ⟨h, _⟩; exact ⟨_, h⟩) | refine sure_then ?_ | refine sure_block ?_ | refine sure_join ?_) (by kernel_rfl) ?_
         intro w110 hk109 he111 L hL112
         have hsz113 := Keep.size hk109
         replace hb22 := hb22.keep hk109 (fun f => f)
         replace hb57_62 := hb57_62.keep hk109 (fun f => f)
         replace hK0 := Keep.tr hK0 (Keep.ofNone hk109)
         replace ho98 := VotT.keep ho98 hk109 (fun _ _ f => f)
         replace ho101 := Led.keep ho101 hk109 (fun _ _ f => f)
         have qhb22 := hb22
         have qhb57_62 := hb57_62
         have K114 : Keep none_ w110 w110 := Keep.refl _ _
         obtain rfl := List.mem_singleton.1 hL112
         refine GI_static [3, 4, 5, 6, 7, 8, 9, 10, 11] [(0, nt who), (1, nt to), (2, nt t), (3, nt n), (9, pt b15), (10, pt b57), (11, nt 0), (12, nt 5), (102, .pointer (some ⟨b15, 1, none⟩))] (by kernel_rfl) ?_
         refine GI_cell 29 (.tmp 102) 1 (pt v16) (some 103) (by kernel_rfl) (by kernel_rfl) (by kernel_rfl) qhb22 (fun f => f) (m := 1) (by kernel_rfl) rfl ?_
         refine GI_static [7, 8, 9, 10, 11] [(0, nt who), (1, nt to), (2, nt t), (3, nt n), (9, pt b15), (10, pt b57), (11, nt 0), (12, nt 5), (103, pt v16), (106, pt b15)] (by kernel_rfl) ?_
         refine GI_cell 28 (.tmp 106) 0 (pt l17) (some 107) (by kernel_rfl) (by kernel_rfl) (by kernel_rfl) qhb22 (fun f => f) (m := 1) (by kernel_rfl) rfl ?_
         refine GI_static [9, 10, 11] [(0, nt who), (1, nt to), (2, nt t), (3, nt n), (9, pt b15), (10, pt b57), (11, nt 0), (12, nt 5), (103, pt v16), (107, pt l17), (108, nt who)] (by kernel_rfl) ?_
         refine GI_agg 26 (.tmp 10) 0 [nt 1, .bool true, nt 1, nt n, nt 0, nt 0] (some 109) (by kernel_rfl) (by kernel_rfl) (by kernel_rfl) qhb57_62 (fun f => f) (m := 6) (by kernel_rfl) rfl rfl ?_
         obtain ⟨s5a, s5b, s5c⟩ := ln_c (who := who) (to := to) (t := t) (m := (Int.tmod (t + 1) 4)) (n := n) ⟨by omega, by omega, by omega, hm9.2, by omega, hne⟩
         refine GI_call0 { callee := (Callee.value (Operand.func 9)), args := #[(Operand.tmp 103), (Operand.tmp 107), (Operand.tmp 108), (Operand.const (Value.int IntKind.i64 1)), (Operand.tmp 109)], argTypes := #[29, 28, 3, 3, 26] } 9 #[pt v16, pt l17, nt who, nt 1, .agg #[nt 1, .bool true, nt 1, nt n, nt 0, nt 0]] (some 110) (by kernel_rfl) (by kernel_rfl) (by kernel_rfl) (by kernel_rfl) (by kernel_rfl) (vote_spec F97 F100 v16 l17 (lnS2 who to t (Int.tmod (t + 1) 4) n) lnX (raiseC ([] : List Ci) who t n) who 1 (Vt.mk 1 true 1 n 0 0) _ ho98 ho101 hdis103 (by first | decide | exact Nat.lt_trans (raise_lt (m := 1) (by decide) _ _ _) (by decide) | exact Nat.lt_trans (raise_lt (raise_lt (m := 1) (by decide) _ _ _) _ _ _) (by decide) | exact Nat.lt_trans (raise_lt (raise_lt (raise_lt (m := 1) (by decide) _ _ _) _ _ _) _ _ _) (by decide) | exact Nat.lt_trans (raise_lt (raise_lt (raise_lt (raise_lt (m := 1) (by decide) _ _ _) _ _ _) _ _ _) _ _ _) (by decide))) ?_
         rintro _ w117 ⟨rfl, ⟨F119, F122, ho120, ho123, hfr121, hfr124, hdis125⟩, hk118⟩
         refine ⟨_, rfl, ?_⟩
         have hsz126 := Keep.size hk118
         replace hb22 := hb22.keep hk118 (fun hs => by rcases hs with hs | hs; (have u0 := own106 _ hs; have u1 := lt105 _ hs; omega); (have u0 := own108 _ hs; have u1 := lt107 _ hs; omega))
         replace hb57_62 := hb57_62.keep hk118 (fun hs => by rcases hs with hs | hs; (have u0 := own106 _ hs; have u1 := lt105 _ hs; omega); (have u0 := own108 _ hs; have u1 := lt107 _ hs; omega))
         replace hK0 := Keep.fresh hK0 hk118 (by intro i hi hs; first | exact hs | (rcases hs with hs | hs; (have u0 := own106 i hs; have u1 := lt105 i hs; omega); (have u0 := own108 i hs; have u1 := lt107 i hs; omega)))
         have own128 : ∀ q, F119 q → w9.heap.size ≤ q ∧ q ≠ b15 ∧ q ≠ b57 := fun q hq => by rcases hfr121 q hq with h | h; (have h1 := own106 q h; have h2 := lt105 q h; omega); omega
         have lt127 := VotT.lt ho120
         have own130 : ∀ q, F122 q → w9.heap.size ≤ q ∧ q ≠ b15 ∧ q ≠ b57 := fun q hq => by rcases hfr124 q hq with h | h; (have h1 := own108 q h; have h2 := lt107 q h; omega); omega
         have lt129 := Led.lt ho123
         replace ho120 : VotT F119 w117 v16 (lnS3 who to t (Int.tmod (t + 1) 4) n) := by rw [show voteS lnX (lnS2 who to t (Int.tmod (t + 1) 4) n) who 1 (Vt.mk 1 true 1 n 0 0) = _ from s5b] at ho120; exact ho120
         replace ho123 : Led F122 w117 l17 lnX (raiseC (raiseC ([] : List Ci) who t n) who (Int.tmod (t + 1) 4) (capI (lnV n))) := by rw [show voteC lnX (raiseC ([] : List Ci) who t n) (lnS2 who to t (Int.tmod (t + 1) 4) n) who 1 (Vt.mk 1 true 1 n 0 0) = _ from s5c _] at ho123; exact ho123
         refine GI_pick [(0, nt who), (1, nt to), (2, nt t), (3, nt n), (9, pt b15), (10, pt b57), (11, nt 0), (12, nt 5), (110, nt (voteE lnX (lnS2 who to t (Int.tmod (t + 1) 4) n) who 1 (Vt.mk 1 true 1 n 0 0)))] (by kernel_rfl) ?_
         refine GI_eq [(0, nt who), (1, nt to), (2, nt t), (3, nt n), (9, pt b15), (10, pt b57), (11, nt 0), (12, nt 5), (110, nt 0)] (by rw [show voteE lnX (lnS2 who to t (Int.tmod (t + 1) 4) n) who 1 (Vt.mk 1 true 1 n 0 0) = 0 from s5a]) ?_
         refine GI_static [] [(0, nt who), (1, nt to), (2, nt t), (3, nt n), (9, pt b15), (10, pt b57), (11, nt 0), (12, nt 5), (13, nt 0)] (by kernel_rfl) ?_
         refine GI_end ?_
         refine X_then ?_
         refine V_seq ?_
         refine V_draws (acts [12]) none_ [[0, 1, 2, 3, 4, 5, 6, 7, 8, 9, 10, 11, 12, 13]] (by kernel_rfl) (by repeat first | exact sure_body (by rintro _ _ ⟨h, _⟩; exact ⟨_, h⟩) | refine sure_then ?_ | refine sure_block ?_ | refine sure_join ?_) (by kernel_rfl) ?_
         intro w132 hk131 he133 L hL134
         have hsz135 := Keep.size hk131
         replace hb22 := hb22.keep hk131 (fun f => f)
         replace hb57_62 := hb57_62.keep hk131 (fun f => f)
         replace hK0 := Keep.tr hK0 (Keep.ofNone hk131)
         replace ho120 := VotT.keep ho120 hk131 (fun _ _ f => f)
         replace ho123 := Led.keep ho123 hk131 (fun _ _ f => f)
         have qhb22 := hb22
         have qhb57_62 := hb57_62
         have K136 : Keep none_ w132 w132 := Keep.refl _ _
         obtain rfl := List.mem_singleton.1 hL134
         refine GI_static [3, 4, 5, 6, 7, 8, 9, 10, 11, 12, 13] [(0, nt who), (1, nt to), (2, nt t), (3, nt n), (9, pt b15), (10, pt b57), (11, nt 0), (12, nt 5), (13, nt 0), (113, .pointer (some ⟨b15, 1, none⟩))] (by kernel_rfl) ?_
         refine GI_cell 29 (.tmp 113) 1 (pt v16) (some 114) (by kernel_rfl) (by kernel_rfl) (by kernel_rfl) qhb22 (fun f => f) (m := 1) (by kernel_rfl) rfl ?_
         refine GI_static [7, 8, 9, 10, 11, 12, 13] [(0, nt who), (1, nt to), (2, nt t), (3, nt n), (9, pt b15), (10, pt b57), (11, nt 0), (12, nt 5), (13, nt 0), (114, pt v16), (117, pt b15)] (by kernel_rfl) ?_
         refine GI_cell 28 (.tmp 117) 0 (pt l17) (some 118) (by kernel_rfl) (by kernel_rfl) (by kernel_rfl) qhb22 (fun f => f) (m := 1) (by kernel_rfl) rfl ?_
         refine GI_static [12, 13] [(0, nt who), (1, nt to), (2, nt t), (3, nt n), (9, pt b15), (10, pt b57), (11, nt 0), (12, nt 5), (13, nt 0), (114, pt v16), (118, pt l17), (119, nt who), (120, nt t), (121, nt to), (122, nt n)] (by kernel_rfl) ?_
         have s6a := ln_d (who := who) (to := to) (t := t) (m := (Int.tmod (t + 1) 4)) (n := n) ⟨by omega, by omega, by omega, hm9.2, by omega, hne⟩
         obtain ⟨s6b, s6c⟩ := del_not s6a (by decide)
         refine GI_call0 { callee := (Callee.value (Operand.func 12)), args := #[(Operand.tmp 114), (Operand.tmp 118), (Operand.tmp 119), (Operand.tmp 120), (Operand.tmp 121), (Operand.const (Value.int IntKind.i64 3)), (Operand.tmp 122)], argTypes := #[29, 28, 3, 3, 3, 3, 3] } 12 #[pt v16, pt l17, nt who, nt t, nt to, nt 3, nt n] (some 123) (by kernel_rfl) (by kernel_rfl) (by kernel_rfl) (by kernel_rfl) (by kernel_rfl) (delegate_spec F119 F122 v16 l17 (lnS3 who to t (Int.tmod (t + 1) 4) n) lnX (raiseC (raiseC ([] : List Ci) who t n) who (Int.tmod (t + 1) 4) (capI (lnV n))) who t to 3 n _ ho120 ho123 hdis125 (by first | decide | exact Nat.lt_trans (raise_lt (m := 1) (by decide) _ _ _) (by decide) | exact Nat.lt_trans (raise_lt (raise_lt (m := 1) (by decide) _ _ _) _ _ _) (by decide) | exact Nat.lt_trans (raise_lt (raise_lt (raise_lt (m := 1) (by decide) _ _ _) _ _ _) _ _ _) (by decide) | exact Nat.lt_trans (raise_lt (raise_lt (raise_lt (raise_lt (m := 1) (by decide) _ _ _) _ _ _) _ _ _) _ _ _) (by decide))) ?_
         rintro _ w139 ⟨rfl, ⟨F141, F144, ho142, ho145, hfr143, hfr146, hdis147⟩, hk140⟩
         refine ⟨_, rfl, ?_⟩
         have hsz148 := Keep.size hk140
         replace hb22 := hb22.keep hk140 (fun hs => by rcases hs with hs | hs; (have u0 := own128 _ hs; have u1 := lt127 _ hs; omega); (have u0 := own130 _ hs; have u1 := lt129 _ hs; omega))
         replace hb57_62 := hb57_62.keep hk140 (fun hs => by rcases hs with hs | hs; (have u0 := own128 _ hs; have u1 := lt127 _ hs; omega); (have u0 := own130 _ hs; have u1 := lt129 _ hs; omega))
         replace hK0 := Keep.fresh hK0 hk140 (by intro i hi hs; first | exact hs | (rcases hs with hs | hs; (have u0 := own128 i hs; have u1 := lt127 i hs; omega); (have u0 := own130 i hs; have u1 := lt129 i hs; omega)))
         have own150 : ∀ q, F141 q → w9.heap.size ≤ q ∧ q ≠ b15 ∧ q ≠ b57 := fun q hq => by rcases hfr143 q hq with h | h; (have h1 := own128 q h; have h2 := lt127 q h; omega); omega
         have lt149 := VotT.lt ho142
         have own152 : ∀ q, F144 q → w9.heap.size ≤ q ∧ q ≠ b15 ∧ q ≠ b57 := fun q hq => by rcases hfr146 q hq with h | h; (have h1 := own130 q h; have h2 := lt129 q h; omega); omega
         have lt151 := Led.lt ho145
         replace ho142 : VotT F141 w139 v16 (lnS3 who to t (Int.tmod (t + 1) 4) n) := by rw [s6b] at ho142; exact ho142
         replace ho145 : Led F144 w139 l17 lnX (raiseC (raiseC ([] : List Ci) who t n) who (Int.tmod (t + 1) 4) (capI (lnV n))) := by rw [s6c _] at ho145; exact ho145
         refine GI_pick [(0, nt who), (1, nt to), (2, nt t), (3, nt n), (9, pt b15), (10, pt b57), (11, nt 0), (12, nt 5), (13, nt 0), (123, nt (delE lnX (lnS3 who to t (Int.tmod (t + 1) 4) n) who t to 3 n))] (by kernel_rfl) ?_
         refine GI_eq [(0, nt who), (1, nt to), (2, nt t), (3, nt n), (9, pt b15), (10, pt b57), (11, nt 0), (12, nt 5), (13, nt 0), (123, nt 5)] (by rw [s6a]) ?_
         refine GI_static [] [(0, nt who), (1, nt to), (2, nt t), (3, nt n), (9, pt b15), (10, pt b57), (11, nt 0), (12, nt 5), (13, nt 0), (14, nt 5)] (by kernel_rfl) ?_
         refine GI_end ?_
         refine X_then ?_
         refine V_seq ?_
         refine V_region ?_
         refine OI_static 3 [(0, nt who), (1, nt to), (2, nt t), (3, nt n), (9, pt b15), (10, pt b57), (11, nt 0), (12, nt 5), (13, nt 0), (14, nt 5), (126, .pointer (some ⟨b15, 1, none⟩))] (by kernel_rfl) ?_
         refine OI_cell 29 (.tmp 126) 1 (pt v16) (some 127) (by kernel_rfl) (by kernel_rfl) hb22 (m := 1) (by kernel_rfl) rfl ?_
         refine OI_static 6 [(0, nt who), (1, nt to), (2, nt t), (3, nt n), (9, pt b15), (10, pt b57), (11, nt 0), (12, nt 5), (13, nt 0), (14, nt 5), (127, pt v16), (128, nt who), (129, nt t)] (by kernel_rfl) ?_
         have s7a := (ln_e (who := who) (to := to) (t := t) (m := (Int.tmod (t + 1) 4)) (n := n) ⟨by omega, by omega, by omega, hm9.2, by omega, hne⟩).1
         refine OI_call { callee := (Callee.value (Operand.func 16)), args := #[(Operand.tmp 127), (Operand.tmp 128), (Operand.tmp 129), (Operand.const (Value.int IntKind.i64 5))], argTypes := #[29, 3, 3, 3] } 16 #[pt v16, nt who, nt t, nt 5] (some 130) (by kernel_rfl) (by kernel_rfl) (by kernel_rfl) (undelegate_specT F141 v16 (lnS3 who to t (Int.tmod (t + 1) 4) n) who t 5 _ ho142) ?_
         rintro _ w155 ⟨rfl, ⟨F157, ho158, hfr159⟩, hk156⟩
         refine ⟨_, rfl, ?_⟩
         have hsz160 := Keep.size hk156
         replace hb22 := hb22.keep hk156 (fun hs => by have h1 := own150 _ hs; have h2 := lt149 _ hs; omega)
         replace hb57_62 := hb57_62.keep hk156 (fun hs => by have h1 := own150 _ hs; have h2 := lt149 _ hs; omega)
         replace hK0 := Keep.fresh hK0 hk156 (by intro i hi hs; first | exact hs | (exfalso; have h1 := own150 i hs; have h2 := lt149 i hs; omega) | (have h1 := own150 i hs; have h2 := lt149 i hs; show _ ∨ _; omega))
         replace ho145 := Led.keep ho145 hk156 (fun q hq hs => hdis147 q hs hq)
         have own162 : ∀ q, F157 q → w9.heap.size ≤ q ∧ q ≠ b15 ∧ q ≠ b57 := fun q hq => by rcases hfr159 q hq with h | h; (have h1 := own150 q h; have h2 := lt149 q h; omega); omega
         have lt161 := VotT.lt ho158
         have dis163 : ∀ q, F157 q → ¬ F144 q := fun q h1 h2 => by rcases hfr159 q h1 with h | h; exact hdis147 q h h2; (have h4 := lt151 q h2; omega)
         replace ho158 : VotT F157 w155 v16 (lnS4 who to t (Int.tmod (t + 1) 4) n) := by rw [show undS (lnS3 who to t (Int.tmod (t + 1) 4) n) who t 5 = (lnS4 who to t (Int.tmod (t + 1) 4) n) from rfl] at ho158; exact ho158
         refine OI_pick [(0, nt who), (1, nt to), (2, nt t), (3, nt n), (9, pt b15), (10, pt b57), (11, nt 0), (12, nt 5), (13, nt 0), (14, nt 5), (130, nt (undE (lnS3 who to t (Int.tmod (t + 1) 4) n) who t))] (by kernel_rfl) ?_
         refine OI_eq [(0, nt who), (1, nt to), (2, nt t), (3, nt n), (9, pt b15), (10, pt b57), (11, nt 0), (12, nt 5), (13, nt 0), (14, nt 5), (130, nt 0)] (by rw [s7a]) ?_
         refine OI_static 8 [(0, nt who), (1, nt to), (2, nt t), (3, nt n), (9, pt b15), (10, pt b57), (11, nt 0), (12, nt 5), (13, nt 0), (14, nt 5), (15, nt 0)] (by kernel_rfl) ?_
         refine OI_end rfl ?_
         refine X_then ?_
         refine V_seq ?_
         refine V_draws (acts [10]) none_ [[0, 1, 2, 3, 4, 5, 6, 7, 8, 9, 10, 11]] (by kernel_rfl) (by repeat first | exact sure_body (by rintro _ _ ⟨h, _⟩; exact ⟨_, h⟩) | refine sure_then ?_ | refine sure_block ?_ | refine sure_join ?_) (by kernel_rfl) ?_
         intro w165 hk164 he166 L hL167
         have hsz168 := Keep.size hk164
         replace hb22 := hb22.keep hk164 (fun f => f)
         replace hb57_62 := hb57_62.keep hk164 (fun f => f)
         replace hK0 := Keep.tr hK0 (Keep.ofNone hk164)
         replace ho145 := Led.keep ho145 hk164 (fun _ _ f => f)
         replace ho158 := VotT.keep ho158 hk164 (fun _ _ f => f)
         have qhb22 := hb22
         have qhb57_62 := hb57_62
         have K169 : Keep none_ w165 w165 := Keep.refl _ _
         obtain rfl := List.mem_singleton.1 hL167
         refine GI_static [3, 4, 5, 6, 7, 8, 9, 10, 11] [(0, nt who), (1, nt to), (2, nt t), (3, nt n), (9, pt b15), (10, pt b57), (11, nt 0), (12, nt 5), (13, nt 0), (14, nt 5), (15, nt 0), (133, .pointer (some ⟨b15, 1, none⟩))] (by kernel_rfl) ?_
         refine GI_cell 29 (.tmp 133) 1 (pt v16) (some 134) (by kernel_rfl) (by kernel_rfl) (by kernel_rfl) qhb22 (fun f => f) (m := 1) (by kernel_rfl) rfl ?_
         refine GI_static [7, 8, 9, 10, 11] [(0, nt who), (1, nt to), (2, nt t), (3, nt n), (9, pt b15), (10, pt b57), (11, nt 0), (12, nt 5), (13, nt 0), (14, nt 5), (15, nt 0), (134, pt v16), (137, pt b15)] (by kernel_rfl) ?_
         refine GI_cell 28 (.tmp 137) 0 (pt l17) (some 138) (by kernel_rfl) (by kernel_rfl) (by kernel_rfl) qhb22 (fun f => f) (m := 1) (by kernel_rfl) rfl ?_
         refine GI_static [9, 10, 11] [(0, nt who), (1, nt to), (2, nt t), (3, nt n), (9, pt b15), (10, pt b57), (11, nt 0), (12, nt 5), (13, nt 0), (14, nt 5), (15, nt 0), (134, pt v16), (138, pt l17), (139, nt who)] (by kernel_rfl) ?_
         refine GI_agg 26 (.tmp 10) 0 [nt 1, .bool true, nt 1, nt n, nt 0, nt 0] (some 140) (by kernel_rfl) (by kernel_rfl) (by kernel_rfl) qhb57_62 (fun f => f) (m := 6) (by kernel_rfl) rfl rfl ?_
         obtain ⟨s8a, s8c, s9a⟩ := ln_f (who := who) (to := to) (t := t) (m := (Int.tmod (t + 1) 4)) (n := n) ⟨by omega, by omega, by omega, hm9.2, by omega, hne⟩
         refine GI_call0 { callee := (Callee.value (Operand.func 9)), args := #[(Operand.tmp 134), (Operand.tmp 138), (Operand.tmp 139), (Operand.const (Value.int IntKind.i64 0)), (Operand.tmp 140)], argTypes := #[29, 28, 3, 3, 26] } 9 #[pt v16, pt l17, nt who, nt 0, .agg #[nt 1, .bool true, nt 1, nt n, nt 0, nt 0]] (some 141) (by kernel_rfl) (by kernel_rfl) (by kernel_rfl) (by kernel_rfl) (by kernel_rfl) (vote_spec F157 F144 v16 l17 (lnS4 who to t (Int.tmod (t + 1) 4) n) lnX (raiseC (raiseC ([] : List Ci) who t n) who (Int.tmod (t + 1) 4) (capI (lnV n))) who 0 (Vt.mk 1 true 1 n 0 0) _ ho158 ho145 dis163 (by first | decide | exact Nat.lt_trans (raise_lt (m := 1) (by decide) _ _ _) (by decide) | exact Nat.lt_trans (raise_lt (raise_lt (m := 1) (by decide) _ _ _) _ _ _) (by decide) | exact Nat.lt_trans (raise_lt (raise_lt (raise_lt (m := 1) (by decide) _ _ _) _ _ _) _ _ _) (by decide) | exact Nat.lt_trans (raise_lt (raise_lt (raise_lt (raise_lt (m := 1) (by decide) _ _ _) _ _ _) _ _ _) _ _ _) (by decide))) ?_
         rintro _ w172 ⟨rfl, ⟨F174, F177, ho175, ho178, hfr176, hfr179, hdis180⟩, hk173⟩
         refine ⟨_, rfl, ?_⟩
         have hsz181 := Keep.size hk173
         replace hb22 := hb22.keep hk173 (fun hs => by rcases hs with hs | hs; (have u0 := own162 _ hs; have u1 := lt161 _ hs; omega); (have u0 := own152 _ hs; have u1 := lt151 _ hs; omega))
         replace hK0 := Keep.fresh hK0 hk173 (by intro i hi hs; first | exact hs | (rcases hs with hs | hs; (have u0 := own162 i hs; have u1 := lt161 i hs; omega); (have u0 := own152 i hs; have u1 := lt151 i hs; omega)))
         have own183 : ∀ q, F174 q → w9.heap.size ≤ q ∧ q ≠ b15 := fun q hq => by rcases hfr176 q hq with h | h; (have h1 := own162 q h; have h2 := lt161 q h; omega); omega
         have lt182 := VotT.lt ho175
         have own185 : ∀ q, F177 q → w9.heap.size ≤ q ∧ q ≠ b15 := fun q hq => by rcases hfr179 q hq with h | h; (have h1 := own152 q h; have h2 := lt151 q h; omega); omega
         have lt184 := Led.lt ho178
         replace ho175 : VotT F174 w172 v16 (lnS5 who to t (Int.tmod (t + 1) 4) n) := by rw [show voteS lnX (lnS4 who to t (Int.tmod (t + 1) 4) n) who 0 (Vt.mk 1 true 1 n 0 0) = (lnS5 who to t (Int.tmod (t + 1) 4) n) from rfl] at ho175; exact ho175
         replace ho178 : Led F177 w172 l17 lnX (raiseC (raiseC (raiseC ([] : List Ci) who t n) who (Int.tmod (t + 1) 4) (capI (lnV n))) who t (capI (lnV n))) := by rw [show voteC lnX (raiseC (raiseC ([] : List Ci) who t n) who (Int.tmod (t + 1) 4) (capI (lnV n))) (lnS4 who to t (Int.tmod (t + 1) 4) n) who 0 (Vt.mk 1 true 1 n 0 0) = _ from s8c _] at ho178; exact ho178
         refine GI_pick [(0, nt who), (1, nt to), (2, nt t), (3, nt n), (9, pt b15), (11, nt 0), (12, nt 5), (13, nt 0), (14, nt 5), (15, nt 0), (141, nt (voteE lnX (lnS4 who to t (Int.tmod (t + 1) 4) n) who 0 (Vt.mk 1 true 1 n 0 0)))] (by kernel_rfl) ?_
         refine GI_eq [(0, nt who), (1, nt to), (2, nt t), (3, nt n), (9, pt b15), (11, nt 0), (12, nt 5), (13, nt 0), (14, nt 5), (15, nt 0), (141, nt 0)] (by rw [show voteE lnX (lnS4 who to t (Int.tmod (t + 1) 4) n) who 0 (Vt.mk 1 true 1 n 0 0) = 0 from s8a]) ?_
         refine GI_static [] [(0, nt who), (1, nt to), (2, nt t), (3, nt n), (9, pt b15), (11, nt 0), (12, nt 5), (13, nt 0), (14, nt 5), (15, nt 0), (16, nt 0)] (by kernel_rfl) ?_
         refine GI_end ?_
         refine X_then ?_
         refine V_seq ?_
         refine V_draws (acts [12]) none_ [[0, 1, 2, 3, 4, 5, 6, 7, 8, 9, 10, 11, 12, 13]] (by kernel_rfl) (by repeat first | exact sure_body (by rintro _ _ ⟨h, _⟩; exact ⟨_, h⟩) | refine sure_then ?_ | refine sure_block ?_ | refine sure_join ?_) (by kernel_rfl) ?_
         intro w187 hk186 he188 L hL189
         have hsz190 := Keep.size hk186
         replace hb22 := hb22.keep hk186 (fun f => f)
         replace hK0 := Keep.tr hK0 (Keep.ofNone hk186)
         replace ho175 := VotT.keep ho175 hk186 (fun _ _ f => f)
         replace ho178 := Led.keep ho178 hk186 (fun _ _ f => f)
         have qhb22 := hb22
         have K191 : Keep none_ w187 w187 := Keep.refl _ _
         obtain rfl := List.mem_singleton.1 hL189
         refine GI_static [3, 4, 5, 6, 7, 8, 9, 10, 11, 12, 13] [(0, nt who), (1, nt to), (2, nt t), (3, nt n), (9, pt b15), (11, nt 0), (12, nt 5), (13, nt 0), (14, nt 5), (15, nt 0), (16, nt 0), (144, .pointer (some ⟨b15, 1, none⟩))] (by kernel_rfl) ?_
         refine GI_cell 29 (.tmp 144) 1 (pt v16) (some 145) (by kernel_rfl) (by kernel_rfl) (by kernel_rfl) qhb22 (fun f => f) (m := 1) (by kernel_rfl) rfl ?_
         refine GI_static [7, 8, 9, 10, 11, 12, 13] [(0, nt who), (1, nt to), (2, nt t), (3, nt n), (11, nt 0), (12, nt 5), (13, nt 0), (14, nt 5), (15, nt 0), (16, nt 0), (145, pt v16), (148, pt b15)] (by kernel_rfl) ?_
         refine GI_cell 28 (.tmp 148) 0 (pt l17) (some 149) (by kernel_rfl) (by kernel_rfl) (by kernel_rfl) qhb22 (fun f => f) (m := 1) (by kernel_rfl) rfl ?_
         refine GI_static [12, 13] [(11, nt 0), (12, nt 5), (13, nt 0), (14, nt 5), (15, nt 0), (16, nt 0), (145, pt v16), (149, pt l17), (150, nt who), (151, nt t), (152, nt to), (153, nt n)] (by kernel_rfl) ?_
         refine GI_call0 { callee := (Callee.value (Operand.func 12)), args := #[(Operand.tmp 145), (Operand.tmp 149), (Operand.tmp 150), (Operand.tmp 151), (Operand.tmp 152), (Operand.const (Value.int IntKind.i64 3)), (Operand.tmp 153)], argTypes := #[29, 28, 3, 3, 3, 3, 3] } 12 #[pt v16, pt l17, nt who, nt t, nt to, nt 3, nt n] (some 154) (by kernel_rfl) (by kernel_rfl) (by kernel_rfl) (by kernel_rfl) (by kernel_rfl) (delegate_spec F174 F177 v16 l17 (lnS5 who to t (Int.tmod (t + 1) 4) n) lnX (raiseC (raiseC (raiseC ([] : List Ci) who t n) who (Int.tmod (t + 1) 4) (capI (lnV n))) who t (capI (lnV n))) who t to 3 n _ ho175 ho178 hdis180 (by first | decide | exact Nat.lt_trans (raise_lt (m := 1) (by decide) _ _ _) (by decide) | exact Nat.lt_trans (raise_lt (raise_lt (m := 1) (by decide) _ _ _) _ _ _) (by decide) | exact Nat.lt_trans (raise_lt (raise_lt (raise_lt (m := 1) (by decide) _ _ _) _ _ _) _ _ _) (by decide) | exact Nat.lt_trans (raise_lt (raise_lt (raise_lt (raise_lt (m := 1) (by decide) _ _ _) _ _ _) _ _ _) _ _ _) (by decide))) ?_
         rintro _ w194 ⟨rfl, ⟨F196, F199, ho197, ho200, hfr198, hfr201, hdis202⟩, hk195⟩
         refine ⟨_, rfl, ?_⟩
         have hsz203 := Keep.size hk195
         replace hK0 := Keep.fresh hK0 hk195 (by intro i hi hs; first | exact hs | (rcases hs with hs | hs; (have u0 := own183 i hs; have u1 := lt182 i hs; omega); (have u0 := own185 i hs; have u1 := lt184 i hs; omega)))
         have own205 : ∀ q, F196 q → w9.heap.size ≤ q := fun q hq => by rcases hfr198 q hq with h | h; (have h1 := own183 q h; have h2 := lt182 q h; omega); omega
         have lt204 := VotT.lt ho197
         have own207 : ∀ q, F199 q → w9.heap.size ≤ q := fun q hq => by rcases hfr201 q hq with h | h; (have h1 := own185 q h; have h2 := lt184 q h; omega); omega
         have lt206 := Led.lt ho200
         refine GI_pick [(11, nt 0), (12, nt 5), (13, nt 0), (14, nt 5), (15, nt 0), (16, nt 0), (154, nt (delE lnX (lnS5 who to t (Int.tmod (t + 1) 4) n) who t to 3 n))] (by kernel_rfl) ?_
         refine GI_eq [(11, nt 0), (12, nt 5), (13, nt 0), (14, nt 5), (15, nt 0), (16, nt 0), (154, nt 9)] (by rw [s9a]) ?_
         refine GI_static [] [(11, nt 0), (12, nt 5), (13, nt 0), (14, nt 5), (15, nt 0), (16, nt 0), (17, nt 9)] (by kernel_rfl) ?_
         refine GI_end ?_
         refine X_then ?_
         refine V_seq ?_
         refine V_region ?_
         refine OI_static 27 [(181, .bool true)] (by kernel_rfl) ?_
         refine OI_call { callee := (Callee.value (Operand.func 11)), args := #[], argTypes := #[] } 11 #[] (some 182) (by kernel_rfl) (by kernel_rfl) (by kernel_rfl) (known_spec _) ?_
         rintro _ w208 ⟨rfl, hk209⟩
         refine ⟨_, rfl, ?_⟩
         have hsz210 := Keep.size hk209
         replace hK0 := Keep.tr hK0 (Keep.ofNone hk209)
         replace ho197 := VotT.keep ho197 hk209 (fun _ _ f => f)
         replace ho200 := Led.keep ho200 hk209 (fun _ _ f => f)
         refine OI_static 30 [(8, .bool true)] (by kernel_rfl) ?_
         refine OI_end rfl ?_
         refine X_then ?_
         refine V_ret ?_
         exact X_return (.bool true) rfl ⟨rfl, hK0⟩

theorem walk_VotingLends (who to t n : Int) (w : World) : Calls Try.prog 6 #[.int .i64 who, .int .i64 to, .int .i64 t, .int .i64 n] w fun e w' => e = .returned (.bool true) ∧ Keep none_ w w' := by
  by_cases h : who = to
  · subst h; exact walk_VotingLends_same who t n w
  · exact walk_VotingLends_other who to t n h w
end Go.Al

