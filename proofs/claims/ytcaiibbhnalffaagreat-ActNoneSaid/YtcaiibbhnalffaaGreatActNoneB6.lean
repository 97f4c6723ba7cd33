/-
  Put together out of 5 texts: The document's ledger: New. The laws of act that play in both: the pair, a beginning. The laws of act that play in both: alike. Walks of the laws of act: a remark is told, too much is refused. Walks of the laws of act: what does nothing.
-/
import Derived.Test.YtcaiibbhnalffaaGreatActNoneB5
namespace Go.Al
open Go Go.RowKit Go.Proofs
def sumI : List Int → Int
  | [] => 0
  | x :: l => x + sumI l
theorem sumI_app (l : List Int) (x : Int) : sumI (l ++ [x]) = sumI l + x := by
  induction l with
  | nil => simp [sumI]
  | cons y l ih => simp only [List.cons_append, sumI, ih]; omega
theorem tot_app (a b : List Acc) : tot (a ++ b) = tot a + tot b := by
  induction a with
  | nil => simp [tot]
  | cons y l ih => simp only [List.cons_append, tot, ih]; omega
theorem sum_bnd : ∀ (l : List Int), (∀ y ∈ l, 0 ≤ y ∧ y ≤ 1073741824) → 0 ≤ sumI l ∧ sumI l ≤ 1073741824 * l.length
  | [], _ => by simp [sumI]
  | x :: l, h => by
    have h1 := h x (List.mem_cons_self ..)
    have h2 := sum_bnd l (fun y hy => h y (List.mem_cons_of_mem _ hy))
    rw [sumI, List.length_cons]; omega
theorem tot_new : ∀ (n : Nat) (fs : List Int), fs.length ≤ n → tot (newX fs n) = sumI fs
  | 0, fs, h => by
    obtain rfl := List.length_eq_zero_iff.1 (Nat.le_zero.1 h)
    rfl
  | n + 1, fs, h => by
    rw [newX_succ, tot_app]
    by_cases hn : fs.length ≤ n
    · rw [tot_new n fs hn, List.getElem?_eq_none hn]; simp [tot]
    · have hn : fs.length = n + 1 := by omega
      have hx : fs[n]? = some fs[n] := List.getElem?_eq_getElem (by omega)
      have ht : fs.take n ++ [fs[n]] = fs := by
        have := List.take_succ_eq_append_getElem (l := fs) (i := n) (by omega)
        rw [← this, List.take_of_length_le (by omega)]
      have he : newX fs n = newX (fs.take n) n := by
        unfold newX
        refine List.map_congr_left fun k hk => ?_
        rw [List.getElem?_take, if_pos (List.mem_range.1 hk)]
      have hs : sumI fs = sumI (fs.take n) + fs[n] := by rw [← sumI_app, ht]
      rw [he, tot_new n (fs.take n) (by rw [List.length_take]; omega), hx, hs]
      simp [tot]
def dsN (fs : List Int) (i : Nat) : List DE := (List.range 10).map fun k => ⟨if k < i then (fs[k]?).getD 0 else 0, 0, none, 0, []⟩
theorem dsN_len (fs : List Int) (i : Nat) : (dsN fs i).length = 10 := by simp [dsN]
theorem dsN_at {fs : List Int} {i k : Nat} {d : DE} (h : (dsN fs i)[k]? = some d) : k < 10 ∧ d = ⟨if k < i then (fs[k]?).getD 0 else 0, 0, none, 0, []⟩ := by
  obtain ⟨h1, h2⟩ := List.getElem?_eq_some_iff.1 h
  rw [dsN_len] at h1
  exact ⟨h1, by rw [← h2]; simp [dsN]⟩
theorem dsN_step {fs : List Int} {i : Nat} {x : Int} (h : fs[i]? = some x) : (dsN fs i).set i ⟨x, 0, none, 0, []⟩ = dsN fs (i + 1) := by
  refine List.ext_getElem? fun k => ?_
  by_cases hk : k = i
  · subst hk
    by_cases hl : k < 10
    · rw [List.getElem?_set_self (by rw [dsN_len]; exact hl)]; simp [dsN, hl, h]
    · rw [List.getElem?_eq_none (by rw [List.length_set, dsN_len]; omega), List.getElem?_eq_none (by rw [dsN_len]; omega)]
  · rw [List.getElem?_set_ne (Ne.symm hk)]
    by_cases hl : k < 10
    · simp [dsN, hl]
      have : k < i ↔ k < i + 1 := by omega
      by_cases h3 : k < i
      · rw [if_pos h3, if_pos (by omega)]
      · rw [if_neg h3, if_neg (by omega)]
    · rw [List.getElem?_eq_none (by rw [dsN_len]; omega), List.getElem?_eq_none (by rw [dsN_len]; omega)]
theorem dsN_acc {fs : List Int} (h : fs.length ≤ 10) : (dsN fs fs.length).map DE.acc = newX fs 10 := by
  unfold dsN newX
  rw [List.map_map]
  refine List.map_congr_left fun k hk => ?_
  show Acc.mk (if k < fs.length then (fs[k]?).getD 0 else 0) 0 = _
  by_cases h3 : k < fs.length
  · rw [if_pos h3]
  · rw [if_neg h3, List.getElem?_eq_none (by omega)]; rfl
theorem okC_nil : OkC [] := ⟨by decide, List.Pairwise.nil, fun c h => by cases h⟩
theorem newX_inv {fs : List Int} (h : okP fs) : Inv (newX fs 10) := by
  refine ⟨by simp [newX], fun x hx => ?_, h.2.2⟩
  obtain ⟨k, _, rfl⟩ := List.mem_map.1 hx
  show 0 ≤ (fs[k]?).getD 0 ∧ 0 ≤ (0 : Int)
  refine ⟨?_, by decide⟩
  cases hk : fs[k]? with
  | none => exact Int.le_refl _
  | some x => exact (h.2.1 x (List.mem_of_getElem? hk)).1
set_option maxRecDepth 10000 in
set_option maxHeartbeats 1000000 in
theorem new6_spec (A : Option Addr) (cap : Nat) (fs : List Int) (w : World) (hA0 : ArgT w 1 intc A cap fs) (hn : fs.length ≤ 9223372036854775807) : Calls Tryz.prog 18 #[.slice A fs.length cap] w fun e w' => (okP fs ∧ ∃ x F, e = .returned (.tuple #[pt x, nt 0]) ∧ DLd F w' x (newX fs 10) [] ∧ Keep none_ w w' ∧ (∀ q, F q → w.heap.size ≤ q)) ∨ (¬ okP fs ∧ e = .returned (.tuple #[.pointer none, nt 1]) ∧ Keep none_ w w') := by
 have hA := hA0
 have hK0 : Keep none_ w w := Keep.refl _ _
 have hzhK0 := Keep.size hK0
 refine enterV Tryz.func18 rfl [.slice A fs.length cap] 51 rfl rfl rfl ?_
 refine Vr ?_
 refine On 2 [0] ?_
 refine Oe ?_
 refine V_seq ?_
 refine Vs [(0, .slice A fs.length cap), (9, .bool (decide ((fs.length : Int) > 10)))] ?_
 refine V_if ((fs.length : Int) > 10) (by kernel_rfl) (fun hc1 => ?_) (fun hc1 => ?_)
 ·
  refine Vs [(2, .pointer none), (3, nt 1)] ?_
  refine V_ret ?_
  refine X_ret_then ?_
  exact X_return _ rfl (.inr ⟨fun h => by have := h.1; omega, rfl, hK0⟩)
 refine V_skip ?_
 refine X_then ?_
 refine Vr ?_
 refine OI_make (E := 114) (sz := 3) (by_ := 40) (m := 10) (kd := .i64) (zv := .agg #[nt 0, nt 0, .slice none 0 0]) 109 (.const (Value.int IntKind.i64 10)) (.const (Value.int IntKind.i64 10)) ((List.replicate 10 [nt 0, nt 0, .slice none 0 0]).flatten) (some 10) (by kernel_rfl) (by kernel_rfl) (by kernel_rfl) (by kernel_rfl) (by kernel_rfl) (by decide) (by decide) (by kernel_rfl) ?_
 intro b2 w2 e2 hb2 k2 z2
 have hsz3 := Keep.size k2
 replace hA := ArgT.keep0 hA k2
 replace hK0 := hK0.tn k2
 have hb2lt := hb2.lt
 refine On 2 [0, 11] ?_
 refine OI_box 111 (.tmp 11) (.agg #[sl_ b2 0 10 10]) [sl_ b2 0 10 10] (some 12) (by kernel_rfl) (by kernel_rfl) (by kernel_rfl) ?_
 intro b4 w4 e4 hb4 k4 z4
 have hsz5 := Keep.size k4
 replace hb2 := hb2.k0 k4
 replace hA := ArgT.keep0 hA k4
 replace hK0 := hK0.tn k4
 have hb4lt := hb4.lt
 refine On 4 [0, 4] ?_
 refine Oer ?_
 refine On 1 [0, 4, 5] ?_
 refine Oe ?_
 refine V_seq ?_
 refine Vs [(0, .slice A fs.length cap), (4, pt b4), (5, nt 0), (6, nt 0)] ?_
 refine V_block ?_
 refine V_pick [(0, .slice A fs.length cap), (4, pt b4), (5, nt 0), (6, nt 0)] rfl ?_
 refine V_loop (fun k wI e => ∃ i : Nat, ∃ A2 : Option Addr, ∃ ds : List DE, ∃ s : Int, (k + i = fs.length) ∧ (ds = dsN fs i) ∧ (Blk wI b4 [.slice A2 ds.length 10] 111) ∧ (SlT wI 3 DE.cells A2 10 ds) ∧ (∀ q, inA A2 q → w.heap.size ≤ q ∧ q ≠ b4) ∧ (∀ q, inA A2 q → q = b2) ∧ (s = sumI (fs.take i)) ∧ (∀ y ∈ fs.take i, 0 ≤ y ∧ y ≤ 1073741824) ∧ Keep (fun q => (only b2) q ∨ (only b4) q) w4 wI ∧ e = [(0, .slice A fs.length cap), (4, pt b4), (5, nt s), (6, nt (i : Int))]) fs.length ⟨0, (some ⟨b2, 0, none⟩), dsN fs 0, 0, by omega, rfl, hb4, slt_blk (xs := dsN fs 0) hb2 DE.len rfl, (fun q h => by have h3 := inA_some h; omega), (fun q h => inA_some h), rfl, fun y hy => by simp at hy, Keep.refl _ _, rfl⟩ ?_
 rintro k7 w6 _ ⟨i, A2, ds, s, hki, hds, hxb, hA2, ow2, hrA, hs, hok, hk8, rfl⟩
 have hsz9 := Keep.size hk8
 replace hA := ArgT.keep hA hk8 hA0 (fun k hk hs => by rcases hs with hs | hs; (have u0 : k = b2 := hs; omega); (have u0 : k = b4 := hs; omega))
 replace hK0 := Keep.fresh hK0 hk8 (by intro i hi hs; first | exact hs | (rcases hs with hs | hs; (have u0 : i = b2 := hs; omega); (have u0 : i = b4 := hs; omega)))
 have hzhk8 := Keep.size hk8
 have hb4lt := hxb.lt
 have lt2 := SlT.lt hA2
 have hdl : ds.length = 10 := by rw [hds, dsN_len]
 have hsb := sum_bnd _ hok; rw [List.length_take, ← hs] at hsb
 refine V_seq ?_
 refine Vs [(0, .slice A fs.length cap), (4, pt b4), (5, nt s), (6, nt (i : Int)), (16, .bool (decide ((i : Int) < (fs.length : Int))))] ?_
 refine V_if ((i : Int) < (fs.length : Int)) (by kernel_rfl) (fun hc10 => ?_) (fun hc10 => ?_)
 ·
  refine V_skip ?_
  refine X_then ?_
  refine V_seq ?_
  refine V_block ?_
  refine V_seq ?_
  refine Vr ?_
  refine On 2 [0, 4, 5, 6, 19, 20] ?_
  obtain ⟨b11, o11, L11, rfl, hat11⟩ := ArgT.open_ hA (by first | omega | (simp only [List.length_map]; omega) | (simp; done) | (simp; omega))
  have hb11lt0 := ArgT.lt hA0 (by first | omega | (simp only [List.length_map]; omega) | (simp; done) | (simp; omega))
  have hb11lt := hat11.blk.lt
  refine Oi (b := b11) (o := o11) (len := fs.length) (cap := cap) (j := i) (some 21) 49 (.tmp 19) (.tmp 20) 3 1 8 .i64 ?_
  obtain ⟨x12, hx13⟩ := exAt (xs := fs) (i := i)
  obtain ⟨hts, htl⟩ : fs.take (i + 1) = fs.take i ++ [x12] ∧ True := ⟨by obtain ⟨h1, h2⟩ := List.getElem?_eq_some_iff.1 hx13; rw [List.take_succ_eq_append_getElem h1, h2], trivial⟩
  refine OI_cellR 3 (.tmp 21) (o11 + i * 1) (nt x12) (some 22) (by kernel_rfl) (by kernel_rfl) hat11.blk (m := 1) (by kernel_rfl) (AtR.cell0 hat11 (es_at hx13) rfl) ?_
  refine Os 6 [(0, sl_ b11 o11 fs.length cap), (4, pt b4), (5, nt s), (6, nt (i : Int)), (24, .bool (decide (x12 < 0)))] ?_
  by_cases hg14 : x12 < 0
  ·
   refine OI_eq [(0, sl_ b11 o11 fs.length cap), (4, pt b4), (5, nt s), (6, nt (i : Int)), (24, .bool true)] (by first | simp [hg14] | rfl) ?_
   refine Ose [(0, sl_ b11 o11 fs.length cap), (4, pt b4), (5, nt s), (6, nt (i : Int)), (25, undef), (26, undef), (27, undef), (28, undef), (29, undef), (30, .bool true)] ?_
   refine V_true rfl ?_
   refine Vs [(2, .pointer none), (3, nt 1)] ?_
   refine V_ret ?_
   refine X_ret_then ?_
   refine X_ret_block ?_
   refine X_ret_then ?_
   refine X_ret_then ?_
   refine X_ret_block ?_
   refine X_ret_then ?_
   exact X_return _ rfl (.inr ⟨fun h => by have h9 := h.2.1 _ (List.mem_of_getElem? hx13); omega, rfl, hK0⟩)
  refine OI_eq [(0, sl_ b11 o11 fs.length cap), (4, pt b4), (5, nt s), (6, nt (i : Int)), (24, .bool false)] (by first | simp [hg14] | rfl) ?_
  refine On 8 [0, 4, 5, 6, 24, 25, 26] ?_
  refine Oi (b := b11) (o := o11) (len := fs.length) (cap := cap) (j := i) (some 27) 49 (.tmp 25) (.tmp 26) 3 1 8 .i64 ?_
  refine OI_cellR 3 (.tmp 27) (o11 + i * 1) (nt x12) (some 28) (by kernel_rfl) (by kernel_rfl) hat11.blk (m := 1) (by kernel_rfl) (AtR.cell0 hat11 (es_at hx13) rfl) ?_
  refine Ose [(0, sl_ b11 o11 fs.length cap), (4, pt b4), (5, nt s), (6, nt (i : Int)), (25, sl_ b11 o11 fs.length cap), (26, nt (i : Int)), (27, .pointer (some ⟨b11, o11 + i * 1, none⟩)), (28, nt x12), (29, .bool (decide (x12 > 1073741824))), (30, .bool (decide (x12 > 1073741824)))] ?_
  refine V_if (x12 > 1073741824) (by kernel_rfl) (fun hc15 => ?_) (fun hc15 => ?_)
  ·
   refine Vs [(2, .pointer none), (3, nt 1)] ?_
   refine V_ret ?_
   refine X_ret_then ?_
   refine X_ret_block ?_
   refine X_ret_then ?_
   refine X_ret_then ?_
   refine X_ret_block ?_
   refine X_ret_then ?_
   exact X_return _ rfl (.inr ⟨fun h => by have h9 := h.2.1 _ (List.mem_of_getElem? hx13); omega, rfl, hK0⟩)
  refine V_skip ?_
  refine X_then ?_
  refine V_seq ?_
  have h10 : 0 < ds.length := by omega
  obtain ⟨b16, o16, L16, T16, rfl, hat16⟩ := SlT.opn hA2
  have hb16lt := hat16.blk.lt
  have hob17 := ow2 b16 ⟨_, rfl, rfl⟩
  have hob18 := lt2 b16 ⟨_, rfl, rfl⟩
  have hbA : b16 = b2 := hrA _ ⟨_, rfl, rfl⟩
  refine V_draws (acts [11]) (only b16) [[0, 1, 2, 3, 4, 5, 6, 7, 8, 9, 10, 11]] (by kernel_rfl) (by repeat first | exact sure_body (by first | (rintro _ _ (⟨_, _, _, h, _⟩ | ⟨_, h, _⟩) <;> exact ⟨_, h⟩)) | refine sure_then ?_ | refine sure_block ?_ | refine sure_join ?_) (by kernel_rfl) ?_
  intro w20 hk19 he21 L hL22
  have hsz23 := Keep.size hk19
  replace hxb := hxb.k0 hk19
  replace hat11 := hat11.keep hk19 id
  replace hat16 := hat16.keep hk19 id
  replace hK0 := hK0.tn hk19
  replace hk8 := hk8.tn hk19
  have qhxb := hxb
  have qhat11 := hat11
  have qhat16 := hat16
  have K24 : Keep (only b16) w20 w20 := Keep.refl _ _
  obtain rfl := List.mem_singleton.1 hL22
  refine Gn [3, 4, 5, 6, 7, 8, 9, 10, 11] [0, 4, 5, 6, 25, 26, 27, 28, 29, 33] ?_
  refine Gc 109 (.tmp 33) 0 (sl_ b16 o16 ds.length 10) (some 34) qhxb (by show ¬ (_ = _); omega) rfl ?_
  refine Gs [7, 8, 9, 10, 11] [(0, sl_ b11 o11 fs.length cap), (4, pt b4), (5, nt s), (6, nt (i : Int)), (25, sl_ b11 o11 fs.length cap), (26, nt (i : Int)), (27, .pointer (some ⟨b11, o11 + i * 1, none⟩)), (28, nt x12), (29, .bool (decide (x12 > 1073741824))), (34, sl_ b16 o16 ds.length 10), (35, nt (i : Int)), (36, sl_ b11 o11 fs.length cap), (37, nt (i : Int))] ?_
  refine GI_pure (some 38) (.indexAddr 49 (.tmp 36) (.tmp 37)) (by kernel_rfl) (by kernel_rfl) (pure_idxN (b := b11) (o := o11) (len := fs.length) (cap := cap) (kd := .i64) (j := i) (E := 3) (sz := 1) (by_ := 8) (by kernel_rfl) (by kernel_rfl) (by kernel_rfl) (by omega)) ?_
  refine GI_cellR 3 (.tmp 38) (o11 + i * 1) (nt x12) (some 39) (by kernel_rfl) (by kernel_rfl) (by kernel_rfl) qhat11.blk (by show ¬ (_ = _); omega) (m := 1) (by kernel_rfl) (AtR.cell0 qhat11 (es_at hx13) rfl) ?_
  refine GI_pure (some 40) (.indexAddr 109 (.tmp 34) (.tmp 35)) (by kernel_rfl) (by kernel_rfl) (pure_idxN (b := b16) (o := o16) (len := ds.length) (cap := 10) (kd := .i64) (j := i) (E := 114) (sz := 3) (by_ := 40) (by kernel_rfl) (by kernel_rfl) (by kernel_rfl) (by omega)) ?_
  refine Gs [11] [(0, sl_ b11 o11 fs.length cap), (4, pt b4), (5, nt s), (6, nt (i : Int)), (25, sl_ b11 o11 fs.length cap), (26, nt (i : Int)), (27, .pointer (some ⟨b11, o11 + i * 1, none⟩)), (28, nt x12), (29, .bool (decide (x12 > 1073741824))), (39, nt x12), (41, .pointer (some ⟨b16, o16 + i * 3, none⟩))] ?_
  refine GI_final 11 (by kernel_rfl) (by kernel_rfl) ?_
  obtain ⟨x25, hx26⟩ := exAt (xs := ds) (i := i)
  obtain ⟨_, hde⟩ := dsN_at (by rw [← hds]; exact hx26)
  rw [if_neg (by omega)] at hde
  subst hde
  refine Ts1 (DE.mk x12 0 none 0 [] : DE) 0 (nt x12) hat16 hx26 (by simp [DE.cells, over]) ?_
  intro w27 hat31 hk29 hz30 hlhx32 hx32
  have hsz33 := Keep.size hk29
  replace hxb := hxb.k1 hk29
  replace hat11 := hat11.keep hk29 (by show ¬ (_ = _); omega)
  replace hK0 := Keep.fr hK0 hk29
  replace hk8 := Keep.fresh hk8 hk29 (by intro i hi hs; exact .inl (by show i = _; rw [show i = b16 from hs]; exact hbA))
  refine Oe ?_
  refine V_region ?_
  refine On 3 [0, 4, 6, 25, 26, 27, 28, 29, 42, 43, 44] ?_
  refine Oi (b := b11) (o := o11) (len := fs.length) (cap := cap) (j := i) (some 45) 49 (.tmp 43) (.tmp 44) 3 1 8 .i64 ?_
  refine OI_cellR 3 (.tmp 45) (o11 + i * 1) (nt x12) (some 46) (by kernel_rfl) (by kernel_rfl) hat11.blk (m := 1) (by kernel_rfl) (AtR.cell0 hat11 (es_at hx13) rfl) ?_
  have hw34 : IntKind.i64.wrap (s + x12) = s + x12 := wrp
  refine Os 6 [(0, sl_ b11 o11 fs.length cap), (4, pt b4), (6, nt (i : Int)), (25, sl_ b11 o11 fs.length cap), (26, nt (i : Int)), (27, .pointer (some ⟨b11, o11 + i * 1, none⟩)), (28, nt x12), (29, .bool (decide (x12 > 1073741824))), (47, nt (IntKind.i64.wrap (s + x12)))] ?_
  refine Oq (u := nt (IntKind.i64.wrap (s + x12))) (v := nt (s + x12)) 47 (by rw [hw34]) ?_
  refine Os 7 [(0, sl_ b11 o11 fs.length cap), (4, pt b4), (5, nt (s + x12)), (6, nt (i : Int)), (25, sl_ b11 o11 fs.length cap), (26, nt (i : Int)), (27, .pointer (some ⟨b11, o11 + i * 1, none⟩)), (28, nt x12), (29, .bool (decide (x12 > 1073741824)))] ?_
  refine OI_end rfl ?_
  refine X_block ?_
  refine X_then ?_
  refine V_region ?_
  have hw35 : IntKind.i64.wrap ((i : Int) + 1) = ((i + 1 : Nat) : Int) := wrp
  refine Os 2 [(0, sl_ b11 o11 fs.length cap), (4, pt b4), (5, nt (s + x12)), (18, nt (IntKind.i64.wrap ((i : Int) + 1))), (25, sl_ b11 o11 fs.length cap), (26, nt (i : Int)), (27, .pointer (some ⟨b11, o11 + i * 1, none⟩)), (28, nt x12), (29, .bool (decide (x12 > 1073741824)))] ?_
  refine Oq (u := nt (IntKind.i64.wrap ((i : Int) + 1))) (v := nt ((i + 1 : Nat) : Int)) 18 (by rw [hw35]) ?_
  refine Os 3 [(0, sl_ b11 o11 fs.length cap), (4, pt b4), (5, nt (s + x12)), (6, nt ((i + 1 : Nat) : Int)), (25, sl_ b11 o11 fs.length cap), (26, nt (i : Int)), (27, .pointer (some ⟨b11, o11 + i * 1, none⟩)), (28, nt x12), (29, .bool (decide (x12 > 1073741824)))] ?_
  refine OI_end rfl ?_
  exact V_again (k7 - 1) (by omega) [(0, sl_ b11 o11 fs.length cap), (4, pt b4), (5, nt (s + x12)), (6, nt ((i + 1 : Nat) : Int))] rfl ⟨i + 1, (some ⟨b16, o16, none⟩), ds.set i (DE.mk x12 0 none 0 []), s + x12, by omega, by rw [hds, dsN_step hx13], by simp only [List.length_set]; exact hxb, At.slt hat31, (fun q h => by have h3 := inA_some h; omega), (fun q h => by have h3 := inA_some h; omega), by rw [hts, sumI_app, ← hs], fun y hy => by rw [hts] at hy; rcases List.mem_append.1 hy with h | h; exact hok y h; (rw [List.mem_singleton.1 h]; omega), hk8, rfl⟩
 refine V_exit ?_
 refine X_exit_then ?_
 refine X_exit_then ?_
 refine X_exit_here ?_
 refine X_then ?_
 refine V_seq ?_
 refine Vs [(4, pt b4), (49, .bool (decide (s > 1073741824)))] ?_
 refine V_if (s > 1073741824) (by kernel_rfl) (fun hc36 => ?_) (fun hc36 => ?_)
 ·
  refine Vs [(2, .pointer none), (3, nt 1)] ?_
  refine V_ret ?_
  refine X_ret_then ?_
  have hie : i = fs.length := by omega
  rw [hie, List.take_length] at hs
  exact X_return _ rfl (.inr ⟨fun h => by have h9 := h.2.2; rw [tot_new 10 fs (by omega)] at h9; omega, rfl, hK0⟩)
 refine V_skip ?_
 refine X_then ?_
 refine Vs [(2, pt b4), (3, nt 0)] ?_
 refine V_ret ?_
 have hie : i = fs.length := by omega
 rw [hie, List.take_length] at hs hok
 rw [hie] at hds
 have hokp : okP fs := ⟨by omega, hok, by rw [tot_new 10 fs (by omega)]; omega⟩
 exact X_return _ rfl (.inl ⟨hokp, b4, (fun q => inA A2 q ∨ q = b4), rfl, ⟨newX_inv hokp, okC_nil, .inr rfl, fun q hq => by rcases hq with h | h; (have h1 := lt2 q h; omega); omega, A2, 10, ds, ⟨hxb, hA2, fun q hq => ⟨.inl hq, (ow2 q hq).2⟩, by rw [hds]; exact dsN_acc (by omega), fun j d hd => by rw [hds] at hd; obtain ⟨_, rfl⟩ := dsN_at hd; exact ⟨rfl, SlT.nil _ _ _, fun q hq => (inA_none hq).elim⟩⟩⟩, hK0, fun q hq => by rcases hq with h | h; (have h1 := ow2 q h; omega); omega⟩)
end Go.Al

namespace Go.Al
open Go Go.RowKit Go.Proofs
def sbQ (fs : List Int) : Nat → RW
  | 0 => acQ fs
  | i + 1 => rwSub actTs (sbQ fs i) (1 + (i : Int)) (Int.tmod (i : Int) 3) 0 z0 0
def nRef (refs : Int) : Nat := min refs.toNat 5
structure PrX (B H F G X Y Z : Nat → Prop) (w : World) (b r g v l x y z : Nat) (ts : List Trk) (q : RW) : Prop where
  blk : Blk w b [pt l, pt v, pt r, pt x, pt y, pt z] 38
  hr : Rfr H w r g ts q.rs
  hv : VotT F w v q.s
  hl : Led G w l q.xs q.cs
  hx : DLd X w x q.xs q.cs
  hy : DVt Y w y q.s
  hz : DRf Z w z ts q.rs
  inH : ∀ q, H q → B q ∧ q ≠ b
  inF : ∀ q, F q → B q ∧ q ≠ b
  inG : ∀ q, G q → B q ∧ q ≠ b
  inX : ∀ q, X q → B q ∧ q ≠ b
  inY : ∀ q, Y q → B q ∧ q ≠ b
  inZ : ∀ q, Z q → B q ∧ q ≠ b
  dHF : ∀ q, H q → ¬ F q
  dHG : ∀ q, H q → ¬ G q
  dHX : ∀ q, H q → ¬ X q
  dHY : ∀ q, H q → ¬ Y q
  dHZ : ∀ q, H q → ¬ Z q
  dFG : ∀ q, F q → ¬ G q
  dFX : ∀ q, F q → ¬ X q
  dFY : ∀ q, F q → ¬ Y q
  dFZ : ∀ q, F q → ¬ Z q
  dGX : ∀ q, G q → ¬ X q
  dGY : ∀ q, G q → ¬ Y q
  dGZ : ∀ q, G q → ¬ Z q
  dXY : ∀ q, X q → ¬ Y q
  dXZ : ∀ q, X q → ¬ Z q
  dYZ : ∀ q, Y q → ¬ Z q
def Pr (B : Nat → Prop) (w : World) (b : Nat) (ts : List Trk) (q : RW) : Prop := (∀ q, B q → q < w.heap.size) ∧ B b ∧ ∃ H F G X Y Z r g v l x y z, PrX B H F G X Y Z w b r g v l x y z ts q
section
variable {B S : Nat → Prop} {w w' : World} {b N : Nat} {ts : List Trk} {q : RW}
theorem Pr.lt (h : Pr B w b ts q) : ∀ q, B q → q < w.heap.size := h.1
theorem Pr.at_ (h : Pr B w b ts q) : B b := h.2.1
theorem Pr.keep (h : Pr B w b ts q) (k : Keep S w w') (hS : ∀ q, B q → ¬ S q) : Pr B w' b ts q := by
  obtain ⟨h1, h2, H, F, G, X, Y, Z, r, g, v, l, x, y, z, h⟩ := h
  exact ⟨fun q hq => Nat.lt_of_lt_of_le (h1 q hq) k.size, h2, H, F, G, X, Y, Z, r, g, v, l, x, y, z, { h with blk := h.blk.keep k (hS _ h2), hr := h.hr.keep k (fun q hq => hS q (h.inH q hq).1), hv := h.hv.keep k (fun q hq => hS q (h.inF q hq).1), hl := h.hl.keep k (fun q hq => hS q (h.inG q hq).1), hx := h.hx.keep k (fun q hq => hS q (h.inX q hq).1), hy := h.hy.keep k (fun q hq => hS q (h.inY q hq).1), hz := h.hz.keep k (fun q hq => hS q (h.inZ q hq).1) }⟩
theorem Pr.quiet (h : Pr B w b ts q) (k : Keep (lb N w) w w') : Pr B w' b ts q := by
  obtain ⟨h1, h2, H, F, G, X, Y, Z, r, g, v, l, x, y, z, h⟩ := h
  exact ⟨fun q hq => Nat.lt_of_lt_of_le (h1 q hq) k.size, h2, H, F, G, X, Y, Z, r, g, v, l, x, y, z, { h with blk := h.blk.quiet k, hr := h.hr.quiet k, hv := h.hv.quiet k, hl := h.hl.quiet k, hx := h.hx.quiet k, hy := h.hy.quiet k, hz := h.hz.quiet k }⟩
end
theorem PrX.pack {B H F G X Y Z : Nat → Prop} {w : World} {b r g v l x y z N : Nat} {ts : List Trk} {q : RW} (hb : Blk w b [pt l, pt v, pt r, pt x, pt y, pt z] 38) (hr : Rfr H w r g ts q.rs) (hv : VotT F w v q.s) (hl : Led G w l q.xs q.cs) (hx : DLd X w x q.xs q.cs) (hy : DVt Y w y q.s) (hz : DRf Z w z ts q.rs)
    (dHF : ∀ q, H q → ¬ F q) (dHG : ∀ q, H q → ¬ G q) (dHX : ∀ q, H q → ¬ X q) (dHY : ∀ q, H q → ¬ Y q) (dHZ : ∀ q, H q → ¬ Z q) (dFG : ∀ q, F q → ¬ G q) (dFX : ∀ q, F q → ¬ X q) (dFY : ∀ q, F q → ¬ Y q) (dFZ : ∀ q, F q → ¬ Z q) (dGX : ∀ q, G q → ¬ X q) (dGY : ∀ q, G q → ¬ Y q) (dGZ : ∀ q, G q → ¬ Z q) (dXY : ∀ q, X q → ¬ Y q) (dXZ : ∀ q, X q → ¬ Z q) (dYZ : ∀ q, Y q → ¬ Z q) (oH : ∀ q, H q → q ≠ b) (oF : ∀ q, F q → q ≠ b) (oG : ∀ q, G q → q ≠ b) (oX : ∀ q, X q → q ≠ b) (oY : ∀ q, Y q → q ≠ b) (oZ : ∀ q, Z q → q ≠ b) (hB : B b) (rH : ∀ q, H q → B q ∨ N ≤ q) (rF : ∀ q, F q → B q ∨ N ≤ q) (rG : ∀ q, G q → B q ∨ N ≤ q) (rX : ∀ q, X q → B q ∨ N ≤ q) (rY : ∀ q, Y q → B q ∨ N ≤ q) (rZ : ∀ q, Z q → B q ∨ N ≤ q) :
    ∃ B', Pr B' w b ts q ∧ ∀ q, B' q → B q ∨ N ≤ q := by
  refine ⟨fun q => q = b ∨ H q ∨ F q ∨ G q ∨ X q ∨ Y q ∨ Z q, ⟨?_, .inl rfl, H, F, G, X, Y, Z, r, g, v, l, x, y, z, hb, hr, hv, hl, hx, hy, hz, fun q h => ⟨.inr (.inl h), oH q h⟩, fun q h => ⟨.inr (.inr (.inl h)), oF q h⟩, fun q h => ⟨.inr (.inr (.inr (.inl h))), oG q h⟩, fun q h => ⟨.inr (.inr (.inr (.inr (.inl h)))), oX q h⟩, fun q h => ⟨.inr (.inr (.inr (.inr (.inr (.inl h))))), oY q h⟩, fun q h => ⟨.inr (.inr (.inr (.inr (.inr (.inr h))))), oZ q h⟩, dHF, dHG, dHX, dHY, dHZ, dFG, dFX, dFY, dFZ, dGX, dGY, dGZ, dXY, dXZ, dYZ⟩, ?_⟩
  · rintro q (rfl | h | h | h | h | h | h)
    · exact hb.lt
    · exact hr.lt q h
    · exact hv.lt q h
    · exact hl.lt q h
    · exact hx.lt q h
    · exact hy.lt q h
    · exact hz.lt q h
  · rintro q (rfl | h | h | h | h | h | h)
    · exact .inl hB
    · exact rH q h
    · exact rF q h
    · exact rG q h
    · exact rX q h
    · exact rY q h
    · exact rZ q h
theorem new6_yes (A : Option Addr) (cap : Nat) (fs : List Int) (w : World) (hA : ArgT w 1 intc A cap fs) (hn : fs.length ≤ 100000) (hok : okP fs) : Calls Tryz.prog 18 #[.slice A fs.length cap] w fun e w' => ∃ x F, e = .returned (.tuple #[pt x, nt 0]) ∧ DLd F w' x (newX fs 10) [] ∧ Keep none_ w w' ∧ (∀ q, F q → w.heap.size ≤ q) :=
  (new6_spec A cap fs w hA (by omega)).mono (by
    rintro e w' (⟨_, h⟩ | ⟨h, _⟩)
    · exact h
    · exact absurd hok h)
set_option maxRecDepth 10000 in
set_option maxHeartbeats 2000000 in
theorem begin_ac (A : Option Addr) (cap : Nat) (fs : List Int) (refs : Int) (w : World) (hA0 : ArgT w 1 intc A cap fs) (hn : fs.length ≤ 100000) : Calls Tryz.prog 9 #[.slice A fs.length cap, nt refs] w fun e w' => ∃ b B, e = .returned (pt b) ∧ Pr B w' b actTs (sbQ fs (nRef refs)) ∧ Keep none_ w w' ∧ (∀ q, B q → w.heap.size ≤ q) := by
 have hA := hA0
 have hK0 : Keep none_ w w := Keep.refl _ _
 have hzhK0 := Keep.size hK0
 refine enterV Tryz.func9 rfl [.slice A fs.length cap, nt refs] 132 rfl rfl rfl ?_
 refine Vr ?_
 refine On 1 [0, 1] ?_
 refine Oer ?_
 refine On 1 [0, 1, 5] ?_
 refine Oe ?_
 refine V_seq ?_
 refine Vs [(0, .slice A fs.length cap), (1, nt refs), (5, .slice none 0 0), (6, nt 0)] ?_
 refine V_block ?_
 refine V_pick [(0, .slice A fs.length cap), (1, nt refs), (5, .slice none 0 0), (6, nt 0)] rfl ?_
 refine V_loop (fun k wI e => ∃ i : Nat, ∃ A2 : Option Addr, ∃ cap2 : Nat, ∃ ms : List Int, (k + i = 10) ∧ (i ≤ 10) ∧ (ms = frL fs i) ∧ (SlT wI 1 intc A2 cap2 ms) ∧ (∀ q, inA A2 q → w.heap.size ≤ q) ∧ Keep none_ w wI ∧ e = [(0, .slice A fs.length cap), (1, nt refs), (5, .slice A2 ms.length cap2), (6, nt (i : Int))]) 10 ⟨0, none, 0, [], by omega, by omega, rfl, SlT.nil _ _ _, fun q h => (inA_none h).elim, Keep.refl _ _, rfl⟩ ?_
 rintro k2 w1 _ ⟨i, A2, cap2, ms, hki, hi10, hms, hA2, ow2, hk3, rfl⟩
 have hsz4 := Keep.size hk3
 replace hA := ArgT.keep0 hA hk3
 replace hK0 := hK0.tn hk3
 have hzhk3 := Keep.size hk3
 have lt2 := SlT.lt hA2
 have hml : ms.length = i := by rw [hms, frL_len]
 refine V_seq ?_
 refine Vs [(0, .slice A fs.length cap), (1, nt refs), (5, .slice A2 ms.length cap2), (6, nt (i : Int)), (18, .bool (decide ((i : Int) < 10)))] ?_
 refine V_if ((i : Int) < 10) (by kernel_rfl) (fun hc5 => ?_) (fun hc5 => ?_)
 ·
  refine V_skip ?_
  refine X_then ?_
  refine V_seq ?_
  refine V_block ?_
  refine Vr ?_
  refine Os 1 [(0, .slice A fs.length cap), (1, nt refs), (6, nt (i : Int)), (21, .slice A2 ms.length cap2)] ?_
  refine OI_slit (E := 3) (zv := nt 0) (sz := 1) (by_ := 8) 49 1 #[(0, (Operand.const (Value.int IntKind.i64 100)))] [nt 100] [nt 100] (some 22) (by kernel_rfl) (by kernel_rfl) (by kernel_rfl) (by omega) rfl (by omega) (by intro v hv; simp only [List.mem_cons, List.not_mem_nil, or_false] at hv; rcases hv with rfl <;> rfl) (by kernel_rfl) rfl ?_
  intro b6 w6 e6 hb6 k6 z6
  have hsz7 := Keep.size k6
  replace hA := ArgT.keep0 hA k6
  replace hA2 := hA2.keep0 k6
  replace hK0 := hK0.tn k6
  replace hk3 := hk3.tn k6
  have hb6lt := hb6.lt
  refine OI_append (t := 49) (at2 := 49) (E := 3) (E2 := 3) (sz := 1) (by_ := 8) (zv := nt 0) (m := ms.length) (k := 1) (.tmp 21) (.tmp 22) (.slice A2 ms.length cap2) (sl_ b6 0 1 1) (some 23) (by kernel_rfl) (by kernel_rfl) (by kernel_rfl) (by kernel_rfl) (by kernel_rfl) (by kernel_rfl) (by kernel_rfl) (SlT.slr hA2) (slr_one hb6 (intc_len 100)) (intc_one 100) (by first | omega | (simp only [List.length_nil]; omega)) (by omega) (by first | omega | (simp only [List.length_nil]; omega)) (by omega) ?_
  intro vv9 w8 hap
  obtain ⟨A8, cap8, rfl, hA8, hk8, own8x⟩ := app_one (f := intc) (xs := ms) (x := 100) (A := A2) (cap := cap2) hap (fun x _ => intc_len x) (intc_len _)
  have own8 : ∀ q, inA A8 q → w.heap.size ≤ q := fun q hq => by rcases own8x q hq with h | h; exact ow2 q h; (show w.heap.size ≤ q; omega)
  have hsz9 := Keep.size hk8
  replace hA := ArgT.keep hA hk8 hA0 (fun k hk hs => by have h1 := ow2 k hs; have h2 := lt2 k hs; omega)
  replace hK0 := Keep.fresh hK0 hk8 (by intro i hi hs; first | exact hs | (exfalso; have h1 := ow2 i hs; have h2 := lt2 i hs; omega) | (have h1 := ow2 i hs; have h2 := lt2 i hs; show _ ∨ _; omega))
  replace hk3 := Keep.fresh hk3 hk8 (by intro i hi hs; first | exact hs | (exfalso; have h1 := ow2 i hs; have h2 := lt2 i hs; omega) | (have h1 := ow2 i hs; have h2 := lt2 i hs; show _ ∨ _; omega))
  have lt8 := SlT.lt hA8
  refine On 4 [0, 1, 5, 6] ?_
  refine Oer ?_
  refine Ose [(0, .slice A fs.length cap), (1, nt refs), (5, .slice A8 ((ms ++ [100]).length) cap8), (6, nt (i : Int)), (27, .bool (decide ((i : Int) < (fs.length : Int))))] ?_
  refine V_if ((i : Int) < (fs.length : Int)) (by kernel_rfl) (fun hc10 => ?_) (fun hc10 => ?_)
  ·
   have hapl : (ms ++ [100]).length = i + 1 := by rw [List.length_append, hml]; rfl
   refine V_region ?_
   refine On 4 [0, 1, 5, 6, 28, 29, 30, 31] ?_
   obtain ⟨b11, o11, L11, rfl, hat11⟩ := ArgT.open_ hA (by first | omega | (simp only [List.length_map]; omega) | (simp; done) | (simp; omega))
   have hb11lt0 := ArgT.lt hA0 (by first | omega | (simp only [List.length_map]; omega) | (simp; done) | (simp; omega))
   have hb11lt := hat11.blk.lt
   refine Oi (b := b11) (o := o11) (len := fs.length) (cap := cap) (j := i) (some 32) 49 (.tmp 30) (.tmp 31) 3 1 8 .i64 ?_
   obtain ⟨x12, hx13⟩ := exAt (xs := fs) (i := i)
   refine OI_cellR 3 (.tmp 32) (o11 + i * 1) (nt x12) (some 33) (by kernel_rfl) (by kernel_rfl) hat11.blk (m := 1) (by kernel_rfl) (AtR.cell0 hat11 (es_at hx13) rfl) ?_
   refine Os 8 [(0, sl_ b11 o11 fs.length cap), (1, nt refs), (5, .slice A8 ((ms ++ [100]).length) cap8), (6, nt (i : Int)), (28, .slice A8 ((ms ++ [100]).length) cap8), (29, nt (i : Int)), (35, nt (IntKind.i64.wrap (100 + (bAnd x12 1023))))] ?_
   obtain ⟨b14, o14, L14, T14, rfl, hat14⟩ := SlT.opn hA8
   have hb14lt := hat14.blk.lt
   have hob15 := own8 b14 ⟨_, rfl, rfl⟩
   have hob16 := lt8 b14 ⟨_, rfl, rfl⟩
   refine Oi (b := b14) (o := o14) (len := (ms ++ [100]).length) (cap := cap8) (j := i) (some 36) 49 (.tmp 28) (.tmp 29) 3 1 8 .i64 ?_
   obtain ⟨x17, hx18⟩ := exAt (xs := ms ++ [100]) (i := i)
   refine Ts1 (IntKind.i64.wrap (100 + (bAnd x12 1023)) : Int) 0 (nt (IntKind.i64.wrap (100 + (bAnd x12 1023)))) hat14 hx18 (by simp [intc, over]) ?_
   intro w19 hat23 hk21 hz22 hlhx24 hx24
   have hsz25 := Keep.size hk21
   replace hat11 := hat11.keep hk21 (by show ¬ (_ = _); omega)
   replace hK0 := Keep.fr hK0 hk21
   replace hk3 := Keep.fr hk3 hk21
   refine Op_ [(0, sl_ b11 o11 fs.length cap), (1, nt refs), (5, sl_ b14 o14 ((ms ++ [100]).length) cap8), (6, nt (i : Int))] ?_
   refine Oq (u := sl_ b14 o14 ((ms ++ [100]).length) cap8) (v := sl_ b14 o14 (((ms ++ [100]).set i (IntKind.i64.wrap (100 + (bAnd x12 1023)))).length) cap8) 5 (by rw [List.length_set]) ?_
   refine OI_end rfl ?_
   refine X_block ?_
   refine X_then ?_
   refine V_region ?_
   have hw26 : IntKind.i64.wrap ((i : Int) + 1) = ((i + 1 : Nat) : Int) := wrp
   refine Os 2 [(0, sl_ b11 o11 fs.length cap), (1, nt refs), (5, sl_ b14 o14 (((ms ++ [100]).set i (IntKind.i64.wrap (100 + (bAnd x12 1023)))).length) cap8), (20, nt (IntKind.i64.wrap ((i : Int) + 1)))] ?_
   refine Oq (u := nt (IntKind.i64.wrap ((i : Int) + 1))) (v := nt ((i + 1 : Nat) : Int)) 20 (by rw [hw26]) ?_
   refine Os 3 [(0, sl_ b11 o11 fs.length cap), (1, nt refs), (5, sl_ b14 o14 (((ms ++ [100]).set i (IntKind.i64.wrap (100 + (bAnd x12 1023)))).length) cap8), (6, nt ((i + 1 : Nat) : Int))] ?_
   refine OI_end rfl ?_
   exact V_again (k2 - 1) (by omega) [(0, sl_ b11 o11 fs.length cap), (1, nt refs), (5, sl_ b14 o14 (((ms ++ [100]).set i (IntKind.i64.wrap (100 + (bAnd x12 1023)))).length) cap8), (6, nt ((i + 1 : Nat) : Int))] rfl ⟨i + 1, (some ⟨b14, o14, none⟩), cap8, (ms ++ [100]).set i (IntKind.i64.wrap (100 + (bAnd x12 1023))), by omega, by omega, by rw [frL_step, ← hms, frA_some hx13, ← hml]; simp, At.slt hat23, (fun q h => by have h3 := inA_some h; omega), hk3, rfl⟩
  have hapl : (ms ++ [100]).length = i + 1 := by rw [List.length_append, hml]; rfl
  refine V_skip ?_
  refine X_block ?_
  refine X_then ?_
  refine V_region ?_
  have hw27 : IntKind.i64.wrap ((i : Int) + 1) = ((i + 1 : Nat) : Int) := wrp
  refine Os 2 [(0, .slice A fs.length cap), (1, nt refs), (5, .slice A8 ((ms ++ [100]).length) cap8), (20, nt (IntKind.i64.wrap ((i : Int) + 1)))] ?_
  refine Oq (u := nt (IntKind.i64.wrap ((i : Int) + 1))) (v := nt ((i + 1 : Nat) : Int)) 20 (by rw [hw27]) ?_
  refine Os 3 [(0, .slice A fs.length cap), (1, nt refs), (5, .slice A8 ((ms ++ [100]).length) cap8), (6, nt ((i + 1 : Nat) : Int))] ?_
  refine OI_end rfl ?_
  exact V_again (k2 - 1) (by omega) [(0, .slice A fs.length cap), (1, nt refs), (5, .slice A8 ((ms ++ [100]).length) cap8), (6, nt ((i + 1 : Nat) : Int))] rfl ⟨i + 1, A8, cap8, ms ++ [100], by omega, by omega, by rw [frL_step, ← hms, frA_none (by omega)], hA8, own8, hk3, rfl⟩
 refine V_exit ?_
 refine X_exit_then ?_
 refine X_exit_then ?_
 refine X_exit_here ?_
 refine X_then ?_
 refine Vr ?_
 refine On 1 [1, 5, 38] ?_
 have hie : i = 10 := by omega
 replace hms : ms = frL fs 10 := by rw [hms, hie]
 refine Ok (kL 17 #[(.tmp 38)] #[49]) 17 #[.slice A2 ms.length cap2] (some 39) (new_okA A2 cap2 ms _ (SlT.arg hA2) (by omega) (by rw [hms]; exact frL_ok fs)) ?_
 rintro _ w30 ⟨l32, F33, rfl, ho34, hk31, hge35⟩
 refine ⟨_, rfl, ?_⟩
 have hsz36 := Keep.size hk31
 replace hA2 := hA2.keep0 hk31
 replace hK0 := hK0.tn hk31
 replace ho34 : Led F33 w30 l32 (frX fs) [] := by rw [hms] at ho34; exact ho34
 have own37 : ∀ q, F33 q → w1.heap.size ≤ q := fun q hq => by have h1 := hge35 q hq; omega
 have lt38 := Led.lt ho34
 have dis39 : ∀ q, F33 q → ¬ inA A2 q := fun q h1 h2 => by have h3 := hge35 q h1; have h4 := lt2 q h2; omega
 have hl32lt : l32 < w30.heap.size := Led.lt ho34 _ (Led.at_ ho34)
 have hl32ge := hge35 _ (Led.at_ ho34)
 refine On 7 [1, 5, 7, 8] ?_
 refine Oer ?_
 refine On 1 [1, 7, 8, 43] ?_
 refine Ok (kL 18 #[(.tmp 43)] #[49]) 18 #[.slice A2 ms.length cap2] (some 44) (new6_yes A2 cap2 ms _ (SlT.arg hA2) (by omega) (by rw [hms]; exact frL_ok fs)) ?_
 rintro _ w40 ⟨x42, F43, rfl, ho44, hk41, hge45⟩
 refine ⟨_, rfl, ?_⟩
 have hsz46 := Keep.size hk41
 replace hA2 := hA2.keep0 hk41
 replace hK0 := hK0.tn hk41
 replace ho34 := ho34.keep hk41 nk
 replace ho44 : DLd F43 w40 x42 (frX fs) [] := by rw [hms] at ho44; exact ho44
 have own47 : ∀ q, F43 q → w30.heap.size ≤ q := fun q hq => by have h1 := hge45 q hq; omega
 have lt48 := DLd.lt ho44
 have dis49 : ∀ q, F43 q → ¬ inA A2 q := fun q h1 h2 => by have h3 := hge45 q h1; have h4 := lt2 q h2; omega
 have dis50 : ∀ q, F43 q → ¬ F33 q := fun q h1 h2 => by have h3 := hge45 q h1; have h4 := lt38 q h2; omega
 have hx42lt : x42 < w40.heap.size := DLd.lt ho44 _ (DLd.at_ ho44)
 have hx42ge := hge45 _ (DLd.at_ ho44)
 refine On 7 [1, 7, 8, 9] ?_
 refine Oer ?_
 refine Ok (kL 20 #[] #[]) 20 #[] (some 48) (tracks_spec _) ?_
 rintro _ w53 ⟨A55, cap55, rfl, hA55, ow55, hk54⟩
 refine ⟨_, rfl, ?_⟩
 have hsz56 := Keep.size hk54
 replace hA2 := hA2.keep0 hk54
 replace hK0 := hK0.tn hk54
 replace ho34 := ho34.keep hk54 nk
 replace ho44 := DLd.keep ho44 hk54 nk
 have lt55 := SlT.lt hA55
 have dis57 : ∀ q, inA A55 q → ¬ F33 q := fun q h1 h2 => by have h3 := ow55 q h1; have h4 := lt38 q h2; omega
 have dis58 : ∀ q, inA A55 q → ¬ F43 q := fun q h1 h2 => by have h3 := ow55 q h1; have h4 := lt48 q h2; omega
 refine Ok (kL 19 #[(.tmp 48)] #[67]) 19 #[.slice A55 3 cap55] (some 49) (rnw_spec A55 cap55 actTs _ hA55 actTs_ok) ?_
 rintro _ w61 ⟨r63, gg67, H64, rfl, hR65, hk62, hge66⟩
 refine ⟨_, rfl, ?_⟩
 have hsz68 := Keep.size hk62
 replace hA2 := hA2.keep0 hk62
 replace hA55 := hA55.keep0 hk62
 replace hK0 := hK0.tn hk62
 replace ho34 := ho34.keep hk62 nk
 replace ho44 := DLd.keep ho44 hk62 nk
 have own69 : ∀ q, H64 q → w53.heap.size ≤ q := fun q hq => by have h1 := hge66 q hq; omega
 have lt70 := Rfr.lt hR65
 have dis71 : ∀ q, H64 q → ¬ inA A2 q := fun q h1 h2 => by have h3 := hge66 q h1; have h4 := lt2 q h2; omega
 have dis72 : ∀ q, H64 q → ¬ inA A55 q := fun q h1 h2 => by have h3 := hge66 q h1; have h4 := lt55 q h2; omega
 have dis73 : ∀ q, H64 q → ¬ F33 q := fun q h1 h2 => by have h3 := hge66 q h1; have h4 := lt38 q h2; omega
 have dis74 : ∀ q, H64 q → ¬ F43 q := fun q h1 h2 => by have h3 := hge66 q h1; have h4 := lt48 q h2; omega
 have hr63lt : r63 < w61.heap.size := Rfr.lt hR65 _ (Rfr.at_ hR65)
 have hr63ge := hge66 _ (Rfr.at_ hR65)
 refine On 7 [1, 7, 8, 9, 11, 12] ?_
 refine Oer ?_
 refine Ok (kL 20 #[] #[]) 20 #[] (some 53) (tracks_spec _) ?_
 rintro _ w77 ⟨A79, cap79, rfl, hA79, ow79, hk78⟩
 refine ⟨_, rfl, ?_⟩
 have hsz80 := Keep.size hk78
 replace hA2 := hA2.keep0 hk78
 replace hA55 := hA55.keep0 hk78
 replace hK0 := hK0.tn hk78
 replace ho34 := ho34.keep hk78 nk
 replace ho44 := DLd.keep ho44 hk78 nk
 replace hR65 := hR65.keep hk78 nk
 have lt79 := SlT.lt hA79
 have dis81 : ∀ q, inA A79 q → ¬ F33 q := fun q h1 h2 => by have h3 := ow79 q h1; have h4 := lt38 q h2; omega
 have dis82 : ∀ q, inA A79 q → ¬ F43 q := fun q h1 h2 => by have h3 := ow79 q h1; have h4 := lt48 q h2; omega
 have dis83 : ∀ q, inA A79 q → ¬ H64 q := fun q h1 h2 => by have h3 := ow79 q h1; have h4 := lt70 q h2; omega
 refine Ok (kL 21 #[(.tmp 53)] #[67]) 21 #[.slice A79 3 cap79] (some 54) (rnew12_spec A79 cap79 actTs _ hA79 actTs_ok) ?_
 rintro _ w84 ⟨x86, F87, rfl, ho88, hk85, hge89⟩
 refine ⟨_, rfl, ?_⟩
 have hsz90 := Keep.size hk85
 replace hA2 := hA2.keep0 hk85
 replace hA55 := hA55.keep0 hk85
 replace hA79 := hA79.keep0 hk85
 replace hK0 := hK0.tn hk85
 replace ho34 := ho34.keep hk85 nk
 replace ho44 := DLd.keep ho44 hk85 nk
 replace hR65 := hR65.keep hk85 nk
 have own91 : ∀ q, F87 q → w77.heap.size ≤ q := fun q hq => by have h1 := hge89 q hq; omega
 have lt92 := DRf.lt ho88
 have dis93 : ∀ q, F87 q → ¬ inA A2 q := fun q h1 h2 => by have h3 := hge89 q h1; have h4 := lt2 q h2; omega
 have dis94 : ∀ q, F87 q → ¬ inA A55 q := fun q h1 h2 => by have h3 := hge89 q h1; have h4 := lt55 q h2; omega
 have dis95 : ∀ q, F87 q → ¬ inA A79 q := fun q h1 h2 => by have h3 := hge89 q h1; have h4 := lt79 q h2; omega
 have dis96 : ∀ q, F87 q → ¬ F33 q := fun q h1 h2 => by have h3 := hge89 q h1; have h4 := lt38 q h2; omega
 have dis97 : ∀ q, F87 q → ¬ F43 q := fun q h1 h2 => by have h3 := hge89 q h1; have h4 := lt48 q h2; omega
 have dis98 : ∀ q, F87 q → ¬ H64 q := fun q h1 h2 => by have h3 := hge89 q h1; have h4 := lt70 q h2; omega
 have hx86lt : x86 < w84.heap.size := DRf.lt ho88 _ (DRf.at_ ho88)
 have hx86ge := hge89 _ (DRf.at_ ho88)
 refine On 7 [1, 7, 8, 9, 11, 12, 13] ?_
 refine Oer ?_
 refine On 1 [1, 7, 8, 9, 11, 12, 13, 57] ?_
 refine Ok (kL 22 #[] #[]) 22 #[] (some 58) (new_votT _) ?_
 rintro _ w103 ⟨g105, F106, rfl, ho107, hk104, hge108⟩
 refine ⟨_, rfl, ?_⟩
 have hsz109 := Keep.size hk104
 replace hA2 := hA2.keep0 hk104
 replace hA55 := hA55.keep0 hk104
 replace hA79 := hA79.keep0 hk104
 replace hK0 := hK0.tn hk104
 replace ho34 := ho34.keep hk104 nk
 replace ho44 := DLd.keep ho44 hk104 nk
 replace hR65 := hR65.keep hk104 nk
 replace ho88 := DRf.keep ho88 hk104 nk
 have own110 : ∀ q, F106 q → w84.heap.size ≤ q := fun q hq => by have h1 := hge108 q hq; omega
 have lt111 := VotT.lt ho107
 have dis112 : ∀ q, F106 q → ¬ inA A2 q := fun q h1 h2 => by have h3 := hge108 q h1; have h4 := lt2 q h2; omega
 have dis113 : ∀ q, F106 q → ¬ inA A55 q := fun q h1 h2 => by have h3 := hge108 q h1; have h4 := lt55 q h2; omega
 have dis114 : ∀ q, F106 q → ¬ inA A79 q := fun q h1 h2 => by have h3 := hge108 q h1; have h4 := lt79 q h2; omega
 have dis115 : ∀ q, F106 q → ¬ F33 q := fun q h1 h2 => by have h3 := hge108 q h1; have h4 := lt38 q h2; omega
 have dis116 : ∀ q, F106 q → ¬ F43 q := fun q h1 h2 => by have h3 := hge108 q h1; have h4 := lt48 q h2; omega
 have dis117 : ∀ q, F106 q → ¬ H64 q := fun q h1 h2 => by have h3 := hge108 q h1; have h4 := lt70 q h2; omega
 have dis118 : ∀ q, F106 q → ¬ F87 q := fun q h1 h2 => by have h3 := hge108 q h1; have h4 := lt92 q h2; omega
 have hg105lt : g105 < w103.heap.size := VotT.lt ho107 _ (VotT.at_ ho107)
 have hg105ge := hge108 _ (VotT.at_ ho107)
 refine On 4 [1, 7, 8, 11, 12, 13, 57, 58, 59, 60] ?_
 refine Ok (kL 23 #[] #[]) 23 #[] (some 61) (dnew_spec _) ?_
 rintro _ w121 ⟨g123, F124, rfl, ho125, hk122, hge126⟩
 refine ⟨_, rfl, ?_⟩
 have hsz127 := Keep.size hk122
 replace hA2 := hA2.keep0 hk122
 replace hA55 := hA55.keep0 hk122
 replace hA79 := hA79.keep0 hk122
 replace hK0 := hK0.tn hk122
 replace ho34 := ho34.keep hk122 nk
 replace ho44 := DLd.keep ho44 hk122 nk
 replace hR65 := hR65.keep hk122 nk
 replace ho88 := DRf.keep ho88 hk122 nk
 replace ho107 := ho107.keep hk122 nk
 have own128 : ∀ q, F124 q → w103.heap.size ≤ q := fun q hq => by have h1 := hge126 q hq; omega
 have lt129 := DVt.lt ho125
 have dis130 : ∀ q, F124 q → ¬ inA A2 q := fun q h1 h2 => by have h3 := hge126 q h1; have h4 := lt2 q h2; omega
 have dis131 : ∀ q, F124 q → ¬ inA A55 q := fun q h1 h2 => by have h3 := hge126 q h1; have h4 := lt55 q h2; omega
 have dis132 : ∀ q, F124 q → ¬ inA A79 q := fun q h1 h2 => by have h3 := hge126 q h1; have h4 := lt79 q h2; omega
 have dis133 : ∀ q, F124 q → ¬ F33 q := fun q h1 h2 => by have h3 := hge126 q h1; have h4 := lt38 q h2; omega
 have dis134 : ∀ q, F124 q → ¬ F43 q := fun q h1 h2 => by have h3 := hge126 q h1; have h4 := lt48 q h2; omega
 have dis135 : ∀ q, F124 q → ¬ H64 q := fun q h1 h2 => by have h3 := hge126 q h1; have h4 := lt70 q h2; omega
 have dis136 : ∀ q, F124 q → ¬ F87 q := fun q h1 h2 => by have h3 := hge126 q h1; have h4 := lt92 q h2; omega
 have dis137 : ∀ q, F124 q → ¬ F106 q := fun q h1 h2 => by have h3 := hge126 q h1; have h4 := lt111 q h2; omega
 have hg123lt : g123 < w121.heap.size := DVt.lt ho125 _ (DVt.at_ ho125)
 have hg123ge := hge126 _ (DVt.at_ ho125)
 refine On 7 [1, 7, 8, 11, 12, 63] ?_
 refine OI_box 38 (.tmp 63) (.agg #[pt l32, pt g105, pt r63, pt x42, pt g123, pt x86]) [pt l32, pt g105, pt r63, pt x42, pt g123, pt x86] (some 64) (by kernel_rfl) (by kernel_rfl) (by kernel_rfl) ?_
 intro b138 w138 e138 hb138 k138 z138
 have hsz139 := Keep.size k138
 replace hA2 := hA2.keep0 k138
 replace hA55 := hA55.keep0 k138
 replace hA79 := hA79.keep0 k138
 replace hK0 := hK0.tn k138
 replace ho34 := ho34.keep k138 nk
 replace ho44 := DLd.keep ho44 k138 nk
 replace hR65 := hR65.keep k138 nk
 replace ho88 := DRf.keep ho88 k138 nk
 replace ho107 := ho107.keep k138 nk
 replace ho125 := DVt.keep ho125 k138 nk
 have hb138lt := hb138.lt
 refine On 9 [1, 7, 8, 11, 12, 15] ?_
 refine Oe ?_
 refine V_seq ?_
 refine Vr ?_
 refine On 18 [1, 15, 79, 82] ?_
 refine Oc 32 (.tmp 82) 1 (pt g105) (some 83) hb138 rfl ?_
 refine Ose [(1, nt refs), (15, pt b138), (85, .bool false)] ?_
 refine V_false rfl ?_
 refine V_skip ?_
 refine X_then ?_
 refine V_seq ?_
 refine Vs [(1, nt refs), (15, pt b138), (16, nt 0)] ?_
 refine V_block ?_
 obtain ⟨B9, hp9, hB9⟩ := PrX.pack (B := fun q => w.heap.size ≤ q) (N := w.heap.size) (ts := actTs) (q := sbQ fs 0) hb138 hR65 ho107 ho34 ho44 ho125 ho88 (fun q h1 h2 => dis117 q h2 h1) dis73 dis74 (fun q h1 h2 => dis135 q h2 h1) (fun q h1 h2 => dis98 q h2 h1) dis115 dis116 (fun q h1 h2 => dis137 q h2 h1) dis118 (fun q h1 h2 => dis50 q h2 h1) (fun q h1 h2 => dis133 q h2 h1) (fun q h1 h2 => dis96 q h2 h1) (fun q h1 h2 => dis134 q h2 h1) (fun q h1 h2 => dis97 q h2 h1) dis136 (fun q h => by have h1 := own69 q h; have h2 := lt70 q h; omega) (fun q h => by have h1 := own110 q h; have h2 := lt111 q h; omega) (fun q h => by have h1 := own37 q h; have h2 := lt38 q h; omega) (fun q h => by have h1 := own47 q h; have h2 := lt48 q h; omega) (fun q h => by have h1 := own128 q h; have h2 := lt129 q h; omega) (fun q h => by have h1 := own91 q h; have h2 := lt92 q h; omega) (show w.heap.size ≤ b138 by omega) (fun q h => .inl (by have h1 := own69 q h; omega)) (fun q h => .inl (by have h1 := own110 q h; omega)) (fun q h => .inl (by have h1 := own37 q h; omega)) (fun q h => .inl (by have h1 := own47 q h; omega)) (fun q h => .inl (by have h1 := own128 q h; omega)) (fun q h => .inl (by have h1 := own91 q h; omega))
 have ow9 : ∀ q, B9 q → w.heap.size ≤ q := fun q hq => by rcases hB9 q hq with h | h; exact h; exact h
 have lt9 := Pr.lt hp9
 refine V_pick [(1, nt refs), (15, pt b138), (16, nt 0)] rfl ?_
 refine V_loop (fun k wI e => ∃ i : Nat, ∃ F140 : Nat → Prop, (k + i = nRef refs) ∧ (i ≤ 5) ∧ (Pr F140 wI b138 actTs (sbQ fs i)) ∧ (∀ q, F140 q → w.heap.size ≤ q) ∧ (∀ q, F140 q → B9 q ∨ w138.heap.size ≤ q) ∧ Keep B9 w138 wI ∧ e = [(1, nt refs), (15, pt b138), (16, nt (i : Int))]) (nRef refs) ⟨0, B9, by omega, by omega, hp9, (fun q hq => by have h1 := ow9 q hq; have h2 := lt9 q hq; omega), fun q h => .inl h, Keep.refl _ _, rfl⟩ ?_
 rintro k145 w144 _ ⟨i, F140, hki, hi5, ho141, own142, rel143, hk146, rfl⟩
 have hsz147 := Keep.size hk146
 replace hK0 := Keep.fresh hK0 hk146 (by intro i hi hs; have h1 := ow9 i hs; have h2 := lt9 i hs; omega)
 have hzhk146 := Keep.size hk146
 have lt148 := Pr.lt ho141
 have hb138lt : b138 < w144.heap.size := Pr.lt ho141 _ (Pr.at_ ho141)
 have hnr : nRef refs = min refs.toNat 5 := rfl
 obtain ⟨hBlt8, hBb8, H8, F8, G8, X8, Y8, Z8, r8, g8, v8, l8, x8, y8, z8, hpr8⟩ := ho141
 have hb8 := hpr8.blk
 have hb8lt := hb8.lt
 have hb8ow := own142 _ hBb8
 have hr8 := hpr8.hr
 have owH8 : ∀ q, H8 q → (w.heap.size ≤ q) ∧ q ≠ b138 := fun q hq => by have h1 := own142 q (hpr8.inH q hq).1; have h2 := (hpr8.inH q hq).2; omega
 have ltH8 := Rfr.lt hr8
 have hr8lt := ltH8 _ (Rfr.at_ hr8)
 have hr8ow := owH8 _ (Rfr.at_ hr8)
 have rlH80 : ∀ q, H8 q → B9 q ∨ w138.heap.size ≤ q := fun q hq => rel143 q (hpr8.inH q hq).1
 have rbH8 : ∀ q, H8 q → F140 q ∨ w144.heap.size ≤ q := fun q hq => .inl (hpr8.inH q hq).1
 have hv8 := hpr8.hv
 have owF8 : ∀ q, F8 q → (w.heap.size ≤ q) ∧ q ≠ b138 := fun q hq => by have h1 := own142 q (hpr8.inF q hq).1; have h2 := (hpr8.inF q hq).2; omega
 have ltF8 := VotT.lt hv8
 have hv8lt := ltF8 _ (VotT.at_ hv8)
 have hv8ow := owF8 _ (VotT.at_ hv8)
 have rlF80 : ∀ q, F8 q → B9 q ∨ w138.heap.size ≤ q := fun q hq => rel143 q (hpr8.inF q hq).1
 have rbF8 : ∀ q, F8 q → F140 q ∨ w144.heap.size ≤ q := fun q hq => .inl (hpr8.inF q hq).1
 have hl8 := hpr8.hl
 have owG8 : ∀ q, G8 q → (w.heap.size ≤ q) ∧ q ≠ b138 := fun q hq => by have h1 := own142 q (hpr8.inG q hq).1; have h2 := (hpr8.inG q hq).2; omega
 have ltG8 := Led.lt hl8
 have hl8lt := ltG8 _ (Led.at_ hl8)
 have hl8ow := owG8 _ (Led.at_ hl8)
 have rlG80 : ∀ q, G8 q → B9 q ∨ w138.heap.size ≤ q := fun q hq => rel143 q (hpr8.inG q hq).1
 have rbG8 : ∀ q, G8 q → F140 q ∨ w144.heap.size ≤ q := fun q hq => .inl (hpr8.inG q hq).1
 have hx8 := hpr8.hx
 have owX8 : ∀ q, X8 q → (w.heap.size ≤ q) ∧ q ≠ b138 := fun q hq => by have h1 := own142 q (hpr8.inX q hq).1; have h2 := (hpr8.inX q hq).2; omega
 have ltX8 := DLd.lt hx8
 have hx8lt := ltX8 _ (DLd.at_ hx8)
 have hx8ow := owX8 _ (DLd.at_ hx8)
 have rlX80 : ∀ q, X8 q → B9 q ∨ w138.heap.size ≤ q := fun q hq => rel143 q (hpr8.inX q hq).1
 have rbX8 : ∀ q, X8 q → F140 q ∨ w144.heap.size ≤ q := fun q hq => .inl (hpr8.inX q hq).1
 have hy8 := hpr8.hy
 have owY8 : ∀ q, Y8 q → (w.heap.size ≤ q) ∧ q ≠ b138 := fun q hq => by have h1 := own142 q (hpr8.inY q hq).1; have h2 := (hpr8.inY q hq).2; omega
 have ltY8 := DVt.lt hy8
 have hy8lt := ltY8 _ (DVt.at_ hy8)
 have hy8ow := owY8 _ (DVt.at_ hy8)
 have rlY80 : ∀ q, Y8 q → B9 q ∨ w138.heap.size ≤ q := fun q hq => rel143 q (hpr8.inY q hq).1
 have rbY8 : ∀ q, Y8 q → F140 q ∨ w144.heap.size ≤ q := fun q hq => .inl (hpr8.inY q hq).1
 have hz8 := hpr8.hz
 have owZ8 : ∀ q, Z8 q → (w.heap.size ≤ q) ∧ q ≠ b138 := fun q hq => by have h1 := own142 q (hpr8.inZ q hq).1; have h2 := (hpr8.inZ q hq).2; omega
 have ltZ8 := DRf.lt hz8
 have hz8lt := ltZ8 _ (DRf.at_ hz8)
 have hz8ow := owZ8 _ (DRf.at_ hz8)
 have rlZ80 : ∀ q, Z8 q → B9 q ∨ w138.heap.size ≤ q := fun q hq => rel143 q (hpr8.inZ q hq).1
 have rbZ8 : ∀ q, Z8 q → F140 q ∨ w144.heap.size ≤ q := fun q hq => .inl (hpr8.inZ q hq).1
 refine V_seq ?_
 refine Vr ?_
 refine Os 4 [(1, nt refs), (15, pt b138), (16, nt (i : Int)), (89, .bool (decide ((i : Int) < refs)))] ?_
 by_cases hg149 : (i : Int) < refs
 ·
  refine OI_eq [(1, nt refs), (15, pt b138), (16, nt (i : Int)), (89, .bool true)] (by first | simp [hg149] | rfl) ?_
  refine Ose [(1, nt refs), (15, pt b138), (16, nt (i : Int)), (90, nt (i : Int)), (91, .bool (decide ((i : Int) < 5))), (92, .bool (decide ((i : Int) < 5)))] ?_
  refine V_if ((i : Int) < 5) (by kernel_rfl) (fun hc150 => ?_) (fun hc150 => ?_)
  ·
   refine V_skip ?_
   refine X_then ?_
   refine V_seq ?_
   refine V_block ?_
   refine V_seq ?_
   refine V_draws (acts [17]) (fun q => q ≠ b138) [[0, 1, 2, 3, 4, 5, 6, 7, 8, 9, 10, 11, 12, 13, 14, 15, 16, 17]] (by kernel_rfl) (by repeat first | exact (by first | exact (by first | exact sure_body (by rintro _ _ ⟨_, _, h, _⟩; exact ⟨_, h⟩) | exact sure_body (by rintro _ _ ⟨_, _, h, _⟩; exact ⟨_, h⟩) | exact sure_body (by rintro _ _ ⟨h, _⟩; exact ⟨_, h⟩)) | exact sure_body (by rintro _ _ ⟨_, _, _, h, _⟩; exact ⟨_, h⟩)) | refine sure_then ?_ | refine sure_block ?_ | refine sure_join ?_) (by kernel_rfl) ?_
   intro w152 hk151 he153 L hL154
   have hsz155 := Keep.size hk151
   replace hb8 := hb8.k0 hk151
   replace hK0 := hK0.tn hk151
   replace hk146 := hk146.tn hk151
   replace hr8 := hr8.keep hk151 nk
   replace hv8 := hv8.keep hk151 nk
   replace hl8 := hl8.keep hk151 nk
   replace hx8 := DLd.keep hx8 hk151 nk
   replace hy8 := DVt.keep hy8 hk151 nk
   replace hz8 := DRf.keep hz8 hk151 nk
   have qhb8 := hb8
   have K156 : Keep (fun q => q ≠ b138) w152 w152 := Keep.refl _ _
   obtain rfl := List.mem_singleton.1 hL154
   refine Gn [3, 4, 5, 6, 7, 8, 9, 10, 11, 12, 13, 14, 15, 16, 17] [1, 15, 16, 90, 91, 97] ?_
   refine Gc 33 (.tmp 97) 2 (pt r8) (some 98) qhb8 (by show ¬ (b138 ≠ b138); omega) rfl ?_
   refine Gn [7, 8, 9, 10, 11, 12, 13, 14, 15, 16, 17] [1, 15, 16, 90, 91, 98, 101] ?_
   refine Gc 31 (.tmp 101) 0 (pt l8) (some 102) qhb8 (by show ¬ (b138 ≠ b138); omega) rfl ?_
   refine Gn [11, 12, 13, 14, 15, 16, 17] [1, 15, 16, 90, 91, 98, 102, 105] ?_
   refine Gc 32 (.tmp 105) 1 (pt v8) (some 106) qhb8 (by show ¬ (b138 ≠ b138); omega) rfl ?_
   have hw157 : IntKind.i64.wrap (1 + (i : Int)) = ((1 + i : Nat) : Int) := wrp
   refine Gs [14, 15, 16, 17] [(1, nt refs), (15, pt b138), (16, nt (i : Int)), (90, nt (i : Int)), (91, .bool (decide ((i : Int) < 5))), (98, pt r8), (102, pt l8), (106, pt v8), (108, nt (IntKind.i64.wrap (1 + (i : Int))))] ?_
   refine GI_eq [(1, nt refs), (15, pt b138), (16, nt (i : Int)), (90, nt (i : Int)), (91, .bool (decide ((i : Int) < 5))), (98, pt r8), (102, pt l8), (106, pt v8), (108, nt ((1 + i : Nat) : Int))] (by rw [hw157]) ?_
   refine Gs [17] [(1, nt refs), (15, pt b138), (16, nt (i : Int)), (90, nt (i : Int)), (91, .bool (decide ((i : Int) < 5))), (98, pt r8), (102, pt l8), (106, pt v8), (108, nt ((1 + i : Nat) : Int)), (110, nt (Int.tmod (i : Int) 3)), (111, .agg (hshc z0).toArray)] ?_
   refine GI_final 17 (by kernel_rfl) (by kernel_rfl) ?_
   refine Ok (kL 24 #[(.tmp 98), (.tmp 102), (.tmp 106), (.tmp 108), (.tmp 110), (.tmp 111), (.const (nt 0)), (.const (nt 0))] #[33, 31, 32, 3, 3, 40, 3, 3]) 24 #[pt r8, pt l8, pt v8, nt ((1 + i : Nat) : Int), nt (Int.tmod (i : Int) 3), .agg (hshc z0).toArray, nt 0, nt 0] (some 112) (submit_spec H8 r8 g8 actTs (sbQ fs i).rs F8 v8 (sbQ fs i).s G8 l8 (sbQ fs i).xs (sbQ fs i).cs ((1 + i : Nat) : Int) (Int.tmod (i : Int) 3) z0 0 0 _ hr8 hv8 hl8 hpr8.dHF hpr8.dHG hpr8.dFG) ?_
   rintro _ w160 ⟨rfl, ⟨F162, F165, F168, ho163, ho166, ho169, hfr164, hfr167, hfr170, hdis171, hdis172, hdis173⟩, hk161⟩
   refine ⟨_, rfl, ?_⟩
   have hsz174 := Keep.size hk161
   replace hb8 := hb8.keep hk161 (fun hs => by rcases hs with hs | hs | hs; (have u9 : _ = g8 := hs; have u0 := owH8 _ (Rfr.atg hr8); have u1 := ltH8 _ (Rfr.atg hr8); omega); (have u0 := owF8 _ hs; have u1 := ltF8 _ hs; omega); (have u0 := owG8 _ hs; have u1 := ltG8 _ hs; omega))
   replace hK0 := Keep.fresh hK0 hk161 (by intro i hi hs; first | exact hs | (rcases hs with hs | hs | hs; (have u9 : _ = g8 := hs; have u0 := owH8 _ (Rfr.atg hr8); have u1 := ltH8 _ (Rfr.atg hr8); omega); (have u0 := owF8 i hs; have u1 := ltF8 i hs; omega); (have u0 := owG8 i hs; have u1 := ltG8 i hs; omega)))
   replace hk146 := Keep.fresh hk146 hk161 (fun i hi hs => by rcases hs with hs | hs | hs; (replace hs : H8 i := (by rw [show i = g8 from hs]; exact (Rfr.atg hr8)); rcases rlH80 i hs with h | h; exact h; (exfalso; omega)); (rcases rlF80 i hs with h | h; exact h; (exfalso; omega)); (rcases rlG80 i hs with h | h; exact h; (exfalso; omega)))
   replace hx8 := DLd.keep hx8 hk161 (fun q hq hs => by rcases hs with hs | hs | hs; exact (fun q h1 h2 => hpr8.dHX q h2 h1) q hq (by rw [show q = g8 from hs]; exact (Rfr.atg hr8)); exact (fun q h1 h2 => hpr8.dFX q h2 h1) q hq hs; exact (fun q h1 h2 => hpr8.dGX q h2 h1) q hq hs)
   replace hy8 := DVt.keep hy8 hk161 (fun q hq hs => by rcases hs with hs | hs | hs; exact (fun q h1 h2 => hpr8.dHY q h2 h1) q hq (by rw [show q = g8 from hs]; exact (Rfr.atg hr8)); exact (fun q h1 h2 => hpr8.dFY q h2 h1) q hq hs; exact (fun q h1 h2 => hpr8.dGY q h2 h1) q hq hs)
   replace hz8 := DRf.keep hz8 hk161 (fun q hq hs => by rcases hs with hs | hs | hs; exact (fun q h1 h2 => hpr8.dHZ q h2 h1) q hq (by rw [show q = g8 from hs]; exact (Rfr.atg hr8)); exact (fun q h1 h2 => hpr8.dFZ q h2 h1) q hq hs; exact (fun q h1 h2 => hpr8.dGZ q h2 h1) q hq hs)
   have own176 : ∀ q, F162 q → w.heap.size ≤ q ∧ q ≠ b138 := fun q hq => by rcases hfr164 q hq with h | h; (have h1 := owH8 q h; have h2 := ltH8 q h; omega); omega
   have lt175 := Rfr.lt ho163
   have rel177 : ∀ q, F162 q → B9 q ∨ w138.heap.size ≤ q := fun q hq => by rcases hfr164 q hq with h | h; exact rlH80 q h; exact .inr (by omega)
   have rel178 : ∀ q, F162 q → F140 q ∨ w144.heap.size ≤ q := fun q hq => by rcases hfr164 q hq with h | h; exact rbH8 q h; exact .inr (by omega)
   have dis179 : ∀ q, F162 q → ¬ X8 q := fun q h1 h2 => by rcases hfr164 q h1 with h | h; exact hpr8.dHX q h h2; (have h4 := ltX8 q h2; omega)
   have dis180 : ∀ q, F162 q → ¬ Y8 q := fun q h1 h2 => by rcases hfr164 q h1 with h | h; exact hpr8.dHY q h h2; (have h4 := ltY8 q h2; omega)
   have dis181 : ∀ q, F162 q → ¬ Z8 q := fun q h1 h2 => by rcases hfr164 q h1 with h | h; exact hpr8.dHZ q h h2; (have h4 := ltZ8 q h2; omega)
   have own183 : ∀ q, F165 q → w.heap.size ≤ q ∧ q ≠ b138 := fun q hq => by rcases hfr167 q hq with h | h; (have h1 := owF8 q h; have h2 := ltF8 q h; omega); omega
   have lt182 := VotT.lt ho166
   have rel184 : ∀ q, F165 q → B9 q ∨ w138.heap.size ≤ q := fun q hq => by rcases hfr167 q hq with h | h; exact rlF80 q h; exact .inr (by omega)
   have rel185 : ∀ q, F165 q → F140 q ∨ w144.heap.size ≤ q := fun q hq => by rcases hfr167 q hq with h | h; exact rbF8 q h; exact .inr (by omega)
   have dis186 : ∀ q, F165 q → ¬ X8 q := fun q h1 h2 => by rcases hfr167 q h1 with h | h; exact hpr8.dFX q h h2; (have h4 := ltX8 q h2; omega)
   have dis187 : ∀ q, F165 q → ¬ Y8 q := fun q h1 h2 => by rcases hfr167 q h1 with h | h; exact hpr8.dFY q h h2; (have h4 := ltY8 q h2; omega)
   have dis188 : ∀ q, F165 q → ¬ Z8 q := fun q h1 h2 => by rcases hfr167 q h1 with h | h; exact hpr8.dFZ q h h2; (have h4 := ltZ8 q h2; omega)
   have own190 : ∀ q, F168 q → w.heap.size ≤ q ∧ q ≠ b138 := fun q hq => by rcases hfr170 q hq with h | h; (have h1 := owG8 q h; have h2 := ltG8 q h; omega); omega
   have lt189 := Led.lt ho169
   have rel191 : ∀ q, F168 q → B9 q ∨ w138.heap.size ≤ q := fun q hq => by rcases hfr170 q hq with h | h; exact rlG80 q h; exact .inr (by omega)
   have rel192 : ∀ q, F168 q → F140 q ∨ w144.heap.size ≤ q := fun q hq => by rcases hfr170 q hq with h | h; exact rbG8 q h; exact .inr (by omega)
   have dis193 : ∀ q, F168 q → ¬ X8 q := fun q h1 h2 => by rcases hfr170 q h1 with h | h; exact hpr8.dGX q h h2; (have h4 := ltX8 q h2; omega)
   have dis194 : ∀ q, F168 q → ¬ Y8 q := fun q h1 h2 => by rcases hfr170 q h1 with h | h; exact hpr8.dGY q h h2; (have h4 := ltY8 q h2; omega)
   have dis195 : ∀ q, F168 q → ¬ Z8 q := fun q h1 h2 => by rcases hfr170 q h1 with h | h; exact hpr8.dGZ q h h2; (have h4 := ltZ8 q h2; omega)
   replace ho163 : Rfr F162 w160 r8 g8 actTs (rwSub actTs (sbQ fs i) ((1 + i : Nat) : Int) (Int.tmod (i : Int) 3) 0 z0 0).rs := ho163
   replace ho166 : VotT F165 w160 v8 ((rwSub actTs (sbQ fs i) ((1 + i : Nat) : Int) (Int.tmod (i : Int) 3) 0 z0 0).s) := ho166
   replace ho169 : Led F168 w160 l8 (rwSub actTs (sbQ fs i) ((1 + i : Nat) : Int) (Int.tmod (i : Int) 3) 0 z0 0).xs (rwSub actTs (sbQ fs i) ((1 + i : Nat) : Int) (Int.tmod (i : Int) 3) 0 z0 0).cs := ho169
   refine Oe ?_
   refine V_draws (acts [17]) (fun q => q ≠ b138) [[0, 1, 2, 3, 4, 5, 6, 7, 8, 9, 10, 11, 12, 13, 14, 15, 16, 17]] (by kernel_rfl) (by repeat first | exact (by first | exact (by first | exact sure_body (by rintro _ _ ⟨_, _, h, _⟩; exact ⟨_, h⟩) | exact sure_body (by rintro _ _ ⟨_, _, h, _⟩; exact ⟨_, h⟩) | exact sure_body (by rintro _ _ ⟨h, _⟩; exact ⟨_, h⟩)) | exact sure_body (by rintro _ _ ⟨_, _, _, h, _⟩; exact ⟨_, h⟩)) | refine sure_then ?_ | refine sure_block ?_ | refine sure_join ?_) (by kernel_rfl) ?_
   intro w197 hk196 he198 L hL199
   have hsz200 := Keep.size hk196
   replace hb8 := hb8.k0 hk196
   replace hK0 := hK0.tn hk196
   replace hk146 := hk146.tn hk196
   replace hx8 := DLd.keep hx8 hk196 nk
   replace hy8 := DVt.keep hy8 hk196 nk
   replace hz8 := DRf.keep hz8 hk196 nk
   replace ho163 := ho163.keep hk196 nk
   replace ho166 := ho166.keep hk196 nk
   replace ho169 := ho169.keep hk196 nk
   have qhb8 := hb8
   have K201 : Keep (fun q => q ≠ b138) w197 w197 := Keep.refl _ _
   obtain rfl := List.mem_singleton.1 hL199
   refine Gn [3, 4, 5, 6, 7, 8, 9, 10, 11, 12, 13, 14, 15, 16, 17] [1, 15, 16, 90, 91, 115] ?_
   refine Gc 36 (.tmp 115) 5 (pt z8) (some 116) qhb8 (by show ¬ (b138 ≠ b138); omega) rfl ?_
   refine Gn [7, 8, 9, 10, 11, 12, 13, 14, 15, 16, 17] [1, 15, 16, 90, 91, 116, 119] ?_
   refine Gc 34 (.tmp 119) 3 (pt x8) (some 120) qhb8 (by show ¬ (b138 ≠ b138); omega) rfl ?_
   refine Gn [11, 12, 13, 14, 15, 16, 17] [1, 15, 16, 90, 91, 116, 120, 123] ?_
   refine Gc 35 (.tmp 123) 4 (pt y8) (some 124) qhb8 (by show ¬ (b138 ≠ b138); omega) rfl ?_
   have hw202 : IntKind.i64.wrap (1 + (i : Int)) = ((1 + i : Nat) : Int) := wrp
   refine Gs [14, 15, 16, 17] [(1, nt refs), (15, pt b138), (16, nt (i : Int)), (90, nt (i : Int)), (91, .bool (decide ((i : Int) < 5))), (116, pt z8), (120, pt x8), (124, pt y8), (126, nt (IntKind.i64.wrap (1 + (i : Int))))] ?_
   refine GI_eq [(1, nt refs), (15, pt b138), (16, nt (i : Int)), (90, nt (i : Int)), (91, .bool (decide ((i : Int) < 5))), (116, pt z8), (120, pt x8), (124, pt y8), (126, nt ((1 + i : Nat) : Int))] (by rw [hw202]) ?_
   refine Gs [17] [(1, nt refs), (15, pt b138), (16, nt (i : Int)), (90, nt (i : Int)), (91, .bool (decide ((i : Int) < 5))), (116, pt z8), (120, pt x8), (124, pt y8), (126, nt ((1 + i : Nat) : Int)), (128, nt (Int.tmod (i : Int) 3)), (129, .agg (hshc z0).toArray)] ?_
   refine GI_final 17 (by kernel_rfl) (by kernel_rfl) ?_
   refine Ok (kL 25 #[(.tmp 116), (.tmp 120), (.tmp 124), (.tmp 126), (.tmp 128), (.tmp 129), (.const (nt 0)), (.const (nt 0))] #[36, 34, 35, 3, 3, 40, 3, 3]) 25 #[pt z8, pt x8, pt y8, nt ((1 + i : Nat) : Int), nt (Int.tmod (i : Int) 3), .agg (hshc z0).toArray, nt 0, nt 0] (some 130) (rsub12_spec Z8 z8 actTs (sbQ fs i).rs Y8 y8 (sbQ fs i).s X8 x8 (sbQ fs i).xs (sbQ fs i).cs ((1 + i : Nat) : Int) (Int.tmod (i : Int) 3) z0 0 0 _ hz8 hy8 hx8 (fun q h1 h2 => hpr8.dYZ q h2 h1) (fun q h1 h2 => hpr8.dXZ q h2 h1) (fun q h1 h2 => hpr8.dXY q h2 h1)) ?_
   rintro _ w205 ⟨rfl, ⟨F207, F210, F213, ho208, ho211, ho214, hfr209, hfr212, hfr215, hdis216, hdis217, hdis218⟩, hk206⟩
   refine ⟨_, rfl, ?_⟩
   have hsz219 := Keep.size hk206
   replace hb8 := hb8.keep hk206 (fun hs => by rcases hs with hs | hs | hs; (have u0 := owZ8 _ hs; have u1 := ltZ8 _ hs; omega); (have u0 := owY8 _ hs; have u1 := ltY8 _ hs; omega); (have u0 := owX8 _ hs; have u1 := ltX8 _ hs; omega))
   replace hK0 := Keep.fresh hK0 hk206 (by intro i hi hs; first | exact hs | (rcases hs with hs | hs | hs; (have u0 := owZ8 i hs; have u1 := ltZ8 i hs; omega); (have u0 := owY8 i hs; have u1 := ltY8 i hs; omega); (have u0 := owX8 i hs; have u1 := ltX8 i hs; omega)))
   replace hk146 := Keep.fresh hk146 hk206 (fun i hi hs => by rcases hs with hs | hs | hs; (rcases rlZ80 i hs with h | h; exact h; (exfalso; omega)); (rcases rlY80 i hs with h | h; exact h; (exfalso; omega)); (rcases rlX80 i hs with h | h; exact h; (exfalso; omega)))
   replace ho163 := ho163.keep hk206 (fun q hq hs => by rcases hs with hs | hs | hs; exact dis181 q hq hs; exact dis180 q hq hs; exact dis179 q hq hs)
   replace ho166 := ho166.keep hk206 (fun q hq hs => by rcases hs with hs | hs | hs; exact dis188 q hq hs; exact dis187 q hq hs; exact dis186 q hq hs)
   replace ho169 := ho169.keep hk206 (fun q hq hs => by rcases hs with hs | hs | hs; exact dis195 q hq hs; exact dis194 q hq hs; exact dis193 q hq hs)
   have own221 : ∀ q, F207 q → w.heap.size ≤ q ∧ q ≠ b138 := fun q hq => by rcases hfr209 q hq with h | h; (have h1 := owZ8 q h; have h2 := ltZ8 q h; omega); omega
   have lt220 := DRf.lt ho208
   have rel222 : ∀ q, F207 q → B9 q ∨ w138.heap.size ≤ q := fun q hq => by rcases hfr209 q hq with h | h; exact rlZ80 q h; exact .inr (by omega)
   have rel223 : ∀ q, F207 q → F140 q ∨ w144.heap.size ≤ q := fun q hq => by rcases hfr209 q hq with h | h; exact rbZ8 q h; exact .inr (by omega)
   have dis224 : ∀ q, F207 q → ¬ F162 q := fun q h1 h2 => by rcases hfr209 q h1 with h | h; exact (fun q h1 h2 => dis181 q h2 h1) q h h2; (have h4 := lt175 q h2; omega)
   have dis225 : ∀ q, F207 q → ¬ F165 q := fun q h1 h2 => by rcases hfr209 q h1 with h | h; exact (fun q h1 h2 => dis188 q h2 h1) q h h2; (have h4 := lt182 q h2; omega)
   have dis226 : ∀ q, F207 q → ¬ F168 q := fun q h1 h2 => by rcases hfr209 q h1 with h | h; exact (fun q h1 h2 => dis195 q h2 h1) q h h2; (have h4 := lt189 q h2; omega)
   have own228 : ∀ q, F210 q → w.heap.size ≤ q ∧ q ≠ b138 := fun q hq => by rcases hfr212 q hq with h | h; (have h1 := owY8 q h; have h2 := ltY8 q h; omega); omega
   have lt227 := DVt.lt ho211
   have rel229 : ∀ q, F210 q → B9 q ∨ w138.heap.size ≤ q := fun q hq => by rcases hfr212 q hq with h | h; exact rlY80 q h; exact .inr (by omega)
   have rel230 : ∀ q, F210 q → F140 q ∨ w144.heap.size ≤ q := fun q hq => by rcases hfr212 q hq with h | h; exact rbY8 q h; exact .inr (by omega)
   have dis231 : ∀ q, F210 q → ¬ F162 q := fun q h1 h2 => by rcases hfr212 q h1 with h | h; exact (fun q h1 h2 => dis180 q h2 h1) q h h2; (have h4 := lt175 q h2; omega)
   have dis232 : ∀ q, F210 q → ¬ F165 q := fun q h1 h2 => by rcases hfr212 q h1 with h | h; exact (fun q h1 h2 => dis187 q h2 h1) q h h2; (have h4 := lt182 q h2; omega)
   have dis233 : ∀ q, F210 q → ¬ F168 q := fun q h1 h2 => by rcases hfr212 q h1 with h | h; exact (fun q h1 h2 => dis194 q h2 h1) q h h2; (have h4 := lt189 q h2; omega)
   have own235 : ∀ q, F213 q → w.heap.size ≤ q ∧ q ≠ b138 := fun q hq => by rcases hfr215 q hq with h | h; (have h1 := owX8 q h; have h2 := ltX8 q h; omega); omega
   have lt234 := DLd.lt ho214
   have rel236 : ∀ q, F213 q → B9 q ∨ w138.heap.size ≤ q := fun q hq => by rcases hfr215 q hq with h | h; exact rlX80 q h; exact .inr (by omega)
   have rel237 : ∀ q, F213 q → F140 q ∨ w144.heap.size ≤ q := fun q hq => by rcases hfr215 q hq with h | h; exact rbX8 q h; exact .inr (by omega)
   have dis238 : ∀ q, F213 q → ¬ F162 q := fun q h1 h2 => by rcases hfr215 q h1 with h | h; exact (fun q h1 h2 => dis179 q h2 h1) q h h2; (have h4 := lt175 q h2; omega)
   have dis239 : ∀ q, F213 q → ¬ F165 q := fun q h1 h2 => by rcases hfr215 q h1 with h | h; exact (fun q h1 h2 => dis186 q h2 h1) q h h2; (have h4 := lt182 q h2; omega)
   have dis240 : ∀ q, F213 q → ¬ F168 q := fun q h1 h2 => by rcases hfr215 q h1 with h | h; exact (fun q h1 h2 => dis193 q h2 h1) q h h2; (have h4 := lt189 q h2; omega)
   replace ho214 : DLd F213 w205 x8 (rwSub actTs (sbQ fs i) ((1 + i : Nat) : Int) (Int.tmod (i : Int) 3) 0 z0 0).xs (rwSub actTs (sbQ fs i) ((1 + i : Nat) : Int) (Int.tmod (i : Int) 3) 0 z0 0).cs := ho214
   replace ho211 : DVt F210 w205 y8 ((rwSub actTs (sbQ fs i) ((1 + i : Nat) : Int) (Int.tmod (i : Int) 3) 0 z0 0).s) := ho211
   replace ho208 : DRf F207 w205 z8 actTs (rwSub actTs (sbQ fs i) ((1 + i : Nat) : Int) (Int.tmod (i : Int) 3) 0 z0 0).rs := ho208
   refine OI_end rfl ?_
   refine X_block ?_
   refine X_then ?_
   refine V_region ?_
   have hw241 : IntKind.i64.wrap ((i : Int) + 1) = ((i + 1 : Nat) : Int) := wrp
   refine Os 2 [(1, nt refs), (15, pt b138), (90, nt (i : Int)), (91, .bool (decide ((i : Int) < 5))), (94, nt (IntKind.i64.wrap ((i : Int) + 1)))] ?_
   refine Oq (u := nt (IntKind.i64.wrap ((i : Int) + 1))) (v := nt ((i + 1 : Nat) : Int)) 94 (by rw [hw241]) ?_
   refine Os 3 [(1, nt refs), (15, pt b138), (16, nt ((i + 1 : Nat) : Int)), (90, nt (i : Int)), (91, .bool (decide ((i : Int) < 5)))] ?_
   refine OI_end rfl ?_
   obtain ⟨B242, ho243, hfr244⟩ := PrX.pack (B := F140) (N := w144.heap.size) (ts := actTs) (q := (sbQ fs (i + 1))) hb8 ho163 ho166 ho169 ho214 ho211 ho208 hdis171 hdis172 (fun q h1 h2 => dis238 q h2 h1) (fun q h1 h2 => dis231 q h2 h1) (fun q h1 h2 => dis224 q h2 h1) hdis173 (fun q h1 h2 => dis239 q h2 h1) (fun q h1 h2 => dis232 q h2 h1) (fun q h1 h2 => dis225 q h2 h1) (fun q h1 h2 => dis240 q h2 h1) (fun q h1 h2 => dis233 q h2 h1) (fun q h1 h2 => dis226 q h2 h1) (fun q h1 h2 => hdis218 q h2 h1) (fun q h1 h2 => hdis217 q h2 h1) (fun q h1 h2 => hdis216 q h2 h1) (fun q h => by have h1 := own176 q h; omega) (fun q h => by have h1 := own183 q h; omega) (fun q h => by have h1 := own190 q h; omega) (fun q h => by have h1 := own235 q h; omega) (fun q h => by have h1 := own228 q h; omega) (fun q h => by have h1 := own221 q h; omega) hBb8 rel178 rel185 rel192 rel237 rel230 rel223
   have own246 : ∀ q, B242 q → w.heap.size ≤ q := fun q hq => by rcases hfr244 q hq with h | h; (have h1 := own142 q h; have h2 := lt148 q h; omega); omega
   have lt245 := Pr.lt ho243
   have rel247 : ∀ q, B242 q → B9 q ∨ w138.heap.size ≤ q := fun q hq => by rcases hfr244 q hq with h | h; exact rel143 q h; exact .inr (by omega)
   exact V_again (k145 - 1) (by omega) [(1, nt refs), (15, pt b138), (16, nt ((i + 1 : Nat) : Int))] rfl ⟨i + 1, B242, by omega, by omega, ho243, (fun q hq => by have h1 := own246 q hq; have h2 := lt245 q hq; omega), rel247, hk146, rfl⟩
  refine V_exit ?_
  refine X_exit_then ?_
  refine X_exit_then ?_
  refine X_exit_here ?_
  refine X_then ?_
  refine Vs [(4, pt b138)] ?_
  refine V_ret ?_
  obtain ⟨B248, ho249, hfr250⟩ := PrX.pack (B := F140) (N := w144.heap.size) (ts := actTs) (q := (sbQ fs i)) hb8 hr8 hv8 hl8 hx8 hy8 hz8 hpr8.dHF hpr8.dHG hpr8.dHX hpr8.dHY hpr8.dHZ hpr8.dFG hpr8.dFX hpr8.dFY hpr8.dFZ hpr8.dGX hpr8.dGY hpr8.dGZ hpr8.dXY hpr8.dXZ hpr8.dYZ (fun q h => by have h1 := owH8 q h; omega) (fun q h => by have h1 := owF8 q h; omega) (fun q h => by have h1 := owG8 q h; omega) (fun q h => by have h1 := owX8 q h; omega) (fun q h => by have h1 := owY8 q h; omega) (fun q h => by have h1 := owZ8 q h; omega) hBb8 rbH8 rbF8 rbG8 rbX8 rbY8 rbZ8
  have own252 : ∀ q, B248 q → w.heap.size ≤ q := fun q hq => by rcases hfr250 q hq with h | h; (have h1 := own142 q h; have h2 := lt148 q h; omega); omega
  have lt251 := Pr.lt ho249
  have rel253 : ∀ q, B248 q → B9 q ∨ w138.heap.size ≤ q := fun q hq => by rcases hfr250 q hq with h | h; exact rel143 q h; exact .inr (by omega)
  have hie : i = nRef refs := by omega
  rw [hie] at ho249
  exact X_return _ rfl ⟨b138, B248, rfl, ho249, hK0, fun q hq => by have h1 := own252 q hq; omega⟩
 refine OI_eq [(1, nt refs), (15, pt b138), (16, nt (i : Int)), (89, .bool false)] (by first | simp [hg149] | rfl) ?_
 refine Ose [(1, nt refs), (15, pt b138), (16, nt (i : Int)), (90, undef), (91, undef), (92, .bool false)] ?_
 refine V_false rfl ?_
 refine V_exit ?_
 refine X_exit_then ?_
 refine X_exit_then ?_
 refine X_exit_here ?_
 refine X_then ?_
 refine Vs [(4, pt b138)] ?_
 refine V_ret ?_
 obtain ⟨B254, ho255, hfr256⟩ := PrX.pack (B := F140) (N := w144.heap.size) (ts := actTs) (q := (sbQ fs i)) hb8 hr8 hv8 hl8 hx8 hy8 hz8 hpr8.dHF hpr8.dHG hpr8.dHX hpr8.dHY hpr8.dHZ hpr8.dFG hpr8.dFX hpr8.dFY hpr8.dFZ hpr8.dGX hpr8.dGY hpr8.dGZ hpr8.dXY hpr8.dXZ hpr8.dYZ (fun q h => by have h1 := owH8 q h; omega) (fun q h => by have h1 := owF8 q h; omega) (fun q h => by have h1 := owG8 q h; omega) (fun q h => by have h1 := owX8 q h; omega) (fun q h => by have h1 := owY8 q h; omega) (fun q h => by have h1 := owZ8 q h; omega) hBb8 rbH8 rbF8 rbG8 rbX8 rbY8 rbZ8
 have own258 : ∀ q, B254 q → w.heap.size ≤ q := fun q hq => by rcases hfr256 q hq with h | h; (have h1 := own142 q h; have h2 := lt148 q h; omega); omega
 have lt257 := Pr.lt ho255
 have rel259 : ∀ q, B254 q → B9 q ∨ w138.heap.size ≤ q := fun q hq => by rcases hfr256 q hq with h | h; exact rel143 q h; exact .inr (by omega)
 have hie : i = nRef refs := by omega
 rw [hie] at ho255
 exact X_return _ rfl ⟨b138, B254, rfl, ho255, hK0, fun q hq => by have h1 := own258 q hq; omega⟩
end Go.Al

namespace Go.Al
open Go Go.RowKit Go.Proofs
set_option maxRecDepth 20000 in
set_option maxHeartbeats 4000000 in
theorem alike_ac (B : Nat → Prop) (b : Nat) (q : RW) (w : World) (h : Pr B w b actTs q) : Calls Tryz.prog 16 #[pt b] w (rk_ w (.bool true)) := by
 have ltB := Pr.lt h
 have hBb := Pr.at_ h
 have hblt := ltB _ hBb
 have hoB : ∀ q, B q → 0 ≤ q := fun q _ => Nat.zero_le q
 have hK0 : Keep none_ w w := Keep.refl _ _
 have hzhK0 := Keep.size hK0
 refine enterV Tryz.func16 rfl [pt b] 76 rfl rfl rfl ?_
 obtain ⟨hBlt, hBb, H, F, G, X, Y, Z, r, g, v, l, x, y, z, hpr⟩ := h
 have hb := hpr.blk
 have hblt := hb.lt
 have hbow := hoB _ hBb
 have hr := hpr.hr
 have owH : ∀ q, H q → (0 ≤ q) ∧ q ≠ b := fun q hq => by have h1 := hoB q (hpr.inH q hq).1; have h2 := (hpr.inH q hq).2; omega
 have ltH := Rfr.lt hr
 have hrlt := ltH _ (Rfr.at_ hr)
 have hrow := owH _ (Rfr.at_ hr)
 have rbH : ∀ q, H q → B q ∨ w.heap.size ≤ q := fun q hq => .inl (hpr.inH q hq).1
 have hv := hpr.hv
 have owF : ∀ q, F q → (0 ≤ q) ∧ q ≠ b := fun q hq => by have h1 := hoB q (hpr.inF q hq).1; have h2 := (hpr.inF q hq).2; omega
 have ltF := VotT.lt hv
 have hvlt := ltF _ (VotT.at_ hv)
 have hvow := owF _ (VotT.at_ hv)
 have rbF : ∀ q, F q → B q ∨ w.heap.size ≤ q := fun q hq => .inl (hpr.inF q hq).1
 have hl := hpr.hl
 have owG : ∀ q, G q → (0 ≤ q) ∧ q ≠ b := fun q hq => by have h1 := hoB q (hpr.inG q hq).1; have h2 := (hpr.inG q hq).2; omega
 have ltG := Led.lt hl
 have hllt := ltG _ (Led.at_ hl)
 have hlow := owG _ (Led.at_ hl)
 have rbG : ∀ q, G q → B q ∨ w.heap.size ≤ q := fun q hq => .inl (hpr.inG q hq).1
 have hx := hpr.hx
 have owX : ∀ q, X q → (0 ≤ q) ∧ q ≠ b := fun q hq => by have h1 := hoB q (hpr.inX q hq).1; have h2 := (hpr.inX q hq).2; omega
 have ltX := DLd.lt hx
 have hxlt := ltX _ (DLd.at_ hx)
 have hxow := owX _ (DLd.at_ hx)
 have rbX : ∀ q, X q → B q ∨ w.heap.size ≤ q := fun q hq => .inl (hpr.inX q hq).1
 have hy := hpr.hy
 have owY : ∀ q, Y q → (0 ≤ q) ∧ q ≠ b := fun q hq => by have h1 := hoB q (hpr.inY q hq).1; have h2 := (hpr.inY q hq).2; omega
 have ltY := DVt.lt hy
 have hylt := ltY _ (DVt.at_ hy)
 have hyow := owY _ (DVt.at_ hy)
 have rbY : ∀ q, Y q → B q ∨ w.heap.size ≤ q := fun q hq => .inl (hpr.inY q hq).1
 have hz := hpr.hz
 have owZ : ∀ q, Z q → (0 ≤ q) ∧ q ≠ b := fun q hq => by have h1 := hoB q (hpr.inZ q hq).1; have h2 := (hpr.inZ q hq).2; omega
 have ltZ := DRf.lt hz
 have hzlt := ltZ _ (DRf.at_ hz)
 have hzow := owZ _ (DRf.at_ hz)
 have rbZ : ∀ q, Z q → B q ∨ w.heap.size ≤ q := fun q hq => .inl (hpr.inZ q hq).1
 have hrl9 := (DRf.rinv hz).inn.rl
 refine Vr ?_
 refine On 1 [0] ?_
 refine Oe ?_
 refine V_seq ?_
 refine Vs [(0, pt b), (3, nt 0)] ?_
 refine V_block ?_
 refine V_pick [(0, pt b), (3, nt 0)] rfl ?_
 refine V_loop (fun k wI e => ∃ j : Nat, (k + j = 10) ∧ Keep none_ w wI ∧ e = [(0, pt b), (3, nt (j : Int))]) 10 ⟨0, by omega, Keep.refl _ _, rfl⟩ ?_
 rintro k2 w1 _ ⟨j, hkj, hk3, rfl⟩
 have hsz4 := Keep.size hk3
 replace hb := hb.k0 hk3
 replace hK0 := hK0.tn hk3
 replace hr := hr.keep hk3 nk
 replace hv := hv.keep hk3 nk
 replace hl := hl.keep hk3 nk
 replace hx := DLd.keep hx hk3 nk
 replace hy := DVt.keep hy hk3 nk
 replace hz := DRf.keep hz hk3 nk
 have hzhk3 := Keep.size hk3
 refine V_seq ?_
 refine Vs [(0, pt b), (3, nt (j : Int)), (8, .bool (decide ((j : Int) < 10)))] ?_
 refine V_if ((j : Int) < 10) (by kernel_rfl) (fun hc5 => ?_) (fun hc5 => ?_)
 ·
  refine V_skip ?_
  refine X_then ?_
  refine V_seq ?_
  refine V_block ?_
  refine V_seq ?_
  refine V_draws (acts [5, 11, 19, 25]) none_ [[0, 1, 2, 3, 4, 5, 6, 7, 8, 9, 10, 11, 12, 13, 14, 15, 16, 17, 18, 19, 20, 21, 22, 23, 24, 25, 26, 27]] (by kernel_rfl) (by repeat first | exact (by first | exact (by first | exact sure_body (by rintro _ _ ⟨_, _, h, _⟩; exact ⟨_, h⟩) | exact sure_body (by rintro _ _ ⟨_, _, h, _⟩; exact ⟨_, h⟩) | exact sure_body (by rintro _ _ ⟨h, _⟩; exact ⟨_, h⟩))) | refine sure_then ?_ | refine sure_block ?_ | refine sure_join ?_) (by kernel_rfl) ?_
  intro w7 hk6 he8 L hL9
  have hsz10 := Keep.size hk6
  replace hb := hb.k0 hk6
  replace hK0 := hK0.tn hk6
  replace hr := hr.keep hk6 nk
  replace hv := hv.keep hk6 nk
  replace hl := hl.keep hk6 nk
  replace hx := DLd.keep hx hk6 nk
  replace hy := DVt.keep hy hk6 nk
  replace hz := DRf.keep hz hk6 nk
  replace hk3 := hk3.tn hk6
  have qhb := hb
  have K11 : Keep none_ w7 w7 := Keep.refl _ _
  obtain rfl := List.mem_singleton.1 hL9
  refine Gn [3, 4, 5, 6, 7, 8, 9, 10, 11, 12, 13, 14, 15, 16, 17, 18, 19, 20, 21, 22, 23, 24, 25, 26, 27] [0, 3, 13] ?_
  refine Gc0 31 (.tmp 13) 0 (pt l) (some 14) qhb rfl ?_
  refine Gs [5, 6, 7, 8, 9, 10, 11, 12, 13, 14, 15, 16, 17, 18, 19, 20, 21, 22, 23, 24, 25, 26, 27] [(0, pt b), (3, nt (j : Int)), (14, pt l), (15, nt (j : Int))] ?_
  refine Gk (kL 13 #[(.tmp 14), (.tmp 15)] #[31, 3]) 13 #[pt l, nt (j : Int)] (some 16) (free_spec G l q.xs q.cs (j : Int) _ hl) ?_
  rintro _ w12 ⟨rfl, hk13⟩
  have K14 := K11.tr (Keep.ofNone hk13)
  refine ⟨_, rfl, K14, ?_⟩
  have hzK14 := Keep.size K14
  have hsz15 := Keep.size hk13
  replace hb := hb.k0 hk13
  replace hK0 := hK0.tn hk13
  replace hr := hr.keep hk13 nk
  replace hv := hv.keep hk13 nk
  replace hl := hl.keep hk13 nk
  replace hx := DLd.keep hx hk13 nk
  replace hy := DVt.keep hy hk13 nk
  replace hz := DRf.keep hz hk13 nk
  replace hk3 := hk3.tn hk13
  refine Gn [9, 10, 11, 12, 13, 14, 15, 16, 17, 18, 19, 20, 21, 22, 23, 24, 25, 26, 27] [0, 3, 16, 19] ?_
  refine Gc0 34 (.tmp 19) 3 (pt x) (some 20) qhb rfl ?_
  refine Gs [11, 12, 13, 14, 15, 16, 17, 18, 19, 20, 21, 22, 23, 24, 25, 26, 27] [(0, pt b), (3, nt (j : Int)), (16, nt ((acct q.xs (j : Int)).free)), (20, pt x), (21, nt (j : Int))] ?_
  refine Gk (kL 35 #[(.tmp 20), (.tmp 21)] #[34, 3]) 35 #[pt x, nt (j : Int)] (some 22) (free6_spec X x q.xs q.cs (j : Int) _ hx) ?_
  rintro _ w16 ⟨rfl, hk17⟩
  have K18 := K14.tr (Keep.ofNone hk17)
  refine ⟨_, rfl, K18, ?_⟩
  have hzK18 := Keep.size K18
  have hsz19 := Keep.size hk17
  replace hb := hb.k0 hk17
  replace hK0 := hK0.tn hk17
  replace hr := hr.keep hk17 nk
  replace hv := hv.keep hk17 nk
  replace hl := hl.keep hk17 nk
  replace hx := DLd.keep hx hk17 nk
  replace hy := DVt.keep hy hk17 nk
  replace hz := DRf.keep hz hk17 nk
  replace hk3 := hk3.tn hk17
  refine Gs [14, 15, 16, 17, 18, 19, 20, 21, 22, 23, 24, 25, 26, 27] [(0, pt b), (3, nt (j : Int)), (24, .bool (!(decide ((acct q.xs (j : Int)).free = (acct q.xs (j : Int)).free))))] ?_
  refine GI_eq [(0, pt b), (3, nt (j : Int)), (24, .bool false)] (by rw [decide_eq_true (rfl : (acct q.xs (j : Int)).free = (acct q.xs (j : Int)).free)]; rfl) ?_
  refine Gn [17, 18, 19, 20, 21, 22, 23, 24, 25, 26, 27] [0, 3, 24, 25, 26, 27] ?_
  refine Gc0 31 (.tmp 27) 0 (pt l) (some 28) qhb rfl ?_
  refine Gs [19, 20, 21, 22, 23, 24, 25, 26, 27] [(0, pt b), (3, nt (j : Int)), (24, .bool false), (25, pt b), (26, pt b), (27, pt b), (28, pt l), (29, nt (j : Int))] ?_
  refine Gk (kL 36 #[(.tmp 28), (.tmp 29)] #[31, 3]) 36 #[pt l, nt (j : Int)] (some 30) (held_spec G l q.xs q.cs (j : Int) _ hl) ?_
  rintro _ w21 ⟨rfl, hk22⟩
  have K23 := K18.tr (Keep.ofNone hk22)
  refine ⟨_, rfl, K23, ?_⟩
  have hzK23 := Keep.size K23
  have hsz24 := Keep.size hk22
  replace hb := hb.k0 hk22
  replace hK0 := hK0.tn hk22
  replace hr := hr.keep hk22 nk
  replace hv := hv.keep hk22 nk
  replace hl := hl.keep hk22 nk
  replace hx := DLd.keep hx hk22 nk
  replace hy := DVt.keep hy hk22 nk
  replace hz := DRf.keep hz hk22 nk
  replace hk3 := hk3.tn hk22
  refine Gn [23, 24, 25, 26, 27] [0, 3, 24, 25, 26, 27, 28, 29, 30, 31, 32, 33] ?_
  refine Gc0 34 (.tmp 33) 3 (pt x) (some 34) qhb rfl ?_
  refine Gn [25, 26, 27] [0, 3, 24, 25, 26, 27, 28, 29, 30, 31, 32, 33, 34, 35] ?_
  refine Gk0 (kL 37 #[(.tmp 34), (.tmp 35)] #[34, 3]) 37 #[pt x, nt (j : Int)] (some 36) (held6_spec X x q.xs q.cs (j : Int) _ hx) ?_
  rintro _ w25 ⟨rfl, hk26⟩
  refine ⟨_, rfl, ?_⟩
  have hsz27 := Keep.size hk26
  replace hb := hb.k0 hk26
  replace hK0 := hK0.tn hk26
  replace hr := hr.keep hk26 nk
  replace hv := hv.keep hk26 nk
  replace hl := hl.keep hk26 nk
  replace hx := DLd.keep hx hk26 nk
  replace hy := DVt.keep hy hk26 nk
  replace hz := DRf.keep hz hk26 nk
  replace hk3 := hk3.tn hk26
  refine Gs [] [(0, pt b), (3, nt (j : Int)), (25, pt b), (26, pt b), (27, pt b), (28, pt l), (29, nt (j : Int)), (30, nt ((acct q.xs (j : Int)).held)), (31, pt b), (32, pt b), (33, po_ b 3), (34, pt x), (35, nt (j : Int)), (36, nt ((acct q.xs (j : Int)).held)), (37, .bool (!(decide ((acct q.xs (j : Int)).held = (acct q.xs (j : Int)).held)))), (38, .bool (!(decide ((acct q.xs (j : Int)).held = (acct q.xs (j : Int)).held))))] ?_
  refine GI_end ?_
  refine X_then ?_
  refine V_eq [(0, pt b), (3, nt (j : Int)), (25, pt b), (26, pt b), (27, pt b), (28, pt l), (29, nt (j : Int)), (30, nt ((acct q.xs (j : Int)).held)), (31, pt b), (32, pt b), (33, po_ b 3), (34, pt x), (35, nt (j : Int)), (36, nt ((acct q.xs (j : Int)).held)), (37, .bool (!(decide ((acct q.xs (j : Int)).held = (acct q.xs (j : Int)).held)))), (38, .bool false)] (by rw [decide_eq_true (rfl : (acct q.xs (j : Int)).held = (acct q.xs (j : Int)).held)]; rfl) ?_
  refine V_false rfl ?_
  refine V_skip ?_
  refine X_block ?_
  refine X_then ?_
  refine V_region ?_
  have hw29 : IntKind.i64.wrap ((j : Int) + 1) = ((j + 1 : Nat) : Int) := wrp
  refine Os 2 [(0, pt b), (10, nt (IntKind.i64.wrap ((j : Int) + 1))), (25, pt b), (26, pt b), (27, pt b), (28, pt l), (29, nt (j : Int)), (30, nt ((acct q.xs (j : Int)).held)), (31, pt b), (32, pt b), (33, po_ b 3), (34, pt x), (35, nt (j : Int)), (36, nt ((acct q.xs (j : Int)).held)), (37, .bool (!(decide ((acct q.xs (j : Int)).held = (acct q.xs (j : Int)).held))))] ?_
  refine Oq (u := nt (IntKind.i64.wrap ((j : Int) + 1))) (v := nt ((j + 1 : Nat) : Int)) 10 (by rw [hw29]) ?_
  refine Os 3 [(0, pt b), (3, nt ((j + 1 : Nat) : Int)), (25, pt b), (26, pt b), (27, pt b), (28, pt l), (29, nt (j : Int)), (30, nt ((acct q.xs (j : Int)).held)), (31, pt b), (32, pt b), (33, po_ b 3), (34, pt x), (35, nt (j : Int)), (36, nt ((acct q.xs (j : Int)).held)), (37, .bool (!(decide ((acct q.xs (j : Int)).held = (acct q.xs (j : Int)).held))))] ?_
  refine OI_end rfl ?_
  exact V_again (k2 - 1) (by omega) [(0, pt b), (3, nt ((j + 1 : Nat) : Int))] rfl ⟨j + 1, by omega, hk3, rfl⟩
 refine V_exit ?_
 refine X_exit_then ?_
 refine X_exit_then ?_
 refine X_exit_here ?_
 refine X_then ?_
 refine V_seq ?_
 refine Vs [(0, pt b), (4, nt 0)] ?_
 refine V_block ?_
 refine V_pick [(0, pt b), (4, nt 0)] rfl ?_
 refine V_loop (fun k wI e => ∃ i : Nat, (k + i = q.rs.length) ∧ Keep none_ w1 wI ∧ e = [(0, pt b), (4, nt (i : Int))]) q.rs.length ⟨0, by omega, Keep.refl _ _, rfl⟩ ?_
 rintro k31 w30 _ ⟨i, hki, hk32, rfl⟩
 have hsz33 := Keep.size hk32
 replace hb := hb.k0 hk32
 replace hK0 := hK0.tn hk32
 replace hr := hr.keep hk32 nk
 replace hv := hv.keep hk32 nk
 replace hl := hl.keep hk32 nk
 replace hx := DLd.keep hx hk32 nk
 replace hy := DVt.keep hy hk32 nk
 replace hz := DRf.keep hz hk32 nk
 have hzhk32 := Keep.size hk32
 refine V_seq ?_
 refine Vr ?_
 refine On 4 [0, 4, 39, 42] ?_
 refine Oc 36 (.tmp 42) 5 (pt z) (some 43) hb rfl ?_
 refine On 7 [0, 4, 39, 45] ?_
 obtain ⟨hrv34, hHz34, hHlt34, A34, cap34, B34, capb34, hdz34⟩ := hz
 have hz34 := hdz34.blk
 have hA34 := hdz34.tl
 have hB34 := hdz34.rl
 have hz34lt := ltZ _ hHz34
 have hrl34 := hrv34.inn.rl
 have htl34 := hrv34.inn.tl
 have hz34ow := owZ _ hHz34
 have owA34 : ∀ q, inA A34 q → 0 ≤ q ∧ q ≠ z ∧ q ≠ b := fun q hq => by obtain ⟨h1, h4⟩ := hdz34.za q hq; have h2 := ltZ q h1; have h3 := owZ q h1; omega
 have ltA34 := fun q (hq : inA A34 q) => ltZ q (hdz34.za q hq).1
 have owB34 : ∀ q, inA B34 q → 0 ≤ q ∧ q ≠ z ∧ q ≠ b := fun q hq => by obtain ⟨h1, h4⟩ := hdz34.zb q hq; have h2 := ltZ q h1; have h3 := owZ q h1; omega
 have ltB34 := fun q (hq : inA B34 q) => ltZ q (hdz34.zb q hq).1
 have own35 := fun q (hq : H q) => And.intro (owH q hq) ((show q ≠ z from fun e => (fun q h1 h2 => hpr.dHZ q h2 h1) z hHz34 (by rw [← e]; exact hq)))
 have own36 := fun q (hq : F q) => And.intro (owF q hq) ((show q ≠ z from fun e => (fun q h1 h2 => hpr.dFZ q h2 h1) z hHz34 (by rw [← e]; exact hq)))
 have own37 := fun q (hq : G q) => And.intro (owG q hq) ((show q ≠ z from fun e => (fun q h1 h2 => hpr.dGZ q h2 h1) z hHz34 (by rw [← e]; exact hq)))
 have own38 := fun q (hq : X q) => And.intro (owX q hq) ((show q ≠ z from fun e => (fun q h1 h2 => hpr.dXZ q h2 h1) z hHz34 (by rw [← e]; exact hq)))
 have own39 := fun q (hq : Y q) => And.intro (owY q hq) ((show q ≠ z from fun e => (fun q h1 h2 => hpr.dYZ q h2 h1) z hHz34 (by rw [← e]; exact hq)))
 refine Oc 96 (.tmp 45) 1 (.slice B34 q.rs.length capb34) (some 46) hz34 rfl ?_
 refine Ose [(0, pt b), (4, nt (i : Int)), (48, .bool (decide ((i : Int) < (q.rs.length : Int))))] ?_
 refine V_if ((i : Int) < (q.rs.length : Int)) (by kernel_rfl) (fun hc40 => ?_) (fun hc40 => ?_)
 ·
  obtain ⟨xr, hxr⟩ : ∃ x, q.rs[i]? = some x := ⟨_, List.getElem?_eq_getElem (by omega)⟩
  refine V_skip ?_
  refine X_then ?_
  refine V_seq ?_
  refine V_block ?_
  refine Vr ?_
  refine On 3 [0, 4, 54] ?_
  refine Oc 33 (.tmp 54) 2 (pt r) (some 55) hb rfl ?_
  refine Os 5 [(0, pt b), (4, nt (i : Int)), (55, pt r), (56, nt (i : Int))] ?_
  refine Ok (kL 11 #[(.tmp 55), (.tmp 56)] #[33, 3]) 11 #[pt r, nt (i : Int)] (some 57) (rget_spec H r g actTs q.rs (i : Int) _ hr) ?_
  rintro _ w43 ⟨rfl, hk44⟩
  refine ⟨_, rfl, ?_⟩
  have hsz45 := Keep.size hk44
  replace hb := hb.k0 hk44
  replace hz34 := hz34.k0 hk44
  replace hA34 := hA34.keep0 hk44
  replace hB34 := hB34.keep0 hk44
  replace hK0 := hK0.tn hk44
  replace hr := hr.keep hk44 nk
  replace hv := hv.keep hk44 nk
  replace hl := hl.keep hk44 nk
  replace hx := DLd.keep hx hk44 nk
  replace hy := DVt.keep hy hk44 nk
  replace hk32 := hk32.tn hk44
  skip
  refine Op_ [(0, pt b), (4, nt (i : Int)), (57, .tuple #[.agg (Rfm.cells (getA q.rs (i : Int))).toArray, .bool ((getR q.rs (i : Int)).isSome)])] ?_
  refine Oq (u := .tuple #[.agg (Rfm.cells (getA q.rs (i : Int))).toArray, .bool ((getR q.rs (i : Int)).isSome)]) (v := .tuple #[.agg (Rfm.cells xr).toArray, .bool true]) 57 (by rw [(dng_at hxr).2.2, (dng_at hxr).2.1]; rfl) ?_
  refine Os 9 [(0, pt b), (4, nt (i : Int)), (58, .agg (Rfm.cells xr).toArray), (59, .bool true)] ?_
  refine OI_alloc 44 (.agg (Rfm.cells Rfm.zero).toArray) (Rfm.cells Rfm.zero) (some 5) (by kernel_rfl) (by kernel_rfl) (by kernel_rfl) ?_
  intro b46 w46 e46 hb46 k46 z46
  have hsz47 := Keep.size k46
  replace hb := hb.k0 k46
  replace hz34 := hz34.k0 k46
  replace hA34 := hA34.keep0 k46
  replace hB34 := hB34.keep0 k46
  replace hK0 := hK0.tn k46
  replace hr := hr.keep k46 nk
  replace hv := hv.keep k46 nk
  replace hl := hl.keep k46 nk
  replace hx := DLd.keep hx k46 nk
  replace hy := DVt.keep hy k46 nk
  replace hk32 := hk32.tn k46
  skip
  have hb46lt := hb46.lt
  refine Otg 44 (.tmp 5) (.tmp 58) 0 (Rfm.cells xr) hb46 (Rfm.len _) (Rfm.one _) ?_
  intro w48 hb46_51 hk49 hz50
  replace hb46_51 : Blk w48 b46 (Rfm.cells xr) 44 := (Blk.eqL (Rfm.over _ _) hb46_51)
  have hsz52 := Keep.size hk49
  replace hb := hb.k1 hk49
  replace hz34 := hz34.k1 hk49
  replace hA34 := hA34.keep hk49 (fun q hq hs => by have hs : q = b46 := hs; have g0 := owA34 q hq; have g1 := ltA34 q hq; omega)
  replace hB34 := hB34.keep hk49 (fun q hq hs => by have hs : q = b46 := hs; have g0 := owB34 q hq; have g1 := ltB34 q hq; omega)
  replace hK0 := Keep.fr hK0 hk49
  replace hr := hr.keep hk49 (fun q hq hs => by have hs : q = b46 := hs; have g0 := own35 q hq; have g1 := ltH q hq; omega)
  replace hv := hv.keep hk49 (fun q hq hs => by have hs : q = b46 := hs; have g0 := own36 q hq; have g1 := ltF q hq; omega)
  replace hl := hl.keep hk49 (fun q hq hs => by have hs : q = b46 := hs; have g0 := own37 q hq; have g1 := ltG q hq; omega)
  replace hx := DLd.keep hx hk49 (fun q hq hs => by have hs : q = b46 := hs; have g0 := own38 q hq; have g1 := ltX q hq; omega)
  replace hy := DVt.keep hy hk49 (fun q hq hs => by have hs : q = b46 := hs; have g0 := own39 q hq; have g1 := ltY q hq; omega)
  replace hk32 := Keep.fr hk32 hk49
  skip
  refine Ose [(0, pt b), (4, nt (i : Int)), (5, pt b46), (6, .bool true)] ?_
  refine V_seq ?_
  refine V_draws (acts []) none_ [[0, 1, 2, 3, 4, 5, 6, 7, 8, 9, 10, 11, 12, 13, 14, 15]] (by kernel_rfl) (by repeat first | exact (by first | exact (by first | exact sure_body (by rintro _ _ ⟨_, _, h, _⟩; exact ⟨_, h⟩) | exact sure_body (by rintro _ _ ⟨_, _, h, _⟩; exact ⟨_, h⟩) | exact sure_body (by rintro _ _ ⟨h, _⟩; exact ⟨_, h⟩))) | refine sure_then ?_ | refine sure_block ?_ | refine sure_join ?_) (by kernel_rfl) ?_
  intro w54 hk53 he55 L hL56
  have hsz57 := Keep.size hk53
  replace hb := hb.k0 hk53
  replace hz34 := hz34.k0 hk53
  replace hb46_51 := hb46_51.k0 hk53
  replace hA34 := hA34.keep0 hk53
  replace hB34 := hB34.keep0 hk53
  replace hK0 := hK0.tn hk53
  replace hr := hr.keep hk53 nk
  replace hv := hv.keep hk53 nk
  replace hl := hl.keep hk53 nk
  replace hx := DLd.keep hx hk53 nk
  replace hy := DVt.keep hy hk53 nk
  replace hk32 := hk32.tn hk53
  skip
  have qhb := hb
  have qhz34 := hz34
  have qhb46_51 := hb46_51
  have qhA34 := hA34
  have qhB34 := hB34
  have K58 : Keep none_ w54 w54 := Keep.refl _ _
  obtain rfl := List.mem_singleton.1 hL56
  refine Gn [3, 4, 5, 6, 7, 8, 9, 10, 11, 12, 13, 14, 15] [0, 4, 5, 62] ?_
  refine Ga 44 (.tmp 5) 0 (Rfm.cells xr) (some 63) 45 qhb46_51 id (take_all (Rfm.len _)) (Rfm.len _) ?_
  refine Gn [7, 8, 9, 10, 11, 12, 13, 14, 15] [0, 4, 62, 63, 64, 65, 66] ?_
  refine Gc0 36 (.tmp 66) 5 (pt z) (some 67) qhb rfl ?_
  refine Gn [10, 11, 12, 13, 14, 15] [0, 4, 62, 63, 64, 65, 66, 67, 68, 69] ?_
  refine Gc0 96 (.tmp 69) 1 (.slice B34 q.rs.length capb34) (some 70) qhz34 rfl ?_
  refine Gn [12, 13, 14, 15] [0, 4, 62, 63, 64, 65, 66, 67, 68, 69, 70, 71] ?_
  obtain ⟨b59, o59, L59, T59, rfl, hat59⟩ := SlT.opn hB34
  have hb59lt := hat59.blk.lt
  have hob60 := owB34 b59 ⟨_, rfl, rfl⟩
  have hob61 := ltB34 b59 ⟨_, rfl, rfl⟩
  have hne62 : ∀ q, inA A34 q → q ≠ b59 := fun q hq hs => hdz34.ab q hq ⟨_, rfl, hs⟩
  have own63 := fun q hq => And.intro (owA34 q hq) (hne62 q hq)
  have hne64 : ∀ q, H q → q ≠ b59 := fun q hq hs => (fun q h1 h2 => (fun q h1 h2 => hpr.dHZ q h2 h1) q (hdz34.zb q h2).1 h1) q hq ⟨_, rfl, hs⟩
  have own65 := fun q hq => And.intro (own35 q hq) (hne64 q hq)
  have hne66 : ∀ q, F q → q ≠ b59 := fun q hq hs => (fun q h1 h2 => (fun q h1 h2 => hpr.dFZ q h2 h1) q (hdz34.zb q h2).1 h1) q hq ⟨_, rfl, hs⟩
  have own67 := fun q hq => And.intro (own36 q hq) (hne66 q hq)
  have hne68 : ∀ q, G q → q ≠ b59 := fun q hq hs => (fun q h1 h2 => (fun q h1 h2 => hpr.dGZ q h2 h1) q (hdz34.zb q h2).1 h1) q hq ⟨_, rfl, hs⟩
  have own69 := fun q hq => And.intro (own37 q hq) (hne68 q hq)
  have hne70 : ∀ q, X q → q ≠ b59 := fun q hq hs => (fun q h1 h2 => (fun q h1 h2 => hpr.dXZ q h2 h1) q (hdz34.zb q h2).1 h1) q hq ⟨_, rfl, hs⟩
  have own71 := fun q hq => And.intro (own38 q hq) (hne70 q hq)
  have hne72 : ∀ q, Y q → q ≠ b59 := fun q hq hs => (fun q h1 h2 => (fun q h1 h2 => hpr.dYZ q h2 h1) q (hdz34.zb q h2).1 h1) q hq ⟨_, rfl, hs⟩
  have own73 := fun q hq => And.intro (own39 q hq) (hne72 q hq)
  obtain ⟨qL59, qT59, qhat59⟩ := SlT.openA qhB34 (by first | omega | (simp; done) | (simp; omega))
  refine GI_pure (some 72) (.indexAddr 96 (.tmp 70) (.tmp 71)) (by kernel_rfl) (by kernel_rfl) (pure_idxN (b := b59) (o := o59) (len := q.rs.length) (cap := capb34) (kd := .i64) (j := i) (E := 44) (sz := 45) (by_ := 136) (by kernel_rfl) (by kernel_rfl) (by kernel_rfl) (by omega)) ?_
  refine Ga 44 (.tmp 72) (o59 + i * 45) (Rfm.cells xr) (some 73) 45 qhat59.blk id (At.elem' qhat59 (es_at hxr)) (At.len qhat59 (es_at hxr)) ?_
  refine GI_pure (some 74) ((Op.binOp BinOp.neq 44 (Operand.tmp 63) (Operand.tmp 73) 44)) (by kernel_rfl) (by kernel_rfl) (pure_neq_same (xs := Rfm.cells xr) (by kernel_rfl) (by kernel_rfl) (by kernel_rfl) (by kernel_rfl)) ?_
  refine Gs [] [(0, pt b), (4, nt (i : Int)), (63, .agg (Rfm.cells xr).toArray), (64, pt b), (65, pt b), (66, po_ b 5), (67, pt z), (68, pt z), (69, po_ z 1), (70, sl_ b59 o59 q.rs.length capb34), (71, nt (i : Int)), (72, .pointer (some ⟨b59, o59 + i * 45, none⟩)), (73, .agg (Rfm.cells xr).toArray), (74, .bool false), (75, .bool false)] ?_
  refine GI_end ?_
  refine X_then ?_
  refine V_false rfl ?_
  refine V_skip ?_
  refine X_block ?_
  refine X_then ?_
  refine V_region ?_
  have hw74 : IntKind.i64.wrap ((i : Int) + 1) = ((i + 1 : Nat) : Int) := wrp
  refine Os 2 [(0, pt b), (50, nt (IntKind.i64.wrap ((i : Int) + 1))), (63, .agg (Rfm.cells xr).toArray), (64, pt b), (65, pt b), (66, po_ b 5), (67, pt z), (68, pt z), (69, po_ z 1), (70, sl_ b59 o59 q.rs.length capb34), (71, nt (i : Int)), (72, .pointer (some ⟨b59, o59 + i * 45, none⟩)), (73, .agg (Rfm.cells xr).toArray), (74, .bool false)] ?_
  refine Oq (u := nt (IntKind.i64.wrap ((i : Int) + 1))) (v := nt ((i + 1 : Nat) : Int)) 50 (by rw [hw74]) ?_
  refine Os 3 [(0, pt b), (4, nt ((i + 1 : Nat) : Int)), (63, .agg (Rfm.cells xr).toArray), (64, pt b), (65, pt b), (66, po_ b 5), (67, pt z), (68, pt z), (69, po_ z 1), (70, sl_ b59 o59 q.rs.length capb34), (71, nt (i : Int)), (72, .pointer (some ⟨b59, o59 + i * 45, none⟩)), (73, .agg (Rfm.cells xr).toArray), (74, .bool false)] ?_
  refine OI_end rfl ?_
  exact V_again (k31 - 1) (by omega) [(0, pt b), (4, nt ((i + 1 : Nat) : Int))] rfl ⟨i + 1, by omega, hk32, rfl⟩
 refine V_exit ?_
 refine X_exit_then ?_
 refine X_exit_then ?_
 refine X_exit_here ?_
 refine X_then ?_
 refine Vs [(2, .bool true)] ?_
 refine V_ret ?_
 exact X_return (.bool true) rfl ⟨rfl, hK0⟩
end Go.Al

namespace Go.Al
open Go Go.RowKit Go.Proofs
theorem kn1 : doD actTs 1 0 (CA.mk 1 0 7 none 0 []) (acQ []) = ([Evt.mk 5 1 7], 0, acQ []) := by kernel_rfl
theorem kn2 : doD actTs 0 0 (CA.mk 2 1 6 none 0 []) (acQ []) = ([], 10, acQ []) := by kernel_rfl
set_option maxRecDepth 10000 in
set_option maxHeartbeats 2000000 in
theorem known_spec (w : World) : Calls Tryz.prog 12 #[] w (rk_ w (.bool true)) := by
 have hK0 : Keep none_ w w := Keep.refl _ _
 have hzhK0 := Keep.size hK0
 refine enterV Tryz.func12 rfl [] 61 rfl rfl rfl ?_
 refine Vr ?_
 refine On 1 [] ?_
 refine Oer ?_
 refine Ok (kL 9 #[(Operand.const (Value.slice none 0 0)), (.const (nt 0))] #[49, 3]) 9 #[.slice none 0 0, nt 0] (some 6) (begin0 none 0 [] _ (.inl rfl) (by simp)) ?_
 rintro _ w3 ⟨b5, r6, gg7, v8, l9, H10, F11, G12, xv13, yv14, zv15, rfl, hb16, hR17, hV18, hL19, hk4, hge20, oH21, oF22, oG23, dHF24, dHG25, dFG26⟩
 refine ⟨_, rfl, ?_⟩
 have hsz27 := Keep.size hk4
 replace hK0 := hK0.tn hk4
 have hb5lt := hb16.lt
 have own28 : ∀ q, H10 q → w.heap.size ≤ q ∧ q ≠ b5 := fun q hq => by have h1 := oH21 q hq; omega
 have lt29 := Rfr.lt hR17
 have own30 : ∀ q, F11 q → w.heap.size ≤ q ∧ q ≠ b5 := fun q hq => by have h1 := oF22 q hq; omega
 have lt31 := VotT.lt hV18
 have own32 : ∀ q, G12 q → w.heap.size ≤ q ∧ q ≠ b5 := fun q hq => by have h1 := oG23 q hq; omega
 have lt33 := Led.lt hL19
 replace hR17 : Rfr H10 w3 r6 gg7 actTs (acQ []).rs := hR17
 replace hV18 : VotT F11 w3 v8 ((acQ []).s) := hV18
 replace hL19 : Led G12 w3 l9 (acQ []).xs (acQ []).cs := hL19
 refine On 2 [1] ?_
 refine Oe ?_
 refine V_seq ?_
 refine Vs [(1, pt b5), (8, .bool false)] ?_
 refine V_false rfl ?_
 refine V_skip ?_
 refine X_then ?_
 refine V_seq ?_
 refine V_draws (acts [13]) none_ [[0, 1, 2, 3, 4, 5, 6, 7, 8, 9, 10, 11, 12, 13, 14, 15, 16, 17, 18]] (by kernel_rfl) (by repeat first | exact (by first | exact sure_body (by rintro _ _ ⟨_, _, h, _⟩; exact ⟨_, h⟩) | exact sure_body (by rintro _ _ ⟨_, _, _, _, _, _, _, _, _, _, _, h, _⟩; exact ⟨_, h⟩) | exact sure_body (by rintro _ _ ⟨h, _⟩; exact ⟨_, h⟩)) | refine sure_then ?_ | refine sure_block ?_ | refine sure_join ?_) (by kernel_rfl) ?_
 intro w35 hk34 he36 L hL37
 have hsz38 := Keep.size hk34
 replace hb16 := hb16.k0 hk34
 replace hK0 := hK0.tn hk34
 replace hR17 := hR17.keep hk34 nk
 replace hV18 := hV18.keep hk34 nk
 replace hL19 := hL19.keep hk34 nk
 have qhb16 := hb16
 have K39 : Keep none_ w35 w35 := Keep.refl _ _
 obtain rfl := List.mem_singleton.1 hL37
 refine Gn [3, 4, 5, 6, 7, 8, 9, 10, 11, 12, 13, 14, 15, 16, 17, 18] [1, 12] ?_
 refine Gc0 31 (.tmp 12) 0 (pt l9) (some 13) qhb16 rfl ?_
 refine Gn [7, 8, 9, 10, 11, 12, 13, 14, 15, 16, 17, 18] [1, 13, 16] ?_
 refine Gc0 32 (.tmp 16) 1 (pt v8) (some 17) qhb16 rfl ?_
 refine Gn [11, 12, 13, 14, 15, 16, 17, 18] [1, 13, 17, 20] ?_
 refine Gc0 33 (.tmp 20) 2 (pt r6) (some 21) qhb16 rfl ?_
 refine Gs [13, 14, 15, 16, 17, 18] [(1, pt b5), (13, pt l9), (17, pt v8), (21, pt r6), (22, .agg (CA.cells (CA.mk 1 0 7 none 0 [])).toArray)] ?_
 refine Gk0 (kL 10 #[(.tmp 13), (.tmp 17), (.tmp 21), (.tmp 22), (.const (nt 1)), (.const (nt 0))] #[31, 32, 33, 26, 3, 3]) 10 #[pt l9, pt v8, pt r6, .agg (CA.cells (CA.mk 1 0 7 none 0 [])).toArray, nt 1, nt 0] (some 23) (do_spec none_ (CA.mk 1 0 7 none 0 []) r6 gg7 actTs v8 l9 1 0 H10 F11 G12 (acQ []) _ (RepIn.none (fun q h => (inA_none h).elim)) hR17 hV18 hL19 dHF24 dHG25 dFG26 (fun q h => h.elim)) ?_
 rintro _ w42 ⟨A44, cap44, rfl, hA44, ow44, ⟨F45, F48, F51, ho46, ho49, ho52, hfr47, hfr50, hfr53, hdis54, hdis55, hdis56, dA57, dA58, dA59⟩, hk43⟩
 refine ⟨_, rfl, ?_⟩
 have hsz60 := Keep.size hk43
 replace hb16 := hb16.keep hk43 (fun hs => by rcases hs with hs | hs | hs; (have u9 : _ = gg7 := hs; have u0 := own28 _ (Rfr.atg hR17); have u1 := lt29 _ (Rfr.atg hR17); omega); (have u0 := own30 _ hs; have u1 := lt31 _ hs; omega); (have u0 := own32 _ hs; have u1 := lt33 _ hs; omega))
 replace hK0 := Keep.fresh hK0 hk43 (by intro i hi hs; first | exact hs | (rcases hs with hs | hs | hs; (have u9 : _ = gg7 := hs; have u0 := own28 _ (Rfr.atg hR17); have u1 := lt29 _ (Rfr.atg hR17); omega); (have u0 := own30 i hs; have u1 := lt31 i hs; omega); (have u0 := own32 i hs; have u1 := lt33 i hs; omega)))
 have own62 : ∀ q, F45 q → w.heap.size ≤ q ∧ q ≠ b5 := fun q hq => by rcases hfr47 q hq with h | h; (have h1 := own28 q h; have h2 := lt29 q h; omega); omega
 have lt61 := Rfr.lt ho46
 have own64 : ∀ q, F48 q → w.heap.size ≤ q ∧ q ≠ b5 := fun q hq => by rcases hfr50 q hq with h | h; (have h1 := own30 q h; have h2 := lt31 q h; omega); omega
 have lt63 := VotT.lt ho49
 have own66 : ∀ q, F51 q → w.heap.size ≤ q ∧ q ≠ b5 := fun q hq => by rcases hfr53 q hq with h | h; (have h1 := own32 q h; have h2 := lt33 q h; omega); omega
 have lt65 := Led.lt ho52
 have ltA44 := SlT.lt hA44
 replace hA44 := SlT.ofE (xs := (doD actTs 1 0 (CA.mk 1 0 7 none 0 []) (acQ [])).1) hA44 (show _ = [Evt.mk 5 1 7] from by rw [kn1])
 replace ho46 : Rfr F45 w42 r6 gg7 actTs ((doD actTs 1 0 (CA.mk 1 0 7 none 0 []) (acQ [])).2.2).rs := ho46
 replace ho49 : VotT F48 w42 v8 (((doD actTs 1 0 (CA.mk 1 0 7 none 0 []) (acQ [])).2.2).s) := ho49
 replace ho52 : Led F51 w42 l9 ((doD actTs 1 0 (CA.mk 1 0 7 none 0 []) (acQ [])).2.2).xs ((doD actTs 1 0 (CA.mk 1 0 7 none 0 []) (acQ [])).2.2).cs := ho52
 rw [kn1] at ho46
 rw [kn1] at ho49
 rw [kn1] at ho52
 replace ho46 : Rfr F45 w42 r6 gg7 actTs (acQ []).rs := ho46
 replace ho49 : VotT F48 w42 v8 ((acQ []).s) := ho49
 replace ho52 : Led F51 w42 l9 (acQ []).xs (acQ []).cs := ho52
 refine Gp_ [(1, pt b5), (23, .tuple #[.slice A44 (((doD actTs 1 0 (CA.mk 1 0 7 none 0 []) (acQ [])).1).length) cap44, nt ((doD actTs 1 0 (CA.mk 1 0 7 none 0 []) (acQ [])).2.1)])] ?_
 refine GI_eq [(1, pt b5), (23, .tuple #[.slice A44 1 cap44, nt 0])] (by rw [show (doD actTs 1 0 (CA.mk 1 0 7 none 0 []) (acQ [])).1 = [Evt.mk 5 1 7] from by rw [kn1]]; rw [kn1] <;> rfl) ?_
 refine Gs [] [(1, pt b5), (2, .slice A44 1 cap44), (3, nt 0)] ?_
 refine GI_end ?_
 refine X_then ?_
 refine V_seq ?_
 refine V_draws (acts [13]) none_ [[0, 1, 2, 3, 4, 5, 6, 7, 8, 9, 10, 11, 12, 13, 14, 15, 16, 17, 18]] (by kernel_rfl) (by repeat first | exact (by first | exact sure_body (by rintro _ _ ⟨_, _, h, _⟩; exact ⟨_, h⟩) | exact sure_body (by rintro _ _ ⟨_, _, _, _, _, _, _, _, _, _, _, h, _⟩; exact ⟨_, h⟩) | exact sure_body (by rintro _ _ ⟨h, _⟩; exact ⟨_, h⟩)) | refine sure_then ?_ | refine sure_block ?_ | refine sure_join ?_) (by kernel_rfl) ?_
 intro w68 hk67 he69 L hL70
 have hsz71 := Keep.size hk67
 replace hb16 := hb16.k0 hk67
 replace hA44 := hA44.keep0 hk67
 replace hK0 := hK0.tn hk67
 replace ho46 := ho46.keep hk67 nk
 replace ho49 := ho49.keep hk67 nk
 replace ho52 := ho52.keep hk67 nk
 have qhb16 := hb16
 have qhA44 := hA44
 have K72 : Keep none_ w68 w68 := Keep.refl _ _
 obtain rfl := List.mem_singleton.1 hL70
 refine Gn [3, 4, 5, 6, 7, 8, 9, 10, 11, 12, 13, 14, 15, 16, 17, 18] [1, 2, 3, 29] ?_
 refine Gc0 31 (.tmp 29) 0 (pt l9) (some 30) qhb16 rfl ?_
 refine Gn [7, 8, 9, 10, 11, 12, 13, 14, 15, 16, 17, 18] [1, 2, 3, 30, 33] ?_
 refine Gc0 32 (.tmp 33) 1 (pt v8) (some 34) qhb16 rfl ?_
 refine Gn [11, 12, 13, 14, 15, 16, 17, 18] [2, 3, 30, 34, 37] ?_
 refine Gc0 33 (.tmp 37) 2 (pt r6) (some 38) qhb16 rfl ?_
 refine Gs [13, 14, 15, 16, 17, 18] [(2, .slice A44 1 cap44), (3, nt 0), (30, pt l9), (34, pt v8), (38, pt r6), (39, .agg (CA.cells (CA.mk 2 1 6 none 0 [])).toArray)] ?_
 refine Gk0 (kL 10 #[(.tmp 30), (.tmp 34), (.tmp 38), (.tmp 39), (.const (nt 0)), (.const (nt 0))] #[31, 32, 33, 26, 3, 3]) 10 #[pt l9, pt v8, pt r6, .agg (CA.cells (CA.mk 2 1 6 none 0 [])).toArray, nt 0, nt 0] (some 40) (do_spec none_ (CA.mk 2 1 6 none 0 []) r6 gg7 actTs v8 l9 0 0 F45 F48 F51 (acQ []) _ (RepIn.none (fun q h => (inA_none h).elim)) ho46 ho49 ho52 hdis54 hdis55 hdis56 (fun q h => h.elim)) ?_
 rintro _ w75 ⟨A77, cap77, rfl, hA77, ow77, ⟨F78, F81, F84, ho79, ho82, ho85, hfr80, hfr83, hfr86, hdis87, hdis88, hdis89, dA90, dA91, dA92⟩, hk76⟩
 refine ⟨_, rfl, ?_⟩
 have hsz93 := Keep.size hk76
 replace hA44 := hA44.keep hk76 (fun q hq hs => by rcases hs with hs | hs | hs; exact dA57 q hq (by rw [show q = gg7 from hs]; exact (Rfr.atg ho46)); exact dA58 q hq hs; exact dA59 q hq hs)
 replace hK0 := Keep.fresh hK0 hk76 (by intro i hi hs; first | exact hs | (rcases hs with hs | hs | hs; (have u9 : _ = gg7 := hs; have u0 := own62 _ (Rfr.atg ho46); have u1 := lt61 _ (Rfr.atg ho46); omega); (have u0 := own64 i hs; have u1 := lt63 i hs; omega); (have u0 := own66 i hs; have u1 := lt65 i hs; omega)))
 have own95 : ∀ q, F78 q → w.heap.size ≤ q := fun q hq => by rcases hfr80 q hq with h | h; (have h1 := own62 q h; have h2 := lt61 q h; omega); omega
 have lt94 := Rfr.lt ho79
 have dis96 : ∀ q, F78 q → ¬ inA A44 q := fun q h1 h2 => by rcases hfr80 q h1 with h | h; exact (fun q h1 h2 => dA57 q h2 h1) q h h2; (have h4 := ltA44 q h2; omega)
 have own98 : ∀ q, F81 q → w.heap.size ≤ q := fun q hq => by rcases hfr83 q hq with h | h; (have h1 := own64 q h; have h2 := lt63 q h; omega); omega
 have lt97 := VotT.lt ho82
 have dis99 : ∀ q, F81 q → ¬ inA A44 q := fun q h1 h2 => by rcases hfr83 q h1 with h | h; exact (fun q h1 h2 => dA58 q h2 h1) q h h2; (have h4 := ltA44 q h2; omega)
 have own101 : ∀ q, F84 q → w.heap.size ≤ q := fun q hq => by rcases hfr86 q hq with h | h; (have h1 := own66 q h; have h2 := lt65 q h; omega); omega
 have lt100 := Led.lt ho85
 have dis102 : ∀ q, F84 q → ¬ inA A44 q := fun q h1 h2 => by rcases hfr86 q h1 with h | h; exact (fun q h1 h2 => dA59 q h2 h1) q h h2; (have h4 := ltA44 q h2; omega)
 have ltA77 := SlT.lt hA77
 replace hA77 := SlT.ofE (xs := (doD actTs 0 0 (CA.mk 2 1 6 none 0 []) (acQ [])).1) hA77 (show _ = ([] : List Evt) from by rw [kn2])
 replace ho79 : Rfr F78 w75 r6 gg7 actTs ((doD actTs 0 0 (CA.mk 2 1 6 none 0 []) (acQ [])).2.2).rs := ho79
 replace ho82 : VotT F81 w75 v8 (((doD actTs 0 0 (CA.mk 2 1 6 none 0 []) (acQ [])).2.2).s) := ho82
 replace ho85 : Led F84 w75 l9 ((doD actTs 0 0 (CA.mk 2 1 6 none 0 []) (acQ [])).2.2).xs ((doD actTs 0 0 (CA.mk 2 1 6 none 0 []) (acQ [])).2.2).cs := ho85
 rw [kn2] at ho79
 rw [kn2] at ho82
 rw [kn2] at ho85
 replace ho79 : Rfr F78 w75 r6 gg7 actTs (acQ []).rs := ho79
 replace ho82 : VotT F81 w75 v8 ((acQ []).s) := ho82
 replace ho85 : Led F84 w75 l9 (acQ []).xs (acQ []).cs := ho85
 refine Gp_ [(2, .slice A44 1 cap44), (3, nt 0), (40, .tuple #[.slice A77 (((doD actTs 0 0 (CA.mk 2 1 6 none 0 []) (acQ [])).1).length) cap77, nt ((doD actTs 0 0 (CA.mk 2 1 6 none 0 []) (acQ [])).2.1)])] ?_
 refine GI_eq [(2, .slice A44 1 cap44), (3, nt 0), (40, .tuple #[.slice A77 0 cap77, nt 10])] (by rw [show (doD actTs 0 0 (CA.mk 2 1 6 none 0 []) (acQ [])).1 = ([] : List Evt) from by rw [kn2]]; rw [kn2] <;> rfl) ?_
 refine Gn [] [2, 3, 5] ?_
 refine GI_end ?_
 refine X_then ?_
 refine Vr ?_
 refine On 9 [5, 50, 51] ?_
 obtain ⟨b103, o103, L103, T103, rfl, hat103⟩ := SlT.opn hA44
 have hb103lt := hat103.blk.lt
 have hob104 := ow44 b103 ⟨_, rfl, rfl⟩
 have hob105 := ltA44 b103 ⟨_, rfl, rfl⟩
 have hne106 : ∀ q, F78 q → q ≠ b103 := fun q hq hs => dis96 q hq ⟨_, rfl, hs⟩
 have own107 := fun q hq => And.intro (own95 q hq) (hne106 q hq)
 have hne108 : ∀ q, F81 q → q ≠ b103 := fun q hq hs => dis99 q hq ⟨_, rfl, hs⟩
 have own109 := fun q hq => And.intro (own98 q hq) (hne108 q hq)
 have hne110 : ∀ q, F84 q → q ≠ b103 := fun q hq hs => dis102 q hq ⟨_, rfl, hs⟩
 have own111 := fun q hq => And.intro (own101 q hq) (hne110 q hq)
 refine Oi (b := b103) (o := o103) (len := 1) (cap := cap44) (j := 0) (some 52) 27 (.tmp 51) (.const (Value.int IntKind.i64 0)) 52 3 24 .i64 ?_
 refine Oa 52 (.tmp 52) (o103 + 0 * 3) (Evt.cells (Evt.mk 5 1 7)) (some 53) 3 hat103.blk (At.elem' hat103 (es_at (rfl : ([Evt.mk 5 1 7] : List Evt)[0]? = some (Evt.mk 5 1 7)))) (At.len hat103 (es_at (rfl : ([Evt.mk 5 1 7] : List Evt)[0]? = some (Evt.mk 5 1 7)))) ?_
 refine On 12 [5, 50, 53, 54] ?_
 refine OI_pure (some 55) ((Op.binOp BinOp.eql 52 (Operand.tmp 53) (Operand.tmp 54) 52)) (by kernel_rfl) (pure_eql_same (xs := Evt.cells (Evt.mk 5 1 7)) (by kernel_rfl) (by kernel_rfl) (by kernel_rfl) (by kernel_rfl)) ?_
 refine Ose [(0, .bool true)] ?_
 refine V_ret ?_
 exact X_return (.bool true) rfl ⟨rfl, hK0⟩
end Go.Al

namespace Go.Al
open Go Go.RowKit Go.Proofs
def nnQ : RW := sbQ [] 2
theorem doD_no {track now : Int} {c : CA} {u : RW} (h : ¬ (0 ≤ track ∧ track ≤ 2)) : doD actTs track now c u = ([], 1, u) := by
  unfold doD
  rw [if_pos (.inl (by unfold trkO; rw [if_neg (fun h9 => h ⟨h9.1, by have h8 := h9.2; have h7 : (actTs.length : Int) = 3 := rfl; omega⟩)]; rfl))]
set_option maxRecDepth 10000 in
set_option maxHeartbeats 2000000 in
theorem walk_ActNone (c : CA) (track : Int) (w : World) (hok : CAok c) (hrep : RepIn (Bel w) w c) : Calls Tryz.prog 8 #[.agg c.cells.toArray, nt track] w (rk_ w (.bool true)) := by
 have hK0 : Keep none_ w w := Keep.refl _ _
 have hzhK0 := Keep.size hK0
 refine enterV Tryz.func8 rfl [.agg (CA.cells c).toArray, nt track] 119 rfl rfl rfl ?_
 refine Vr ?_
 refine OI_box 26 (.tmp 0) (.agg (CA.cells c).toArray) (CA.cells c) (some 2) (by kernel_rfl) (by kernel_rfl) rfl ?_
 intro b1 w1 e1 hb1 k1 z1
 have hsz2 := Keep.size k1
 replace hrep := RepIn.keep hrep k1 nk
 replace hK0 := hK0.tn k1
 have hb1lt := hb1.lt
 refine On 2 [1, 2] ?_
 refine Oe ?_
 refine V_seq ?_
 refine Vr ?_
 refine Oa 26 (.tmp 2) 0 (CA.cells c) (some 14) 4 hb1 (take_all (CA.len _)) (CA.len _) ?_
 refine Ok (kL 14 #[(.tmp 14)] #[26]) 14 #[.agg (CA.cells c).toArray] (some 15) (size_spec c hok (Bel w) _ hrep) ?_
 rintro _ w3 ⟨m5, rfl, hk4⟩
 refine ⟨_, rfl, ?_⟩
 have hsz6 := Keep.size hk4
 replace hb1 := hb1.k0 hk4
 replace hrep := RepIn.keep hrep hk4 nk
 replace hK0 := hK0.tn hk4
 refine Ose [(1, nt track), (2, pt b1), (16, .bool (decide (m5 ≥ 300)))] ?_
 refine V_if (m5 ≥ 300) (by kernel_rfl) (fun hc7 => ?_) (fun hc7 => ?_)
 ·
  refine Vs [(4, .bool true)] ?_
  refine V_ret ?_
  refine X_ret_then ?_
  exact X_return (.bool true) rfl ⟨rfl, hK0⟩
 refine V_skip ?_
 refine X_then ?_
 refine Vr ?_
 refine Ok (kL 9 #[(Operand.const (Value.slice none 0 0)), (.const (nt 2))] #[49, 3]) 9 #[.slice none 0 0, nt 2] (some 17) (begin_ac none 0 [] 2 _ (.inl rfl) (by simp)) ?_
 rintro _ w10 ⟨b12, B13, rfl, ho14, hk11, hge15⟩
 refine ⟨_, rfl, ?_⟩
 have hsz16 := Keep.size hk11
 replace hb1 := hb1.k0 hk11
 replace hrep := RepIn.keep hrep hk11 nk
 replace hK0 := hK0.tn hk11
 replace ho14 : Pr B13 w10 b12 actTs nnQ := ho14
 have own17 : ∀ q, B13 q → w3.heap.size ≤ q ∧ q ≠ b1 := fun q hq => by have h1 := hge15 q hq; omega
 have lt18 := Pr.lt ho14
 have hb12lt : b12 < w10.heap.size := Pr.lt ho14 _ (Pr.at_ ho14)
 obtain ⟨hBlt, hBb, H, F, G, X, Y, Z, r, g, v, l, x, y, z, hpr⟩ := ho14
 have hb := hpr.blk
 have hblt := hb.lt
 have hbow := own17 _ hBb
 have hr := hpr.hr
 have owH : ∀ q, H q → (w3.heap.size ≤ q ∧ q ≠ b1) ∧ q ≠ b12 := fun q hq => by have h1 := own17 q (hpr.inH q hq).1; have h2 := (hpr.inH q hq).2; omega
 have ltH := Rfr.lt hr
 have hrlt := ltH _ (Rfr.at_ hr)
 have hrow := owH _ (Rfr.at_ hr)
 have rbH : ∀ q, H q → B13 q ∨ w10.heap.size ≤ q := fun q hq => .inl (hpr.inH q hq).1
 have hv := hpr.hv
 have owF : ∀ q, F q → (w3.heap.size ≤ q ∧ q ≠ b1) ∧ q ≠ b12 := fun q hq => by have h1 := own17 q (hpr.inF q hq).1; have h2 := (hpr.inF q hq).2; omega
 have ltF := VotT.lt hv
 have hvlt := ltF _ (VotT.at_ hv)
 have hvow := owF _ (VotT.at_ hv)
 have rbF : ∀ q, F q → B13 q ∨ w10.heap.size ≤ q := fun q hq => .inl (hpr.inF q hq).1
 have hl := hpr.hl
 have owG : ∀ q, G q → (w3.heap.size ≤ q ∧ q ≠ b1) ∧ q ≠ b12 := fun q hq => by have h1 := own17 q (hpr.inG q hq).1; have h2 := (hpr.inG q hq).2; omega
 have ltG := Led.lt hl
 have hllt := ltG _ (Led.at_ hl)
 have hlow := owG _ (Led.at_ hl)
 have rbG : ∀ q, G q → B13 q ∨ w10.heap.size ≤ q := fun q hq => .inl (hpr.inG q hq).1
 have hx := hpr.hx
 have owX : ∀ q, X q → (w3.heap.size ≤ q ∧ q ≠ b1) ∧ q ≠ b12 := fun q hq => by have h1 := own17 q (hpr.inX q hq).1; have h2 := (hpr.inX q hq).2; omega
 have ltX := DLd.lt hx
 have hxlt := ltX _ (DLd.at_ hx)
 have hxow := owX _ (DLd.at_ hx)
 have rbX : ∀ q, X q → B13 q ∨ w10.heap.size ≤ q := fun q hq => .inl (hpr.inX q hq).1
 have hy := hpr.hy
 have owY : ∀ q, Y q → (w3.heap.size ≤ q ∧ q ≠ b1) ∧ q ≠ b12 := fun q hq => by have h1 := own17 q (hpr.inY q hq).1; have h2 := (hpr.inY q hq).2; omega
 have ltY := DVt.lt hy
 have hylt := ltY _ (DVt.at_ hy)
 have hyow := owY _ (DVt.at_ hy)
 have rbY : ∀ q, Y q → B13 q ∨ w10.heap.size ≤ q := fun q hq => .inl (hpr.inY q hq).1
 have hz := hpr.hz
 have owZ : ∀ q, Z q → (w3.heap.size ≤ q ∧ q ≠ b1) ∧ q ≠ b12 := fun q hq => by have h1 := own17 q (hpr.inZ q hq).1; have h2 := (hpr.inZ q hq).2; omega
 have ltZ := DRf.lt hz
 have hzlt := ltZ _ (DRf.at_ hz)
 have hzow := owZ _ (DRf.at_ hz)
 have rbZ : ∀ q, Z q → B13 q ∨ w10.heap.size ≤ q := fun q hq => .inl (hpr.inZ q hq).1
 refine On 2 [1, 2, 5] ?_
 refine Oe ?_
 refine V_seq ?_
 refine Vs [(1, nt track), (2, pt b1), (5, pt b12), (19, .bool false)] ?_
 refine V_false rfl ?_
 refine V_skip ?_
 refine X_then ?_
 refine V_seq ?_
 refine V_draws (acts [9]) (fun q => q ≠ b1 ∧ q ≠ b12) [[0, 1, 2, 3, 4, 5, 6, 7, 8, 9, 10, 11, 12, 13, 14]] (by kernel_rfl) (by repeat first | exact (by first | exact (by first | exact sure_body (by rintro _ _ ⟨_, _, h, _⟩; exact ⟨_, h⟩) | exact sure_body (by rintro _ _ ⟨_, _, h, _⟩; exact ⟨_, h⟩) | exact sure_body (by rintro _ _ ⟨h, _⟩; exact ⟨_, h⟩)) | exact sure_body (by rintro _ _ ⟨_, _, _, h, _⟩; exact ⟨_, h⟩)) | refine sure_then ?_ | refine sure_block ?_ | refine sure_join ?_) (by kernel_rfl) ?_
 intro w20 hk19 he21 L hL22
 have hsz23 := Keep.size hk19
 replace hb1 := hb1.k0 hk19
 replace hb := hb.k0 hk19
 replace hrep := RepIn.keep hrep hk19 nk
 replace hK0 := hK0.tn hk19
 replace hr := hr.keep hk19 nk
 replace hv := hv.keep hk19 nk
 replace hl := hl.keep hk19 nk
 replace hx := DLd.keep hx hk19 nk
 replace hy := DVt.keep hy hk19 nk
 replace hz := DRf.keep hz hk19 nk
 have qhb1 := hb1
 have qhb := hb
 have K24 : Keep (fun q => q ≠ b1 ∧ q ≠ b12) w20 w20 := Keep.refl _ _
 obtain rfl := List.mem_singleton.1 hL22
 refine Gn [3, 4, 5, 6, 7, 8, 9, 10, 11, 12, 13, 14] [1, 2, 5, 23] ?_
 refine Gc 32 (.tmp 23) 1 (pt v) (some 24) qhb (by show ¬ (b12 ≠ b1 ∧ b12 ≠ b12); omega) rfl ?_
 refine Gn [7, 8, 9, 10, 11, 12, 13, 14] [1, 2, 5, 24, 27] ?_
 refine Gc 33 (.tmp 27) 2 (pt r) (some 28) qhb (by show ¬ (b12 ≠ b1 ∧ b12 ≠ b12); omega) rfl ?_
 refine Ga 26 (.tmp 2) 0 (CA.cells c) (some 29) 4 qhb1 (by show ¬ (b1 ≠ b1 ∧ b1 ≠ b12); omega) (take_all (CA.len _)) (CA.len _) ?_
 refine Gk0 (kL 10 #[(Operand.const (Value.pointer none)), (.tmp 24), (.tmp 28), (.tmp 29), (.const (nt 0)), (.const (nt 0))] #[31, 32, 33, 26, 3, 3]) 10 #[.pointer none, pt v, pt r, .agg (CA.cells c).toArray, nt 0, nt 0] (some 30) (do_nil1 v H r g actTs nnQ.rs c 0 0 _ hr) ?_
 rintro _ w25 ⟨rfl, hk26⟩
 refine ⟨_, rfl, ?_⟩
 have hsz27 := Keep.size hk26
 replace hb1 := hb1.k0 hk26
 replace hb := hb.k0 hk26
 replace hrep := RepIn.keep hrep hk26 nk
 replace hK0 := hK0.tn hk26
 replace hr := hr.keep hk26 nk
 replace hv := hv.keep hk26 nk
 replace hl := hl.keep hk26 nk
 replace hx := DLd.keep hx hk26 nk
 replace hy := DVt.keep hy hk26 nk
 replace hz := DRf.keep hz hk26 nk
 refine Gs [] [(1, nt track), (2, pt b1), (5, pt b12), (6, .slice none 0 0), (7, nt 1)] ?_
 refine GI_end ?_
 refine X_then ?_
 refine V_seq ?_
 refine V_draws (acts [9]) (fun q => q ≠ b1 ∧ q ≠ b12) [[0, 1, 2, 3, 4, 5, 6, 7, 8, 9, 10, 11, 12, 13, 14]] (by kernel_rfl) (by repeat first | exact (by first | exact (by first | exact sure_body (by rintro _ _ ⟨_, _, h, _⟩; exact ⟨_, h⟩) | exact sure_body (by rintro _ _ ⟨_, _, h, _⟩; exact ⟨_, h⟩) | exact sure_body (by rintro _ _ ⟨h, _⟩; exact ⟨_, h⟩)) | exact sure_body (by rintro _ _ ⟨_, _, _, h, _⟩; exact ⟨_, h⟩)) | refine sure_then ?_ | refine sure_block ?_ | refine sure_join ?_) (by kernel_rfl) ?_
 intro w29 hk28 he30 L hL31
 have hsz32 := Keep.size hk28
 replace hb1 := hb1.k0 hk28
 replace hb := hb.k0 hk28
 replace hrep := RepIn.keep hrep hk28 nk
 replace hK0 := hK0.tn hk28
 replace hr := hr.keep hk28 nk
 replace hv := hv.keep hk28 nk
 replace hl := hl.keep hk28 nk
 replace hx := DLd.keep hx hk28 nk
 replace hy := DVt.keep hy hk28 nk
 replace hz := DRf.keep hz hk28 nk
 have qhb1 := hb1
 have qhb := hb
 have K33 : Keep (fun q => q ≠ b1 ∧ q ≠ b12) w29 w29 := Keep.refl _ _
 obtain rfl := List.mem_singleton.1 hL31
 refine Gn [3, 4, 5, 6, 7, 8, 9, 10, 11, 12, 13, 14] [1, 2, 5, 6, 7, 36] ?_
 refine Gc 31 (.tmp 36) 0 (pt l) (some 37) qhb (by show ¬ (b12 ≠ b1 ∧ b12 ≠ b12); omega) rfl ?_
 refine Gn [7, 8, 9, 10, 11, 12, 13, 14] [1, 2, 5, 6, 7, 37, 40] ?_
 refine Gc 33 (.tmp 40) 2 (pt r) (some 41) qhb (by show ¬ (b12 ≠ b1 ∧ b12 ≠ b12); omega) rfl ?_
 refine Ga 26 (.tmp 2) 0 (CA.cells c) (some 42) 4 qhb1 (by show ¬ (b1 ≠ b1 ∧ b1 ≠ b12); omega) (take_all (CA.len _)) (CA.len _) ?_
 refine Gk0 (kL 10 #[(.tmp 37), (Operand.const (Value.pointer none)), (.tmp 41), (.tmp 42), (.const (nt 0)), (.const (nt 0))] #[31, 32, 33, 26, 3, 3]) 10 #[pt l, .pointer none, pt r, .agg (CA.cells c).toArray, nt 0, nt 0] (some 43) (do_nil2 l H r g actTs nnQ.rs c 0 0 _ hr) ?_
 rintro _ w34 ⟨rfl, hk35⟩
 refine ⟨_, rfl, ?_⟩
 have hsz36 := Keep.size hk35
 replace hb1 := hb1.k0 hk35
 replace hb := hb.k0 hk35
 replace hrep := RepIn.keep hrep hk35 nk
 replace hK0 := hK0.tn hk35
 replace hr := hr.keep hk35 nk
 replace hv := hv.keep hk35 nk
 replace hl := hl.keep hk35 nk
 replace hx := DLd.keep hx hk35 nk
 replace hy := DVt.keep hy hk35 nk
 replace hz := DRf.keep hz hk35 nk
 refine Gs [] [(1, nt track), (2, pt b1), (5, pt b12), (6, .slice none 0 0), (7, nt 1), (8, .slice none 0 0), (9, nt 1)] ?_
 refine GI_end ?_
 refine X_then ?_
 refine V_seq ?_
 refine V_draws (acts [9]) (fun q => q ≠ b1 ∧ q ≠ b12) [[0, 1, 2, 3, 4, 5, 6, 7, 8, 9, 10, 11, 12, 13, 14]] (by kernel_rfl) (by repeat first | exact (by first | exact (by first | exact sure_body (by rintro _ _ ⟨_, _, h, _⟩; exact ⟨_, h⟩) | exact sure_body (by rintro _ _ ⟨_, _, h, _⟩; exact ⟨_, h⟩) | exact sure_body (by rintro _ _ ⟨h, _⟩; exact ⟨_, h⟩)) | exact sure_body (by rintro _ _ ⟨_, _, _, h, _⟩; exact ⟨_, h⟩)) | refine sure_then ?_ | refine sure_block ?_ | refine sure_join ?_) (by kernel_rfl) ?_
 intro w38 hk37 he39 L hL40
 have hsz41 := Keep.size hk37
 replace hb1 := hb1.k0 hk37
 replace hb := hb.k0 hk37
 replace hrep := RepIn.keep hrep hk37 nk
 replace hK0 := hK0.tn hk37
 replace hr := hr.keep hk37 nk
 replace hv := hv.keep hk37 nk
 replace hl := hl.keep hk37 nk
 replace hx := DLd.keep hx hk37 nk
 replace hy := DVt.keep hy hk37 nk
 replace hz := DRf.keep hz hk37 nk
 have qhb1 := hb1
 have qhb := hb
 have K42 : Keep (fun q => q ≠ b1 ∧ q ≠ b12) w38 w38 := Keep.refl _ _
 obtain rfl := List.mem_singleton.1 hL40
 refine Gn [3, 4, 5, 6, 7, 8, 9, 10, 11, 12, 13, 14] [1, 2, 5, 6, 7, 8, 9, 49] ?_
 refine Gc 31 (.tmp 49) 0 (pt l) (some 50) qhb (by show ¬ (b12 ≠ b1 ∧ b12 ≠ b12); omega) rfl ?_
 refine Gn [7, 8, 9, 10, 11, 12, 13, 14] [1, 2, 5, 6, 7, 8, 9, 50, 53] ?_
 refine Gc 32 (.tmp 53) 1 (pt v) (some 54) qhb (by show ¬ (b12 ≠ b1 ∧ b12 ≠ b12); omega) rfl ?_
 refine Ga 26 (.tmp 2) 0 (CA.cells c) (some 55) 4 qhb1 (by show ¬ (b1 ≠ b1 ∧ b1 ≠ b12); omega) (take_all (CA.len _)) (CA.len _) ?_
 refine Gk0 (kL 10 #[(.tmp 50), (.tmp 54), (Operand.const (Value.pointer none)), (.tmp 55), (.const (nt 0)), (.const (nt 0))] #[31, 32, 33, 26, 3, 3]) 10 #[pt l, pt v, .pointer none, .agg (CA.cells c).toArray, nt 0, nt 0] (some 56) (do_nil3 l v c 0 0 _) ?_
 rintro _ w43 ⟨rfl, hk44⟩
 refine ⟨_, rfl, ?_⟩
 have hsz45 := Keep.size hk44
 replace hb1 := hb1.k0 hk44
 replace hb := hb.k0 hk44
 replace hrep := RepIn.keep hrep hk44 nk
 replace hK0 := hK0.tn hk44
 replace hr := hr.keep hk44 nk
 replace hv := hv.keep hk44 nk
 replace hl := hl.keep hk44 nk
 replace hx := DLd.keep hx hk44 nk
 replace hy := DVt.keep hy hk44 nk
 replace hz := DRf.keep hz hk44 nk
 refine Gn [] [1, 2, 5, 6, 7, 8, 9, 10, 11] ?_
 refine GI_end ?_
 refine X_then ?_
 refine V_seq ?_
 refine Vs [(1, nt track), (2, pt b1), (5, pt b12), (79, .bool false)] ?_
 refine V_false rfl ?_
 refine V_skip ?_
 refine X_then ?_
 refine V_seq ?_
 refine Vr ?_
 refine Os 3 [(1, nt track), (2, pt b1), (5, pt b12), (82, .bool (decide (track ≥ 0)))] ?_
 by_cases hg46 : track ≥ 0
 ·
  refine OI_eq [(1, nt track), (2, pt b1), (5, pt b12), (82, .bool true)] (by first | rw [decide_eq_true hg46] | simp [hg46] | rfl) ?_
  refine Ose [(1, nt track), (2, pt b1), (5, pt b12), (85, .bool (decide (track ≤ 2)))] ?_
  refine V_if (track ≤ 2) (by kernel_rfl) (fun hc47 => ?_) (fun hc47 => ?_)
  ·
   refine Vr ?_
   refine Ok (kL 12 #[] #[]) 12 #[] (some 86) (known_spec _) ?_
   rintro _ w52 ⟨rfl, hk53⟩
   refine ⟨_, rfl, ?_⟩
   have hsz54 := Keep.size hk53
   replace hb1 := hb1.k0 hk53
   replace hrep := RepIn.keep hrep hk53 nk
   replace hK0 := hK0.tn hk53
   replace hr := hr.keep hk53 nk
   replace hv := hv.keep hk53 nk
   replace hl := hl.keep hk53 nk
   replace hx := DLd.keep hx hk53 nk
   replace hy := DVt.keep hy hk53 nk
   replace hz := DRf.keep hz hk53 nk
   refine Ose [(4, .bool true)] ?_
   refine V_ret ?_
   refine X_ret_then ?_
   exact X_return (.bool true) rfl ⟨rfl, hK0⟩
  refine V_skip ?_
  refine X_then ?_
  refine V_seq ?_
  refine V_draws (acts [14]) (fun q => q ≠ b1 ∧ q ≠ b12) [[0, 1, 2, 3, 4, 5, 6, 7, 8, 9, 10, 11, 12, 13, 14, 15, 16, 17, 18, 19]] (by kernel_rfl) (by repeat first | exact (by first | exact (by first | exact sure_body (by rintro _ _ ⟨_, _, h, _⟩; exact ⟨_, h⟩) | exact sure_body (by rintro _ _ ⟨_, _, h, _⟩; exact ⟨_, h⟩) | exact sure_body (by rintro _ _ ⟨h, _⟩; exact ⟨_, h⟩)) | exact sure_body (by rintro _ _ ⟨_, _, _, h, _⟩; exact ⟨_, h⟩)) | refine sure_then ?_ | refine sure_block ?_ | refine sure_join ?_) (by kernel_rfl) ?_
  intro w56 hk55 he57 L hL58
  have hsz59 := Keep.size hk55
  replace hb1 := hb1.k0 hk55
  replace hb := hb.k0 hk55
  replace hrep := RepIn.keep hrep hk55 nk
  replace hK0 := hK0.tn hk55
  replace hr := hr.keep hk55 nk
  replace hv := hv.keep hk55 nk
  replace hl := hl.keep hk55 nk
  replace hx := DLd.keep hx hk55 nk
  replace hy := DVt.keep hy hk55 nk
  replace hz := DRf.keep hz hk55 nk
  have qhb1 := hb1
  have qhb := hb
  have K60 : Keep (fun q => q ≠ b1 ∧ q ≠ b12) w56 w56 := Keep.refl _ _
  obtain rfl := List.mem_singleton.1 hL58
  refine Gn [3, 4, 5, 6, 7, 8, 9, 10, 11, 12, 13, 14, 15, 16, 17, 18, 19] [1, 2, 5, 90] ?_
  refine Gc 31 (.tmp 90) 0 (pt l) (some 91) qhb (by show ¬ (b12 ≠ b1 ∧ b12 ≠ b12); omega) rfl ?_
  refine Gn [7, 8, 9, 10, 11, 12, 13, 14, 15, 16, 17, 18, 19] [1, 2, 5, 91, 94] ?_
  refine Gc 32 (.tmp 94) 1 (pt v) (some 95) qhb (by show ¬ (b12 ≠ b1 ∧ b12 ≠ b12); omega) rfl ?_
  refine Gn [11, 12, 13, 14, 15, 16, 17, 18, 19] [1, 2, 5, 91, 95, 98] ?_
  refine Gc 33 (.tmp 98) 2 (pt r) (some 99) qhb (by show ¬ (b12 ≠ b1 ∧ b12 ≠ b12); omega) rfl ?_
  refine Ga 26 (.tmp 2) 0 (CA.cells c) (some 100) 4 qhb1 (by show ¬ (b1 ≠ b1 ∧ b1 ≠ b12); omega) (take_all (CA.len _)) (CA.len _) ?_
  refine Gs [14, 15, 16, 17, 18, 19] [(5, pt b12), (91, pt l), (95, pt v), (99, pt r), (100, .agg (CA.cells c).toArray), (101, nt track)] ?_
  have hdd := doD_no (track := track) (now := 0) (c := c) (u := nnQ) (by omega)
  refine Gk0 (kL 10 #[(.tmp 91), (.tmp 95), (.tmp 99), (.tmp 100), (.tmp 101), (.const (nt 0))] #[31, 32, 33, 26, 3, 3]) 10 #[pt l, pt v, pt r, .agg (CA.cells c).toArray, nt track, nt 0] (some 102) (do_spec (Bel w) c r g actTs v l track 0 H F G nnQ _ hrep hr hv hl hpr.dHF hpr.dHG hpr.dFG (fun q hq => ⟨by have h1 : q < w.heap.size := hq; omega, fun h => by have h1 : q < w.heap.size := hq; have h2 := owH q h; omega, fun h => by have h1 : q < w.heap.size := hq; have h2 := owF q h; omega, fun h => by have h1 : q < w.heap.size := hq; have h2 := owG q h; omega⟩)) ?_
  rintro _ w67 ⟨A69, cap69, rfl, hA69, ow69, ⟨F70, F73, F76, ho71, ho74, ho77, hfr72, hfr75, hfr78, hdis79, hdis80, hdis81, dA82, dA83, dA84⟩, hk68⟩
  refine ⟨_, rfl, ?_⟩
  have hsz85 := Keep.size hk68
  replace hb1 := hb1.keep hk68 (fun hs => by rcases hs with hs | hs | hs; (have u9 : _ = g := hs; have u0 := owH _ (Rfr.atg hr); have u1 := ltH _ (Rfr.atg hr); omega); (have u0 := owF _ hs; have u1 := ltF _ hs; omega); (have u0 := owG _ hs; have u1 := ltG _ hs; omega))
  replace hb := hb.keep hk68 (fun hs => by rcases hs with hs | hs | hs; (have u9 : _ = g := hs; have u0 := owH _ (Rfr.atg hr); have u1 := ltH _ (Rfr.atg hr); omega); (have u0 := owF _ hs; have u1 := ltF _ hs; omega); (have u0 := owG _ hs; have u1 := ltG _ hs; omega))
  replace hrep := RepIn.keep hrep hk68 (fun q hq hs => by have g1 : q < w.heap.size := hq; rcases hs with hs | hs | hs; (have u9 : _ = g := hs; have u0 := owH _ (Rfr.atg hr); have u1 := ltH _ (Rfr.atg hr); omega); (have u0 := owF q hs; have u1 := ltF q hs; omega); (have u0 := owG q hs; have u1 := ltG q hs; omega))
  replace hK0 := Keep.fresh hK0 hk68 (by intro i hi hs; first | exact hs | (rcases hs with hs | hs | hs; (have u9 : _ = g := hs; have u0 := owH _ (Rfr.atg hr); have u1 := ltH _ (Rfr.atg hr); omega); (have u0 := owF i hs; have u1 := ltF i hs; omega); (have u0 := owG i hs; have u1 := ltG i hs; omega)))
  replace hx := DLd.keep hx hk68 (fun q hq hs => by rcases hs with hs | hs | hs; exact (fun q h1 h2 => hpr.dHX q h2 h1) q hq (by rw [show q = g from hs]; exact (Rfr.atg hr)); exact (fun q h1 h2 => hpr.dFX q h2 h1) q hq hs; exact (fun q h1 h2 => hpr.dGX q h2 h1) q hq hs)
  replace hy := DVt.keep hy hk68 (fun q hq hs => by rcases hs with hs | hs | hs; exact (fun q h1 h2 => hpr.dHY q h2 h1) q hq (by rw [show q = g from hs]; exact (Rfr.atg hr)); exact (fun q h1 h2 => hpr.dFY q h2 h1) q hq hs; exact (fun q h1 h2 => hpr.dGY q h2 h1) q hq hs)
  replace hz := DRf.keep hz hk68 (fun q hq hs => by rcases hs with hs | hs | hs; exact (fun q h1 h2 => hpr.dHZ q h2 h1) q hq (by rw [show q = g from hs]; exact (Rfr.atg hr)); exact (fun q h1 h2 => hpr.dFZ q h2 h1) q hq hs; exact (fun q h1 h2 => hpr.dGZ q h2 h1) q hq hs)
  have own87 : ∀ q, F70 q → w3.heap.size ≤ q ∧ q ≠ b1 ∧ q ≠ b1 ∧ q ≠ b12 := fun q hq => by rcases hfr72 q hq with h | h; (have h1 := owH q h; have h2 := ltH q h; omega); omega
  have lt86 := Rfr.lt ho71
  have rel88 : ∀ q, F70 q → B13 q ∨ w10.heap.size ≤ q := fun q hq => by rcases hfr72 q hq with h | h; exact rbH q h; exact .inr (by omega)
  have dis89 : ∀ q, F70 q → ¬ X q := fun q h1 h2 => by rcases hfr72 q h1 with h | h; exact hpr.dHX q h h2; (have h4 := ltX q h2; omega)
  have dis90 : ∀ q, F70 q → ¬ Y q := fun q h1 h2 => by rcases hfr72 q h1 with h | h; exact hpr.dHY q h h2; (have h4 := ltY q h2; omega)
  have dis91 : ∀ q, F70 q → ¬ Z q := fun q h1 h2 => by rcases hfr72 q h1 with h | h; exact hpr.dHZ q h h2; (have h4 := ltZ q h2; omega)
  have own93 : ∀ q, F73 q → w3.heap.size ≤ q ∧ q ≠ b1 ∧ q ≠ b1 ∧ q ≠ b12 := fun q hq => by rcases hfr75 q hq with h | h; (have h1 := owF q h; have h2 := ltF q h; omega); omega
  have lt92 := VotT.lt ho74
  have rel94 : ∀ q, F73 q → B13 q ∨ w10.heap.size ≤ q := fun q hq => by rcases hfr75 q hq with h | h; exact rbF q h; exact .inr (by omega)
  have dis95 : ∀ q, F73 q → ¬ X q := fun q h1 h2 => by rcases hfr75 q h1 with h | h; exact hpr.dFX q h h2; (have h4 := ltX q h2; omega)
  have dis96 : ∀ q, F73 q → ¬ Y q := fun q h1 h2 => by rcases hfr75 q h1 with h | h; exact hpr.dFY q h h2; (have h4 := ltY q h2; omega)
  have dis97 : ∀ q, F73 q → ¬ Z q := fun q h1 h2 => by rcases hfr75 q h1 with h | h; exact hpr.dFZ q h h2; (have h4 := ltZ q h2; omega)
  have own99 : ∀ q, F76 q → w3.heap.size ≤ q ∧ q ≠ b1 ∧ q ≠ b1 ∧ q ≠ b12 := fun q hq => by rcases hfr78 q hq with h | h; (have h1 := owG q h; have h2 := ltG q h; omega); omega
  have lt98 := Led.lt ho77
  have rel100 : ∀ q, F76 q → B13 q ∨ w10.heap.size ≤ q := fun q hq => by rcases hfr78 q hq with h | h; exact rbG q h; exact .inr (by omega)
  have dis101 : ∀ q, F76 q → ¬ X q := fun q h1 h2 => by rcases hfr78 q h1 with h | h; exact hpr.dGX q h h2; (have h4 := ltX q h2; omega)
  have dis102 : ∀ q, F76 q → ¬ Y q := fun q h1 h2 => by rcases hfr78 q h1 with h | h; exact hpr.dGY q h h2; (have h4 := ltY q h2; omega)
  have dis103 : ∀ q, F76 q → ¬ Z q := fun q h1 h2 => by rcases hfr78 q h1 with h | h; exact hpr.dGZ q h h2; (have h4 := ltZ q h2; omega)
  have ltA69 := SlT.lt hA69
  have dis104 : ∀ q, inA A69 q → ¬ X q := fun q h1 h2 => by have h3 := ow69 q h1; have h4 := ltX q h2; omega
  have dis105 : ∀ q, inA A69 q → ¬ Y q := fun q h1 h2 => by have h3 := ow69 q h1; have h4 := ltY q h2; omega
  have dis106 : ∀ q, inA A69 q → ¬ Z q := fun q h1 h2 => by have h3 := ow69 q h1; have h4 := ltZ q h2; omega
  replace hA69 := SlT.ofE (xs := (doD actTs track 0 c nnQ).1) hA69 (show _ = ([] : List Evt) from by rw [hdd])
  replace ho71 : Rfr F70 w67 r g actTs ((doD actTs track 0 c nnQ).2.2).rs := ho71
  replace ho74 : VotT F73 w67 v (((doD actTs track 0 c nnQ).2.2).s) := ho74
  replace ho77 : Led F76 w67 l ((doD actTs track 0 c nnQ).2.2).xs ((doD actTs track 0 c nnQ).2.2).cs := ho77
  rw [hdd] at ho71
  rw [hdd] at ho74
  rw [hdd] at ho77
  replace ho71 : Rfr F70 w67 r g actTs nnQ.rs := ho71
  replace ho74 : VotT F73 w67 v nnQ.s := ho74
  replace ho77 : Led F76 w67 l nnQ.xs nnQ.cs := ho77
  refine Gp_ [(5, pt b12), (102, .tuple #[.slice A69 (((doD actTs track 0 c nnQ).1).length) cap69, nt ((doD actTs track 0 c nnQ).2.1)])] ?_
  refine GI_eq [(5, pt b12), (102, .tuple #[.slice A69 0 cap69, nt 1])] (by rw [show (doD actTs track 0 c nnQ).1 = ([] : List Evt) from by rw [hdd]]; rw [hdd] <;> rfl) ?_
  refine Gn [] [5, 12, 13] ?_
  refine GI_end ?_
  refine X_then ?_
  refine Vr ?_
  refine On 9 [112, 113] ?_
  obtain ⟨B109, ho110, hfr111⟩ := PrX.pack (B := B13) (N := w10.heap.size) (ts := actTs) (q := nnQ) hb ho71 ho74 ho77 hx hy hz hdis79 hdis80 dis89 dis90 dis91 hdis81 dis95 dis96 dis97 dis101 dis102 dis103 hpr.dXY hpr.dXZ hpr.dYZ (fun q h => by have h1 := own87 q h; omega) (fun q h => by have h1 := own93 q h; omega) (fun q h => by have h1 := own99 q h; omega) (fun q h => by have h1 := owX q h; omega) (fun q h => by have h1 := owY q h; omega) (fun q h => by have h1 := owZ q h; omega) hBb rel88 rel94 rel100 rbX rbY rbZ
  have own113 : ∀ q, B109 q → w3.heap.size ≤ q ∧ q ≠ b1 := fun q hq => by rcases hfr111 q hq with h | h; (have h1 := own17 q h; have h2 := lt18 q h; omega); omega
  have lt112 := Pr.lt ho110
  refine Ok (kL 16 #[(.tmp 113)] #[22]) 16 #[pt b12] (some 114) (alike_ac B109 b12 nnQ _ ho110) ?_
  rintro _ w107 ⟨rfl, hk108⟩
  refine ⟨_, rfl, ?_⟩
  have hsz114 := Keep.size hk108
  replace hb1 := hb1.k0 hk108
  replace hA69 := hA69.keep0 hk108
  replace hrep := RepIn.keep hrep hk108 nk
  replace hK0 := hK0.tn hk108
  replace ho110 := Pr.keep ho110 hk108 nk
  refine On 12 [116] ?_
  refine Ok (kL 12 #[] #[]) 12 #[] (some 117) (known_spec _) ?_
  rintro _ w119 ⟨rfl, hk120⟩
  refine ⟨_, rfl, ?_⟩
  have hsz121 := Keep.size hk120
  replace hb1 := hb1.k0 hk120
  replace hrep := RepIn.keep hrep hk120 nk
  replace hK0 := hK0.tn hk120
  replace ho110 := Pr.keep ho110 hk120 nk
  refine Ose [(4, .bool true)] ?_
  refine V_ret ?_
  exact X_return (.bool true) rfl ⟨rfl, hK0⟩
 refine OI_eq [(1, nt track), (2, pt b1), (5, pt b12), (82, .bool false)] (by first | rw [decide_eq_false hg46] | simp [hg46] | rfl) ?_
 refine Ose [(1, nt track), (2, pt b1), (5, pt b12), (85, .bool false)] ?_
 refine V_false rfl ?_
 refine V_skip ?_
 refine X_then ?_
 refine V_seq ?_
 refine V_draws (acts [14]) (fun q => q ≠ b1 ∧ q ≠ b12) [[0, 1, 2, 3, 4, 5, 6, 7, 8, 9, 10, 11, 12, 13, 14, 15, 16, 17, 18, 19]] (by kernel_rfl) (by repeat first | exact (by first | exact (by first | exact sure_body (by rintro _ _ ⟨_, _, h, _⟩; exact ⟨_, h⟩) | exact sure_body (by rintro _ _ ⟨_, _, h, _⟩; exact ⟨_, h⟩) | exact sure_body (by rintro _ _ ⟨h, _⟩; exact ⟨_, h⟩)) | exact sure_body (by rintro _ _ ⟨_, _, _, h, _⟩; exact ⟨_, h⟩)) | refine sure_then ?_ | refine sure_block ?_ | refine sure_join ?_) (by kernel_rfl) ?_
 intro w123 hk122 he124 L hL125
 have hsz126 := Keep.size hk122
 replace hb1 := hb1.k0 hk122
 replace hb := hb.k0 hk122
 replace hrep := RepIn.keep hrep hk122 nk
 replace hK0 := hK0.tn hk122
 replace hr := hr.keep hk122 nk
 replace hv := hv.keep hk122 nk
 replace hl := hl.keep hk122 nk
 replace hx := DLd.keep hx hk122 nk
 replace hy := DVt.keep hy hk122 nk
 replace hz := DRf.keep hz hk122 nk
 have qhb1 := hb1
 have qhb := hb
 have K127 : Keep (fun q => q ≠ b1 ∧ q ≠ b12) w123 w123 := Keep.refl _ _
 obtain rfl := List.mem_singleton.1 hL125
 refine Gn [3, 4, 5, 6, 7, 8, 9, 10, 11, 12, 13, 14, 15, 16, 17, 18, 19] [1, 2, 5, 90] ?_
 refine Gc 31 (.tmp 90) 0 (pt l) (some 91) qhb (by show ¬ (b12 ≠ b1 ∧ b12 ≠ b12); omega) rfl ?_
 refine Gn [7, 8, 9, 10, 11, 12, 13, 14, 15, 16, 17, 18, 19] [1, 2, 5, 91, 94] ?_
 refine Gc 32 (.tmp 94) 1 (pt v) (some 95) qhb (by show ¬ (b12 ≠ b1 ∧ b12 ≠ b12); omega) rfl ?_
 refine Gn [11, 12, 13, 14, 15, 16, 17, 18, 19] [1, 2, 5, 91, 95, 98] ?_
 refine Gc 33 (.tmp 98) 2 (pt r) (some 99) qhb (by show ¬ (b12 ≠ b1 ∧ b12 ≠ b12); omega) rfl ?_
 refine Ga 26 (.tmp 2) 0 (CA.cells c) (some 100) 4 qhb1 (by show ¬ (b1 ≠ b1 ∧ b1 ≠ b12); omega) (take_all (CA.len _)) (CA.len _) ?_
 refine Gs [14, 15, 16, 17, 18, 19] [(5, pt b12), (91, pt l), (95, pt v), (99, pt r), (100, .agg (CA.cells c).toArray), (101, nt track)] ?_
 have hdd := doD_no (track := track) (now := 0) (c := c) (u := nnQ) (by omega)
 refine Gk0 (kL 10 #[(.tmp 91), (.tmp 95), (.tmp 99), (.tmp 100), (.tmp 101), (.const (nt 0))] #[31, 32, 33, 26, 3, 3]) 10 #[pt l, pt v, pt r, .agg (CA.cells c).toArray, nt track, nt 0] (some 102) (do_spec (Bel w) c r g actTs v l track 0 H F G nnQ _ hrep hr hv hl hpr.dHF hpr.dHG hpr.dFG (fun q hq => ⟨by have h1 : q < w.heap.size := hq; omega, fun h => by have h1 : q < w.heap.size := hq; have h2 := owH q h; omega, fun h => by have h1 : q < w.heap.size := hq; have h2 := owF q h; omega, fun h => by have h1 : q < w.heap.size := hq; have h2 := owG q h; omega⟩)) ?_
 rintro _ w134 ⟨A136, cap136, rfl, hA136, ow136, ⟨F137, F140, F143, ho138, ho141, ho144, hfr139, hfr142, hfr145, hdis146, hdis147, hdis148, dA149, dA150, dA151⟩, hk135⟩
 refine ⟨_, rfl, ?_⟩
 have hsz152 := Keep.size hk135
 replace hb1 := hb1.keep hk135 (fun hs => by rcases hs with hs | hs | hs; (have u9 : _ = g := hs; have u0 := owH _ (Rfr.atg hr); have u1 := ltH _ (Rfr.atg hr); omega); (have u0 := owF _ hs; have u1 := ltF _ hs; omega); (have u0 := owG _ hs; have u1 := ltG _ hs; omega))
 replace hb := hb.keep hk135 (fun hs => by rcases hs with hs | hs | hs; (have u9 : _ = g := hs; have u0 := owH _ (Rfr.atg hr); have u1 := ltH _ (Rfr.atg hr); omega); (have u0 := owF _ hs; have u1 := ltF _ hs; omega); (have u0 := owG _ hs; have u1 := ltG _ hs; omega))
 replace hrep := RepIn.keep hrep hk135 (fun q hq hs => by have g1 : q < w.heap.size := hq; rcases hs with hs | hs | hs; (have u9 : _ = g := hs; have u0 := owH _ (Rfr.atg hr); have u1 := ltH _ (Rfr.atg hr); omega); (have u0 := owF q hs; have u1 := ltF q hs; omega); (have u0 := owG q hs; have u1 := ltG q hs; omega))
 replace hK0 := Keep.fresh hK0 hk135 (by intro i hi hs; first | exact hs | (rcases hs with hs | hs | hs; (have u9 : _ = g := hs; have u0 := owH _ (Rfr.atg hr); have u1 := ltH _ (Rfr.atg hr); omega); (have u0 := owF i hs; have u1 := ltF i hs; omega); (have u0 := owG i hs; have u1 := ltG i hs; omega)))
 replace hx := DLd.keep hx hk135 (fun q hq hs => by rcases hs with hs | hs | hs; exact (fun q h1 h2 => hpr.dHX q h2 h1) q hq (by rw [show q = g from hs]; exact (Rfr.atg hr)); exact (fun q h1 h2 => hpr.dFX q h2 h1) q hq hs; exact (fun q h1 h2 => hpr.dGX q h2 h1) q hq hs)
 replace hy := DVt.keep hy hk135 (fun q hq hs => by rcases hs with hs | hs | hs; exact (fun q h1 h2 => hpr.dHY q h2 h1) q hq (by rw [show q = g from hs]; exact (Rfr.atg hr)); exact (fun q h1 h2 => hpr.dFY q h2 h1) q hq hs; exact (fun q h1 h2 => hpr.dGY q h2 h1) q hq hs)
 replace hz := DRf.keep hz hk135 (fun q hq hs => by rcases hs with hs | hs | hs; exact (fun q h1 h2 => hpr.dHZ q h2 h1) q hq (by rw [show q = g from hs]; exact (Rfr.atg hr)); exact (fun q h1 h2 => hpr.dFZ q h2 h1) q hq hs; exact (fun q h1 h2 => hpr.dGZ q h2 h1) q hq hs)
 have own154 : ∀ q, F137 q → w3.heap.size ≤ q ∧ q ≠ b1 ∧ q ≠ b1 ∧ q ≠ b12 := fun q hq => by rcases hfr139 q hq with h | h; (have h1 := owH q h; have h2 := ltH q h; omega); omega
 have lt153 := Rfr.lt ho138
 have rel155 : ∀ q, F137 q → B13 q ∨ w10.heap.size ≤ q := fun q hq => by rcases hfr139 q hq with h | h; exact rbH q h; exact .inr (by omega)
 have dis156 : ∀ q, F137 q → ¬ X q := fun q h1 h2 => by rcases hfr139 q h1 with h | h; exact hpr.dHX q h h2; (have h4 := ltX q h2; omega)
 have dis157 : ∀ q, F137 q → ¬ Y q := fun q h1 h2 => by rcases hfr139 q h1 with h | h; exact hpr.dHY q h h2; (have h4 := ltY q h2; omega)
 have dis158 : ∀ q, F137 q → ¬ Z q := fun q h1 h2 => by rcases hfr139 q h1 with h | h; exact hpr.dHZ q h h2; (have h4 := ltZ q h2; omega)
 have own160 : ∀ q, F140 q → w3.heap.size ≤ q ∧ q ≠ b1 ∧ q ≠ b1 ∧ q ≠ b12 := fun q hq => by rcases hfr142 q hq with h | h; (have h1 := owF q h; have h2 := ltF q h; omega); omega
 have lt159 := VotT.lt ho141
 have rel161 : ∀ q, F140 q → B13 q ∨ w10.heap.size ≤ q := fun q hq => by rcases hfr142 q hq with h | h; exact rbF q h; exact .inr (by omega)
 have dis162 : ∀ q, F140 q → ¬ X q := fun q h1 h2 => by rcases hfr142 q h1 with h | h; exact hpr.dFX q h h2; (have h4 := ltX q h2; omega)
 have dis163 : ∀ q, F140 q → ¬ Y q := fun q h1 h2 => by rcases hfr142 q h1 with h | h; exact hpr.dFY q h h2; (have h4 := ltY q h2; omega)
 have dis164 : ∀ q, F140 q → ¬ Z q := fun q h1 h2 => by rcases hfr142 q h1 with h | h; exact hpr.dFZ q h h2; (have h4 := ltZ q h2; omega)
 have own166 : ∀ q, F143 q → w3.heap.size ≤ q ∧ q ≠ b1 ∧ q ≠ b1 ∧ q ≠ b12 := fun q hq => by rcases hfr145 q hq with h | h; (have h1 := owG q h; have h2 := ltG q h; omega); omega
 have lt165 := Led.lt ho144
 have rel167 : ∀ q, F143 q → B13 q ∨ w10.heap.size ≤ q := fun q hq => by rcases hfr145 q hq with h | h; exact rbG q h; exact .inr (by omega)
 have dis168 : ∀ q, F143 q → ¬ X q := fun q h1 h2 => by rcases hfr145 q h1 with h | h; exact hpr.dGX q h h2; (have h4 := ltX q h2; omega)
 have dis169 : ∀ q, F143 q → ¬ Y q := fun q h1 h2 => by rcases hfr145 q h1 with h | h; exact hpr.dGY q h h2; (have h4 := ltY q h2; omega)
 have dis170 : ∀ q, F143 q → ¬ Z q := fun q h1 h2 => by rcases hfr145 q h1 with h | h; exact hpr.dGZ q h h2; (have h4 := ltZ q h2; omega)
 have ltA136 := SlT.lt hA136
 have dis171 : ∀ q, inA A136 q → ¬ X q := fun q h1 h2 => by have h3 := ow136 q h1; have h4 := ltX q h2; omega
 have dis172 : ∀ q, inA A136 q → ¬ Y q := fun q h1 h2 => by have h3 := ow136 q h1; have h4 := ltY q h2; omega
 have dis173 : ∀ q, inA A136 q → ¬ Z q := fun q h1 h2 => by have h3 := ow136 q h1; have h4 := ltZ q h2; omega
 replace hA136 := SlT.ofE (xs := (doD actTs track 0 c nnQ).1) hA136 (show _ = ([] : List Evt) from by rw [hdd])
 replace ho138 : Rfr F137 w134 r g actTs ((doD actTs track 0 c nnQ).2.2).rs := ho138
 replace ho141 : VotT F140 w134 v (((doD actTs track 0 c nnQ).2.2).s) := ho141
 replace ho144 : Led F143 w134 l ((doD actTs track 0 c nnQ).2.2).xs ((doD actTs track 0 c nnQ).2.2).cs := ho144
 rw [hdd] at ho138
 rw [hdd] at ho141
 rw [hdd] at ho144
 replace ho138 : Rfr F137 w134 r g actTs nnQ.rs := ho138
 replace ho141 : VotT F140 w134 v nnQ.s := ho141
 replace ho144 : Led F143 w134 l nnQ.xs nnQ.cs := ho144
 refine Gp_ [(5, pt b12), (102, .tuple #[.slice A136 (((doD actTs track 0 c nnQ).1).length) cap136, nt ((doD actTs track 0 c nnQ).2.1)])] ?_
 refine GI_eq [(5, pt b12), (102, .tuple #[.slice A136 0 cap136, nt 1])] (by rw [show (doD actTs track 0 c nnQ).1 = ([] : List Evt) from by rw [hdd]]; rw [hdd] <;> rfl) ?_
 refine Gn [] [5, 12, 13] ?_
 refine GI_end ?_
 refine X_then ?_
 refine Vr ?_
 refine On 9 [112, 113] ?_
 obtain ⟨B176, ho177, hfr178⟩ := PrX.pack (B := B13) (N := w10.heap.size) (ts := actTs) (q := nnQ) hb ho138 ho141 ho144 hx hy hz hdis146 hdis147 dis156 dis157 dis158 hdis148 dis162 dis163 dis164 dis168 dis169 dis170 hpr.dXY hpr.dXZ hpr.dYZ (fun q h => by have h1 := own154 q h; omega) (fun q h => by have h1 := own160 q h; omega) (fun q h => by have h1 := own166 q h; omega) (fun q h => by have h1 := owX q h; omega) (fun q h => by have h1 := owY q h; omega) (fun q h => by have h1 := owZ q h; omega) hBb rel155 rel161 rel167 rbX rbY rbZ
 have own180 : ∀ q, B176 q → w3.heap.size ≤ q ∧ q ≠ b1 := fun q hq => by rcases hfr178 q hq with h | h; (have h1 := own17 q h; have h2 := lt18 q h; omega); omega
 have lt179 := Pr.lt ho177
 refine Ok (kL 16 #[(.tmp 113)] #[22]) 16 #[pt b12] (some 114) (alike_ac B176 b12 nnQ _ ho177) ?_
 rintro _ w174 ⟨rfl, hk175⟩
 refine ⟨_, rfl, ?_⟩
 have hsz181 := Keep.size hk175
 replace hb1 := hb1.k0 hk175
 replace hA136 := hA136.keep0 hk175
 replace hrep := RepIn.keep hrep hk175 nk
 replace hK0 := hK0.tn hk175
 replace ho177 := Pr.keep ho177 hk175 nk
 refine On 12 [116] ?_
 refine Ok (kL 12 #[] #[]) 12 #[] (some 117) (known_spec _) ?_
 rintro _ w186 ⟨rfl, hk187⟩
 refine ⟨_, rfl, ?_⟩
 have hsz188 := Keep.size hk187
 replace hb1 := hb1.k0 hk187
 replace hrep := RepIn.keep hrep hk187 nk
 replace hK0 := hK0.tn hk187
 replace ho177 := Pr.keep ho177 hk187 nk
 refine Ose [(4, .bool true)] ?_
 refine V_ret ?_
 exact X_return (.bool true) rfl ⟨rfl, hK0⟩
theorem over_ActNone {H : Type} {enc : TypeId × Value → H} {c : Array Value} {d : DataW H} {ps : List MemPlace} {w : World} (h : DataW.Trod enc Tryz.prog w 0 (fun _ => true) true 26 (.agg c) d ps) (track : Int) : Calls Tryz.prog 8 #[.agg c, nt track] w (rk_ w (.bool true)) := by
  obtain ⟨x, rfl, h1, h2⟩ := read_callA h
  exact walk_ActNone x track w h2 h1
end Go.Al
