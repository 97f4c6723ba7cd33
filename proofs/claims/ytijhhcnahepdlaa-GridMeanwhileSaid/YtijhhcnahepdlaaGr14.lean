/-
  Walks of the document's grid: Get, Del, Set.
-/
import Derived.Test.YtijhhcnahepdlaaGr13
namespace Go.Al
open Go Go.RowKit Go.Proofs
theorem rget_spec (F : Nat → Prop) (g : Nat) (cs : List Ci) (a b : Int) (w : World) (h : Rgd F w g cs) : Calls Try.prog 39 #[.pointer (some ⟨g, 0, none⟩), .int .i64 a, .int .i64 b] w fun e w' => e = .returned (.tuple #[.int .i64 ((getC a b cs).getD 0), .bool (getC a b cs).isSome]) ∧ Keep none_ w w' := by
  obtain ⟨hs, hlen, hFg, hFlt, A, cap, h, hAF⟩ := h
  have hgA := h.off
  have hg := h.blk
  have hA := h.sl
  have hglt := hg.lt
  have hltA := SlT.lt hA
  have hAg : ∀ q, inA A q → q ≠ g := fun q hq he => hgA (he ▸ hq)
  have hK0 : Keep none_ w w := Keep.refl _ _
  have hzhK0 := Keep.size hK0
  refine enterV Try.func39 rfl [.pointer (some ⟨g, 0, none⟩), .int .i64 a, .int .i64 b] 27 rfl rfl rfl ?_
  refine V_pick [(0, .pointer (some ⟨g, 0, none⟩)), (1, .int .i64 a), (2, .int .i64 b)] rfl ?_
  refine V_seq ?_
  refine V_region ?_
  refine OI_static 2 [(0, .pointer (some ⟨g, 0, none⟩)), (1, .int .i64 a), (2, .int .i64 b)] (by kernel_rfl) ?_
  refine OI_end rfl ?_
  refine X_then ?_
  refine V_seq ?_
  refine V_region ?_
  refine OI_static 3 [(0, .pointer (some ⟨g, 0, none⟩)), (11, .pointer (some ⟨g, 0, none⟩)), (12, .int .i64 a), (13, .int .i64 b)] (by kernel_rfl) ?_
  refine OI_call { callee := (Callee.value (Operand.func 52)), args := #[(Operand.tmp 11), (Operand.tmp 12), (Operand.tmp 13)], argTypes := #[46, 3, 3] } 52 #[.pointer (some ⟨g, 0, none⟩), .int .i64 a, .int .i64 b] (some 14) (by kernel_rfl) (by kernel_rfl) (by kernel_rfl) (rplace_spec g cap A cs a b _ ⟨hg, hA, hgA⟩ hs hlen) ?_
  rintro _ w1 ⟨i, bb, rfl, hk2, hi, hbef, haft, hbb⟩
  refine ⟨_, rfl, ?_⟩
  have hsz3 := Keep.size hk2
  replace hg := hg.keep hk2 (fun f => f)
  have hglt := hg.lt
  replace hA := SlT.keep0 hA hk2
  replace hK0 := Keep.tr hK0 (Keep.ofNone hk2); have hzhK0 := Keep.size hK0
  have hcapA := SlT.cap_le hA
  refine OI_static 9 [(0, .pointer (some ⟨g, 0, none⟩)), (8, .int .i64 ((i : Nat) : Int)), (9, .bool bb)] (by kernel_rfl) ?_
  refine OI_end rfl ?_
  refine X_then ?_
  refine V_seq ?_
  refine V_seq ?_
  refine V_region ?_
  refine OI_static 2 [(0, .pointer (some ⟨g, 0, none⟩)), (8, .int .i64 ((i : Nat) : Int)), (18, .bool (!bb))] (by kernel_rfl) ?_
  refine OI_end rfl ?_
  refine X_then ?_
  refine V_ifb (!bb) (by kernel_rfl) (fun hc4 => ?_) (fun hc4 => ?_)
  · skip
    have hbv : bb = false := by simpa using hc4
    rcases place_at cs i hs hi hbef haft with ⟨y, g1, g2, _⟩ | ⟨g1, g2, g3, g4⟩
    · exact absurd hbv (by rw [hbb, g1]; simp [g2])
    refine V_seq ?_
    refine V_region ?_
    refine OI_static 2 [(6, .int .i64 0), (7, .bool false)] (by kernel_rfl) ?_
    refine OI_end rfl ?_
    refine X_then ?_
    refine V_ret ?_
    refine X_ret_then ?_
    exact X_return (.tuple #[.int .i64 0, .bool false]) rfl ⟨by rw [g2]; rfl, hK0⟩
  · skip
    have hbv : bb = true := by simpa using hc4
    rcases place_at cs i hs hi hbef haft with ⟨y, g1, g2, g3, g4, g5, g6, g7⟩ | ⟨g1, _⟩
    rotate_left
    · exact absurd hbv (by rw [hbb]; split <;> simp_all)
    have hilt := (List.getElem?_eq_some_iff.1 g1).1
    refine V_skip ?_
    refine X_then ?_
    refine V_seq ?_
    refine V_region ?_
    refine OI_static 3 [(8, .int .i64 ((i : Nat) : Int)), (21, .pointer (some ⟨g, 0, none⟩))] (by kernel_rfl) ?_
    refine OI_cell 47 (.tmp 21) 0 (.slice A cs.length cap) (some 22) (by kernel_rfl) (by kernel_rfl) hg (m := 1) (by kernel_rfl) rfl ?_
    refine OI_static 5 [(22, .slice A cs.length cap), (23, .int .i64 ((i : Nat) : Int))] (by kernel_rfl) ?_
    obtain ⟨b5, o5, L5, T5, rfl, hat5⟩ := SlT.open_ hA (by first | omega | (simp only [List.length_map]; omega) | (simp; done) | (simp; omega))
    have hb5lt := hat5.blk.lt
    have hob6 := hAg b5 ⟨_, rfl, rfl⟩
    have hob7 := hltA b5 ⟨_, rfl, rfl⟩
    refine OI_pure (some 24) (.indexAddr 47 (.tmp 22) (.tmp 23)) (by kernel_rfl) (pure_idxN (b := b5) (o := o5) (len := cs.length) (cap := cap) (kd := .i64) (j := i) (E := 59) (sz := 3) (by_ := 24) (by kernel_rfl) (by kernel_rfl) (by kernel_rfl) (by omega)) ?_
    refine OI_static 7 [(25, .pointer (some ⟨b5, o5 + i * 3 + 2, none⟩))] (by kernel_rfl) ?_
    refine OI_cell 3 (.tmp 25) (o5 + i * 3 + 2) (.int .i64 y.v) (some 26) (by kernel_rfl) (by kernel_rfl) hat5.blk (m := 1) (by kernel_rfl) (At.cell hat5 (es_at g1) rfl) ?_
    refine OI_static 10 [(6, .int .i64 y.v), (7, .bool true)] (by kernel_rfl) ?_
    refine OI_end rfl ?_
    refine X_then ?_
    refine V_ret ?_
    exact X_return (.tuple #[.int .i64 y.v, .bool true]) rfl ⟨by rw [g5]; rfl, hK0⟩

set_option maxRecDepth 10000 in
theorem rdel_spec (F : Nat → Prop) (g : Nat) (cs : List Ci) (a b : Int) (w : World) (h : Rgd F w g cs) : Calls Try.prog 38 #[.pointer (some ⟨g, 0, none⟩), .int .i64 a, .int .i64 b] w fun e w' => e = .returned (.bool (getC a b cs).isSome) ∧ (∃ F', Rgd F' w' g (delC a b cs) ∧ (∀ q, F' q → F q ∨ w.heap.size ≤ q)) ∧ Keep F w w' := by
  obtain ⟨hs, hlen, hFg, hFlt, A, cap, h, hAF⟩ := h
  have hgA := h.off
  have hg := h.blk
  have hA := h.sl
  have hglt := hg.lt
  have hltA := SlT.lt hA
  have hAg : ∀ q, inA A q → q ≠ g := fun q hq he => hgA (he ▸ hq)
  have hK0 : Keep F w w := Keep.refl _ _
  have hzhK0 := Keep.size hK0
  refine enterV Try.func38 rfl [.pointer (some ⟨g, 0, none⟩), .int .i64 a, .int .i64 b] 37 rfl rfl rfl ?_
  refine V_pick [(0, .pointer (some ⟨g, 0, none⟩)), (1, .int .i64 a), (2, .int .i64 b)] rfl ?_
  refine V_seq ?_
  refine V_region ?_
  refine OI_static 1 [(0, .pointer (some ⟨g, 0, none⟩)), (1, .int .i64 a), (2, .int .i64 b)] (by kernel_rfl) ?_
  refine OI_end rfl ?_
  refine X_then ?_
  refine V_seq ?_
  refine V_region ?_
  refine OI_static 3 [(0, .pointer (some ⟨g, 0, none⟩)), (10, .pointer (some ⟨g, 0, none⟩)), (11, .int .i64 a), (12, .int .i64 b)] (by kernel_rfl) ?_
  refine OI_call { callee := (Callee.value (Operand.func 52)), args := #[(Operand.tmp 10), (Operand.tmp 11), (Operand.tmp 12)], argTypes := #[46, 3, 3] } 52 #[.pointer (some ⟨g, 0, none⟩), .int .i64 a, .int .i64 b] (some 13) (by kernel_rfl) (by kernel_rfl) (by kernel_rfl) (rplace_spec g cap A cs a b _ ⟨hg, hA, hgA⟩ hs hlen) ?_
  rintro _ w1 ⟨i, bb, rfl, hk2, hi, hbef, haft, hbb⟩
  refine ⟨_, rfl, ?_⟩
  have hsz3 := Keep.size hk2
  replace hg := hg.keep hk2 (fun f => f)
  have hglt := hg.lt
  replace hA := SlT.keep0 hA hk2
  replace hK0 := Keep.tr hK0 (Keep.ofNone hk2); have hzhK0 := Keep.size hK0
  have hcapA := SlT.cap_le hA
  refine OI_static 9 [(0, .pointer (some ⟨g, 0, none⟩)), (7, .int .i64 ((i : Nat) : Int)), (8, .bool bb)] (by kernel_rfl) ?_
  refine OI_end rfl ?_
  refine X_then ?_
  refine V_seq ?_
  refine V_seq ?_
  refine V_region ?_
  refine OI_static 1 [(0, .pointer (some ⟨g, 0, none⟩)), (7, .int .i64 ((i : Nat) : Int)), (8, .bool bb), (16, .bool bb)] (by kernel_rfl) ?_
  refine OI_end rfl ?_
  refine X_then ?_
  refine V_ifb (bb) (by kernel_rfl) (fun hc4 => ?_) (fun hc4 => ?_)
  · skip
    have hbv : bb = true := by simpa using hc4
    rcases place_at cs i hs hi hbef haft with ⟨y, g1, g2, g3, g4, g5, g6, g7⟩ | ⟨g1, _⟩
    rotate_left
    · exact absurd hbv (by rw [hbb]; split <;> simp_all)
    have hilt := (List.getElem?_eq_some_iff.1 g1).1
    refine V_draws (acts [1, 8, 16, 19]) (fun q => q ≠ g) [[1, 2, 3, 4, 5, 6, 7, 8, 9, 10, 11, 12, 13, 14, 15, 16, 0, 17, 18, 19]] (by kernel_rfl) (by repeat first | exact sure_body (by rintro _ _ ⟨h, _⟩; exact ⟨_, h⟩) | refine sure_then ?_ | refine sure_block ?_ | refine sure_join ?_) (by kernel_rfl) ?_
    intro w6 hk5 he7 L hL8
    have hsz9 := Keep.size hk5
    replace hg := hg.keep hk5 (fun f => f)
    have hglt := hg.lt
    replace hA := SlT.keep0 hA hk5
    replace hK0 := Keep.tr hK0 (Keep.ofNone hk5); have hzhK0 := Keep.size hK0
    have qhg := hg
    have K10 : Keep (fun q => q ≠ g) w6 w6 := Keep.refl _ _
    obtain rfl := List.mem_singleton.1 hL8
    refine GI_slit (E := 59) (zv := .agg #[.int .i64 0, .int .i64 0, .int .i64 0]) (sz := 3) (by_ := 24) 47 0 #[] [] [] (some 18) (by kernel_rfl) (by kernel_rfl) K10 (by kernel_rfl) (by kernel_rfl) (by omega) rfl (by omega) (by intro v hv; cases hv) (by kernel_rfl) rfl ?_
    intro b11 w11 e11 hb11 k11 z11 K12
    have hsz13 := Keep.size k11
    replace hg := hg.keep k11 (fun f => f)
    have hglt := hg.lt
    replace hA := SlT.keep0 hA k11
    replace hK0 := Keep.tr hK0 (Keep.ofNone k11); have hzhK0 := Keep.size hK0
    have hb11lt := hb11.lt
    refine GI_static [5, 6, 7, 8, 9, 10, 11, 12, 13, 14, 15, 16, 0, 17, 18, 19] [(0, .pointer (some ⟨g, 0, none⟩)), (7, .int .i64 ((i : Nat) : Int)), (8, .bool bb), (18, .slice (some ⟨b11, 0, none⟩) 0 0), (21, .pointer (some ⟨g, 0, none⟩))] (by kernel_rfl) ?_
    refine GI_cell 47 (.tmp 21) 0 (.slice A cs.length cap) (some 22) (by kernel_rfl) (by kernel_rfl) (by kernel_rfl) qhg (by show ¬ (g ≠ g); omega) (m := 1) (by kernel_rfl) rfl ?_
    refine GI_static [7, 8, 9, 10, 11, 12, 13, 14, 15, 16, 0, 17, 18, 19] [(0, .pointer (some ⟨g, 0, none⟩)), (7, .int .i64 ((i : Nat) : Int)), (8, .bool bb), (18, .slice (some ⟨b11, 0, none⟩) 0 0), (22, .slice A cs.length cap), (23, .int .i64 ((i : Nat) : Int))] (by kernel_rfl) ?_
    refine GI_pure (some 24) ((Op.slice 47 (Operand.tmp 22) none (some (Operand.tmp 23)) none)) (by kernel_rfl) (by kernel_rfl) (pure_sliceTo (E := 59) (sz := 3) (by_ := 24) (base := A) (len := cs.length) (cap := cap) (h := i) (kd := .i64) (by kernel_rfl) (by kernel_rfl) (by kernel_rfl) (by omega)) ?_
    have hl14 : (cs.take i).length = i := by rw [List.length_take]; omega
    have hy14 := (SlT.to hA (i := i) (by omega)).slr
    rw [hl14] at hy14
    refine GI_append (t := 47) (at2 := 47) (E := 59) (E2 := 59) (sz := 3) (by_ := 24) (zv := .agg #[.int .i64 0, .int .i64 0, .int .i64 0]) (m := ([] : List Ci).length) (k := i) (.tmp 18) (.tmp 24) (.slice (some ⟨b11, 0, none⟩) 0 0) (.slice A i cap) (some 25) (by kernel_rfl) (by kernel_rfl) (by kernel_rfl) (by kernel_rfl) (by kernel_rfl) (by kernel_rfl) (by kernel_rfl) (by kernel_rfl) (SlT.slr (slt_blk (xs := ([] : List Ci)) (f := Ci.cells) (sz := 3) hb11 Ci.len rfl)) hy14 (fun u hu => by obtain ⟨z, _, hz⟩ := List.mem_flatMap.1 hu; exact Ci.one z u hz) (by first | omega | (simp only [List.length_nil, List.length_append, List.length_cons, List.length_take, List.length_drop]; omega)) (by omega) (by first | omega | (simp only [List.length_nil, List.length_append, List.length_cons, List.length_take, List.length_drop]; omega)) (by omega) ?_
    intro vv9 w14 hap
    obtain ⟨A14, cap14, rfl, hA14, hk14, own14x⟩ := app_many (f := Ci.cells) (xs := ([] : List Ci)) (ys := (cs.take i)) (A := (some ⟨b11, 0, none⟩)) (cap := 0) hap hl14 Ci.len
    replace hk14 : Keep (only b11) w11 w14 := hk14.mono (fun i _ h => inA_some h)
    have own14 : ∀ q, inA A14 q → w.heap.size ≤ q := fun q hq => by rcases own14x q hq with h | h; (have h9 := inA_some h; show w.heap.size ≤ q; omega); (show w.heap.size ≤ q; omega)
    refine ⟨Keep.fresh K12 hk14 (by intro i hi hs; have hs2 : i = b11 := hs; show i ≠ g; omega), ?_⟩
    have K15 := Keep.fresh K12 hk14 (by intro i hi hs; have hs2 : i = b11 := hs; show i ≠ g; omega)
    rw [List.nil_append] at hA14
    have hsz16 := Keep.size hk14
    replace hg := hg.keep hk14 (by show ¬ (_ = _); omega)
    have hglt := hg.lt
    replace hA := SlT.keep hA hk14 (fun q hq hs => by have hs : q = b11 := hs; have g0 := hAg q hq; have g1 := hltA q hq; omega)
    replace hK0 := Keep.fresh hK0 hk14 (by intro i hi hs; have hs2 : i = b11 := hs; first | (exfalso; omega) | (rw [hs2]; exact hFg)); have hzhK0 := Keep.size hK0
    have lt14 := SlT.lt hA14
    have hcap14 := SlT.cap_le hA14
    refine GI_static [12, 13, 14, 15, 16, 0, 17, 18, 19] [(0, .pointer (some ⟨g, 0, none⟩)), (7, .int .i64 ((i : Nat) : Int)), (8, .bool bb), (25, .slice A14 ((cs.take i).length) cap14), (28, .pointer (some ⟨g, 0, none⟩))] (by kernel_rfl) ?_
    refine GI_cell 47 (.tmp 28) 0 (.slice A cs.length cap) (some 29) (by kernel_rfl) (by kernel_rfl) (by kernel_rfl) qhg (by show ¬ (g ≠ g); omega) (m := 1) (by kernel_rfl) rfl ?_
    have hw17 : IntKind.i64.wrap (((i : Nat) : Int) + 1) = ((i + 1 : Nat) : Int) := (wrap64_id (by omega) (by omega)).trans (by omega)
    refine GI_static [15, 16, 0, 17, 18, 19] [(0, .pointer (some ⟨g, 0, none⟩)), (8, .bool bb), (25, .slice A14 ((cs.take i).length) cap14), (29, .slice A cs.length cap), (31, .int .i64 (IntKind.i64.wrap (((i : Nat) : Int) + 1)))] (by kernel_rfl) ?_
    refine GI_eq [(0, .pointer (some ⟨g, 0, none⟩)), (8, .bool bb), (25, .slice A14 ((cs.take i).length) cap14), (29, .slice A cs.length cap), (31, .int .i64 ((i + 1 : Nat) : Int))] (by rw [hw17]) ?_
    refine GI_pure (some 32) ((Op.slice 47 (Operand.tmp 29) (some (Operand.tmp 31)) none none)) (by kernel_rfl) (by kernel_rfl) (pure_sliceSuf (E := 59) (sz := 3) (by_ := 24) (A := A) (len := cs.length) (cap := cap) (l := i + 1) (kd := .i64) (by kernel_rfl) (by kernel_rfl) (by kernel_rfl) (by omega) (by omega)) ?_
    have hl18 : (cs.drop (i + 1)).length = cs.length - (i + 1) := List.length_drop
    have hy18 := (SlT.from_ hA (i := i + 1) (by omega)).slr
    rw [hl18] at hy18
    refine GI_append (t := 47) (at2 := 47) (E := 59) (E2 := 59) (sz := 3) (by_ := 24) (zv := .agg #[.int .i64 0, .int .i64 0, .int .i64 0]) (m := (cs.take i).length) (k := cs.length - (i + 1)) (.tmp 25) (.tmp 32) (.slice A14 ((cs.take i).length) cap14) (.slice (sufA A cap (i + 1) 3) (cs.length - (i + 1)) (cap - (i + 1))) (some 33) (by kernel_rfl) (by kernel_rfl) (by kernel_rfl) (by kernel_rfl) (by kernel_rfl) (by kernel_rfl) (by kernel_rfl) (by kernel_rfl) (SlT.slr hA14) hy18 (fun u hu => by obtain ⟨z, _, hz⟩ := List.mem_flatMap.1 hu; exact Ci.one z u hz) (by first | omega | (simp only [List.length_nil, List.length_append, List.length_cons, List.length_take, List.length_drop]; omega)) (by omega) (by first | omega | (simp only [List.length_nil, List.length_append, List.length_cons, List.length_take, List.length_drop]; omega)) (by omega) ?_
    intro vv9 w18 hap
    obtain ⟨A18, cap18, rfl, hA18, hk18, own18x⟩ := app_many (f := Ci.cells) (xs := (cs.take i)) (ys := (cs.drop (i + 1))) (A := A14) (cap := cap14) hap hl18 Ci.len
    have own18 : ∀ q, inA A18 q → w.heap.size ≤ q := fun q hq => by rcases own18x q hq with h | h; (have h8 := own14 q h; have h9 := lt14 q h; show w.heap.size ≤ q; omega); (show w.heap.size ≤ q; omega)
    refine ⟨Keep.fresh K15 hk18 (by intro i hi hs; have h1 := own14 i hs; have h2 := lt14 i hs; show i ≠ g; omega), ?_⟩
    have K19 := Keep.fresh K15 hk18 (by intro i hi hs; have h1 := own14 i hs; have h2 := lt14 i hs; show i ≠ g; omega)
    have hsz20 := Keep.size hk18
    replace hg := hg.keep hk18 (fun hs => by have h1 := own14 _ hs; have h2 := lt14 _ hs; omega)
    have hglt := hg.lt
    replace hA := SlT.keep hA hk18 (fun q hq hs => by have g0 := hAg q hq; have g1 := hltA q hq; have h1 := own14 q hs; have h2 := lt14 q hs; omega)
    replace hK0 := Keep.fresh hK0 hk18 (by intro i hi hs; first | exact hs | (exfalso; have h1 := own14 i hs; have h2 := lt14 i hs; omega) | (have h1 := own14 i hs; have h2 := lt14 i hs; show _ ∨ _; omega)); have hzhK0 := Keep.size hK0
    have lt18 := SlT.lt hA18
    have hcap18 := SlT.cap_le hA18
    refine GI_static [19] [(8, .bool bb), (33, .slice A18 (((cs.take i) ++ (cs.drop (i + 1))).length) cap18), (35, .pointer (some ⟨g, 0, none⟩))] (by kernel_rfl) ?_
    refine GI_final 19 (by kernel_rfl) (by kernel_rfl) ?_
    refine OI_set (m := 1) (kd := false) 47 (.tmp 35) (.tmp 33) 0 (.slice A18 (((cs.take i) ++ (cs.drop (i + 1))).length) cap18) [.slice A18 (((cs.take i) ++ (cs.drop (i + 1))).length) cap18] none (by kernel_rfl) (by kernel_rfl) (by kernel_rfl) hg (by kernel_rfl) (by kernel_rfl) (by kernel_rfl) (Nat.le_of_ble_eq_true (by kernel_rfl)) (by simp [Value.oneCell']) ?_
    intro w21 hg_24 hk22 hz23
    replace hg_24 : Blk w21 g [.slice A18 (((cs.take i) ++ (cs.drop (i + 1))).length) cap18] 49 := hg_24
    have hsz25 := Keep.size hk22
    replace hA := SlT.keep hA hk22 (fun q hq hs => by have hs : q = g := hs; have g0 := hAg q hq; have g1 := hltA q hq; omega)
    replace hA18 := SlT.keep hA18 hk22 (fun q hq hs => by have hs : q = g := hs; have g0 := own18 q hq; have g1 := lt18 q hq; omega)
    replace hK0 := Keep.fresh hK0 hk22 (by intro i hi hs; have hs2 : i = g := hs; first | (exfalso; omega) | (rw [hs2]; exact hFg)); have hzhK0 := Keep.size hK0
    refine OI_end rfl ?_
    refine X_then ?_
    refine V_seq ?_
    refine V_region ?_
    refine OI_static 2 [(6, .bool bb)] (by kernel_rfl) ?_
    refine OI_end rfl ?_
    refine X_then ?_
    refine V_ret ?_
    obtain ⟨hsn, hsl⟩ := hs.del a b
    have hE : ((cs.take i) ++ (cs.drop (i + 1))) = delC a b cs := g7
    rw [hE] at hA18
    exact X_return (.bool bb) rfl ⟨by rw [g5, hbv]; rfl, ⟨more F w w21, ⟨hsn, by omega, .inl hFg, (fun q hq => by rcases hq with hq | hq; (have h9 := hFlt q hq; omega); exact hq.2), A18, cap18, ⟨by have h9 := hg_24; rw [hE] at h9; exact h9, hA18, fun hh => by have h9 := own18 g hh; omega⟩, fun q hq => .inr ⟨own18 q hq, by have h9 := lt18 q hq; omega⟩⟩, fun q hq => hq.imp id (·.1)⟩, hK0⟩
  · skip
    have hbv : bb = false := by simpa using hc4
    rcases place_at cs i hs hi hbef haft with ⟨y, g1, g2, _⟩ | ⟨g1, g2, g3, g4⟩
    · exact absurd hbv (by rw [hbb, g1]; simp [g2])
    refine V_skip ?_
    refine X_then ?_
    refine V_seq ?_
    refine V_region ?_
    refine OI_static 2 [(6, .bool bb)] (by kernel_rfl) ?_
    refine OI_end rfl ?_
    refine X_then ?_
    refine V_ret ?_
    rw [g4, g2]
    exact X_return (.bool bb) rfl ⟨by rw [hbv]; rfl, ⟨F, ⟨hs, hlen, hFg, (fun q hq => Nat.lt_of_lt_of_le (hFlt q hq) (by omega)), A, cap, ⟨hg, hA, hgA⟩, hAF⟩, fun q h => .inl h⟩, hK0⟩

set_option maxRecDepth 10000 in
theorem rset_spec (F : Nat → Prop) (g : Nat) (cs : List Ci) (a b v : Int) (w : World) (h : Rgd F w g cs) (hmax : cs.length < 100000) : Calls Try.prog 37 #[.pointer (some ⟨g, 0, none⟩), .int .i64 a, .int .i64 b, .int .i64 v] w fun e w' => e = .returned (.tuple #[]) ∧ (∃ F', Rgd F' w' g (setC a b v cs) ∧ (∀ q, F' q → F q ∨ w.heap.size ≤ q)) ∧ Keep F w w' := by
  obtain ⟨hs, hlen, hFg, hFlt, A, cap, h, hAF⟩ := h
  have hgA := h.off
  have hg := h.blk
  have hA := h.sl
  have hglt := hg.lt
  have hltA := SlT.lt hA
  have hAg : ∀ q, inA A q → q ≠ g := fun q hq he => hgA (he ▸ hq)
  have hK0 : Keep F w w := Keep.refl _ _
  have hzhK0 := Keep.size hK0
  refine enterV Try.func37 rfl [.pointer (some ⟨g, 0, none⟩), .int .i64 a, .int .i64 b, .int .i64 v] 47 rfl rfl rfl ?_
  refine V_pick [(0, .pointer (some ⟨g, 0, none⟩)), (1, .int .i64 a), (2, .int .i64 b), (3, .int .i64 v)] rfl ?_
  refine V_seq ?_
  refine V_region ?_
  refine OI_static 3 [(0, .pointer (some ⟨g, 0, none⟩)), (1, .int .i64 a), (2, .int .i64 b), (3, .int .i64 v), (12, .pointer (some ⟨g, 0, none⟩)), (13, .int .i64 a), (14, .int .i64 b)] (by kernel_rfl) ?_
  refine OI_call { callee := (Callee.value (Operand.func 52)), args := #[(Operand.tmp 12), (Operand.tmp 13), (Operand.tmp 14)], argTypes := #[46, 3, 3] } 52 #[.pointer (some ⟨g, 0, none⟩), .int .i64 a, .int .i64 b] (some 15) (by kernel_rfl) (by kernel_rfl) (by kernel_rfl) (rplace_spec g cap A cs a b _ ⟨hg, hA, hgA⟩ hs hlen) ?_
  rintro _ w1 ⟨i, bb, rfl, hk2, hi, hbef, haft, hbb⟩
  refine ⟨_, rfl, ?_⟩
  have hsz3 := Keep.size hk2
  replace hg := hg.keep hk2 (fun f => f)
  have hglt := hg.lt
  replace hA := SlT.keep0 hA hk2
  replace hK0 := Keep.tr hK0 (Keep.ofNone hk2); have hzhK0 := Keep.size hK0
  have hcapA := SlT.cap_le hA
  refine OI_static 9 [(0, .pointer (some ⟨g, 0, none⟩)), (1, .int .i64 a), (2, .int .i64 b), (3, .int .i64 v), (8, .int .i64 ((i : Nat) : Int)), (9, .bool bb)] (by kernel_rfl) ?_
  refine OI_end rfl ?_
  refine X_then ?_
  refine V_seq ?_
  refine V_region ?_
  refine OI_slit (E := 59) (zv := .agg #[.int .i64 0, .int .i64 0, .int .i64 0]) (sz := 3) (by_ := 24) 47 0 #[] [] [] (some 18) (by kernel_rfl) (by kernel_rfl) (by kernel_rfl) (by omega) rfl (by omega) (by intro v hv; cases hv) (by kernel_rfl) rfl ?_
  intro b4 w4 e4 hb4 k4 z4
  have hsz5 := Keep.size k4
  replace hg := hg.keep k4 (fun f => f)
  have hglt := hg.lt
  replace hA := SlT.keep0 hA k4
  replace hK0 := Keep.tr hK0 (Keep.ofNone k4); have hzhK0 := Keep.size hK0
  have hb4lt := hb4.lt
  refine OI_static 4 [(0, .pointer (some ⟨g, 0, none⟩)), (1, .int .i64 a), (2, .int .i64 b), (3, .int .i64 v), (8, .int .i64 ((i : Nat) : Int)), (9, .bool bb), (18, .slice (some ⟨b4, 0, none⟩) 0 0), (21, .pointer (some ⟨g, 0, none⟩))] (by kernel_rfl) ?_
  refine OI_cell 47 (.tmp 21) 0 (.slice A cs.length cap) (some 22) (by kernel_rfl) (by kernel_rfl) hg (m := 1) (by kernel_rfl) rfl ?_
  refine OI_static 6 [(0, .pointer (some ⟨g, 0, none⟩)), (1, .int .i64 a), (2, .int .i64 b), (3, .int .i64 v), (8, .int .i64 ((i : Nat) : Int)), (9, .bool bb), (18, .slice (some ⟨b4, 0, none⟩) 0 0), (22, .slice A cs.length cap), (23, .int .i64 ((i : Nat) : Int))] (by kernel_rfl) ?_
  refine OI_pure (some 24) ((Op.slice 47 (Operand.tmp 22) none (some (Operand.tmp 23)) none)) (by kernel_rfl) (pure_sliceTo (E := 59) (sz := 3) (by_ := 24) (base := A) (len := cs.length) (cap := cap) (h := i) (kd := .i64) (by kernel_rfl) (by kernel_rfl) (by kernel_rfl) (by omega)) ?_
  have hl6 : (cs.take i).length = i := by rw [List.length_take]; omega
  have hy6 := (SlT.to hA (i := i) (by omega)).slr
  rw [hl6] at hy6
  refine OI_append (t := 47) (at2 := 47) (E := 59) (E2 := 59) (sz := 3) (by_ := 24) (zv := .agg #[.int .i64 0, .int .i64 0, .int .i64 0]) (m := ([] : List Ci).length) (k := i) (.tmp 18) (.tmp 24) (.slice (some ⟨b4, 0, none⟩) 0 0) (.slice A i cap) (some 25) (by kernel_rfl) (by kernel_rfl) (by kernel_rfl) (by kernel_rfl) (by kernel_rfl) (by kernel_rfl) (by kernel_rfl) (SlT.slr (slt_blk (xs := ([] : List Ci)) (f := Ci.cells) (sz := 3) hb4 Ci.len rfl)) hy6 (fun u hu => by obtain ⟨z, _, hz⟩ := List.mem_flatMap.1 hu; exact Ci.one z u hz) (by first | omega | (simp only [List.length_nil, List.length_append, List.length_cons, List.length_take, List.length_drop]; omega)) (by omega) (by first | omega | (simp only [List.length_nil, List.length_append, List.length_cons, List.length_take, List.length_drop]; omega)) (by omega) ?_
  intro vv9 w6 hap
  obtain ⟨A6, cap6, rfl, hA6, hk6, own6x⟩ := app_many (f := Ci.cells) (xs := ([] : List Ci)) (ys := (cs.take i)) (A := (some ⟨b4, 0, none⟩)) (cap := 0) hap hl6 Ci.len
  replace hk6 : Keep (only b4) w4 w6 := hk6.mono (fun i _ h => inA_some h)
  have own6 : ∀ q, inA A6 q → w.heap.size ≤ q := fun q hq => by rcases own6x q hq with h | h; (have h9 := inA_some h; show w.heap.size ≤ q; omega); (show w.heap.size ≤ q; omega)
  rw [List.nil_append] at hA6
  have hsz7 := Keep.size hk6
  replace hg := hg.keep hk6 (by show ¬ (_ = _); omega)
  have hglt := hg.lt
  replace hA := SlT.keep hA hk6 (fun q hq hs => by have hs : q = b4 := hs; have g0 := hAg q hq; have g1 := hltA q hq; omega)
  replace hK0 := Keep.fresh hK0 hk6 (by intro i hi hs; have hs2 : i = b4 := hs; first | (exfalso; omega) | (rw [hs2]; exact hFg)); have hzhK0 := Keep.size hK0
  have lt6 := SlT.lt hA6
  have hcap6 := SlT.cap_le hA6
  refine OI_static 9 [(0, .pointer (some ⟨g, 0, none⟩)), (1, .int .i64 a), (2, .int .i64 b), (3, .int .i64 v), (8, .int .i64 ((i : Nat) : Int)), (9, .bool bb), (10, .slice A6 ((cs.take i).length) cap6)] (by kernel_rfl) ?_
  refine OI_end rfl ?_
  refine X_then ?_
  refine V_seq ?_
  refine V_region ?_
  refine OI_static 5 [(0, .pointer (some ⟨g, 0, none⟩)), (8, .int .i64 ((i : Nat) : Int)), (9, .bool bb), (26, .slice A6 ((cs.take i).length) cap6), (30, .agg #[.int .i64 a, .int .i64 b, .int .i64 v])] (by kernel_rfl) ?_
  refine OI_slit (E := 59) (zv := .agg #[.int .i64 0, .int .i64 0, .int .i64 0]) (sz := 3) (by_ := 24) 47 1 #[(0, (Operand.tmp 30))] [.agg #[.int .i64 a, .int .i64 b, .int .i64 v]] [.int .i64 a, .int .i64 b, .int .i64 v] (some 31) (by kernel_rfl) (by kernel_rfl) (by kernel_rfl) (by omega) rfl (by omega) (by intro v hv; simp only [List.mem_cons, List.not_mem_nil, or_false] at hv; rcases hv with rfl <;> rfl) (by kernel_rfl) rfl ?_
  intro b8 w8 e8 hb8 k8 z8
  have hsz9 := Keep.size k8
  replace hg := hg.keep k8 (fun f => f)
  have hglt := hg.lt
  replace hA := SlT.keep0 hA k8
  replace hA6 := SlT.keep0 hA6 k8
  replace hK0 := Keep.tr hK0 (Keep.ofNone k8); have hzhK0 := Keep.size hK0
  have hb8lt := hb8.lt
  refine OI_append (t := 47) (at2 := 47) (E := 59) (E2 := 59) (sz := 3) (by_ := 24) (zv := .agg #[.int .i64 0, .int .i64 0, .int .i64 0]) (m := (cs.take i).length) (k := 1) (.tmp 26) (.tmp 31) (.slice A6 ((cs.take i).length) cap6) (.slice (some ⟨b8, 0, none⟩) 1 1) (some 32) (by kernel_rfl) (by kernel_rfl) (by kernel_rfl) (by kernel_rfl) (by kernel_rfl) (by kernel_rfl) (by kernel_rfl) (SlT.slr hA6) (slr_one hb8 (Ci.len (Ci.mk a b v))) (Ci.one (Ci.mk a b v)) (by first | omega | (simp only [List.length_nil]; omega)) (by omega) (by first | omega | (simp only [List.length_nil]; omega)) (by omega) ?_
  intro vv9 w10 hap
  obtain ⟨A10, cap10, rfl, hA10, hk10, own10x⟩ := app_one (f := Ci.cells) (xs := (cs.take i)) (x := (Ci.mk a b v)) (A := A6) (cap := cap6) hap (fun x _ => Ci.len x) (Ci.len _)
  have own10 : ∀ q, inA A10 q → w.heap.size ≤ q := fun q hq => by rcases own10x q hq with h | h; exact own6 q h; (show w.heap.size ≤ q; omega)
  have hsz11 := Keep.size hk10
  replace hg := hg.keep hk10 (fun hs => by have h1 := own6 _ hs; have h2 := lt6 _ hs; omega)
  have hglt := hg.lt
  replace hA := SlT.keep hA hk10 (fun q hq hs => by have g0 := hAg q hq; have g1 := hltA q hq; have h1 := own6 q hs; have h2 := lt6 q hs; omega)
  replace hK0 := Keep.fresh hK0 hk10 (by intro i hi hs; first | exact hs | (exfalso; have h1 := own6 i hs; have h2 := lt6 i hs; omega) | (have h1 := own6 i hs; have h2 := lt6 i hs; show _ ∨ _; omega)); have hzhK0 := Keep.size hK0
  have lt10 := SlT.lt hA10
  refine OI_static 8 [(0, .pointer (some ⟨g, 0, none⟩)), (8, .int .i64 ((i : Nat) : Int)), (9, .bool bb), (10, .slice A10 (((cs.take i) ++ [Ci.mk a b v]).length) cap10)] (by kernel_rfl) ?_
  refine OI_end rfl ?_
  refine X_then ?_
  refine V_seq ?_
  refine V_seq ?_
  refine V_region ?_
  refine OI_static 1 [(0, .pointer (some ⟨g, 0, none⟩)), (8, .int .i64 ((i : Nat) : Int)), (10, .slice A10 (((cs.take i) ++ [Ci.mk a b v]).length) cap10), (33, .bool bb)] (by kernel_rfl) ?_
  refine OI_end rfl ?_
  refine X_then ?_
  refine V_ifb (bb) (by kernel_rfl) (fun hc12 => ?_) (fun hc12 => ?_)
  · skip
    have hbv : bb = true := by simpa using hc12
    rcases place_at cs i hs hi hbef haft with ⟨y, g1, g2, g3, g4, g5, g6, g7⟩ | ⟨g1, _⟩
    rotate_left
    · exact absurd hbv (by rw [hbb]; split <;> simp_all)
    have hilt := (List.getElem?_eq_some_iff.1 g1).1
    refine V_region ?_
    have hw13 : IntKind.i64.wrap (((i : Nat) : Int) + 1) = ((i + 1 : Nat) : Int) := (wrap64_id (by omega) (by omega)).trans (by omega)
    refine OI_static 2 [(0, .pointer (some ⟨g, 0, none⟩)), (10, .slice A10 (((cs.take i) ++ [Ci.mk a b v]).length) cap10), (35, .int .i64 (IntKind.i64.wrap (((i : Nat) : Int) + 1)))] (by kernel_rfl) ?_
    refine OI_eq [(0, .pointer (some ⟨g, 0, none⟩)), (10, .slice A10 (((cs.take i) ++ [Ci.mk a b v]).length) cap10), (35, .int .i64 ((i + 1 : Nat) : Int))] (by rw [hw13]) ?_
    refine OI_static 3 [(0, .pointer (some ⟨g, 0, none⟩)), (8, .int .i64 ((i + 1 : Nat) : Int)), (10, .slice A10 (((cs.take i) ++ [Ci.mk a b v]).length) cap10)] (by kernel_rfl) ?_
    refine OI_end rfl ?_
    refine X_then ?_
    refine V_region ?_
    refine OI_static 5 [(8, .int .i64 ((i + 1 : Nat) : Int)), (36, .pointer (some ⟨g, 0, none⟩)), (37, .slice A10 (((cs.take i) ++ [Ci.mk a b v]).length) cap10), (40, .pointer (some ⟨g, 0, none⟩))] (by kernel_rfl) ?_
    refine OI_cell 47 (.tmp 40) 0 (.slice A cs.length cap) (some 41) (by kernel_rfl) (by kernel_rfl) hg (m := 1) (by kernel_rfl) rfl ?_
    refine OI_static 7 [(36, .pointer (some ⟨g, 0, none⟩)), (37, .slice A10 (((cs.take i) ++ [Ci.mk a b v]).length) cap10), (41, .slice A cs.length cap), (42, .int .i64 ((i + 1 : Nat) : Int))] (by kernel_rfl) ?_
    refine OI_pure (some 43) ((Op.slice 47 (Operand.tmp 41) (some (Operand.tmp 42)) none none)) (by kernel_rfl) (pure_sliceSuf (E := 59) (sz := 3) (by_ := 24) (A := A) (len := cs.length) (cap := cap) (l := i + 1) (kd := .i64) (by kernel_rfl) (by kernel_rfl) (by kernel_rfl) (by omega) (by omega)) ?_
    have hl14 : (cs.drop (i + 1)).length = cs.length - (i + 1) := List.length_drop
    have hy14 := (SlT.from_ hA (i := i + 1) (by omega)).slr
    rw [hl14] at hy14
    refine OI_append (t := 47) (at2 := 47) (E := 59) (E2 := 59) (sz := 3) (by_ := 24) (zv := .agg #[.int .i64 0, .int .i64 0, .int .i64 0]) (m := ((cs.take i) ++ [Ci.mk a b v]).length) (k := cs.length - (i + 1)) (.tmp 37) (.tmp 43) (.slice A10 (((cs.take i) ++ [Ci.mk a b v]).length) cap10) (.slice (sufA A cap (i + 1) 3) (cs.length - (i + 1)) (cap - (i + 1))) (some 44) (by kernel_rfl) (by kernel_rfl) (by kernel_rfl) (by kernel_rfl) (by kernel_rfl) (by kernel_rfl) (by kernel_rfl) (SlT.slr hA10) hy14 (fun u hu => by obtain ⟨z, _, hz⟩ := List.mem_flatMap.1 hu; exact Ci.one z u hz) (by first | omega | (simp only [List.length_nil, List.length_append, List.length_cons, List.length_take, List.length_drop]; omega)) (by omega) (by first | omega | (simp only [List.length_nil, List.length_append, List.length_cons, List.length_take, List.length_drop]; omega)) (by omega) ?_
    intro vv9 w14 hap
    obtain ⟨A14, cap14, rfl, hA14, hk14, own14x⟩ := app_many (f := Ci.cells) (xs := ((cs.take i) ++ [Ci.mk a b v])) (ys := (cs.drop (i + 1))) (A := A10) (cap := cap10) hap hl14 Ci.len
    have own14 : ∀ q, inA A14 q → w.heap.size ≤ q := fun q hq => by rcases own14x q hq with h | h; (have h8 := own10 q h; have h9 := lt10 q h; show w.heap.size ≤ q; omega); (show w.heap.size ≤ q; omega)
    have hsz15 := Keep.size hk14
    replace hg := hg.keep hk14 (fun hs => by have h1 := own10 _ hs; have h2 := lt10 _ hs; omega)
    have hglt := hg.lt
    replace hA := SlT.keep hA hk14 (fun q hq hs => by have g0 := hAg q hq; have g1 := hltA q hq; have h1 := own10 q hs; have h2 := lt10 q hs; omega)
    replace hK0 := Keep.fresh hK0 hk14 (by intro i hi hs; first | exact hs | (exfalso; have h1 := own10 i hs; have h2 := lt10 i hs; omega) | (have h1 := own10 i hs; have h2 := lt10 i hs; show _ ∨ _; omega)); have hzhK0 := Keep.size hK0
    have lt14 := SlT.lt hA14
    have hcap14 := SlT.cap_le hA14
    refine OI_static 11 [(44, .slice A14 ((((cs.take i) ++ [Ci.mk a b v]) ++ (cs.drop (i + 1))).length) cap14), (46, .pointer (some ⟨g, 0, none⟩))] (by kernel_rfl) ?_
    refine OI_set (m := 1) (kd := false) 47 (.tmp 46) (.tmp 44) 0 (.slice A14 ((((cs.take i) ++ [Ci.mk a b v]) ++ (cs.drop (i + 1))).length) cap14) [.slice A14 ((((cs.take i) ++ [Ci.mk a b v]) ++ (cs.drop (i + 1))).length) cap14] none (by kernel_rfl) (by kernel_rfl) (by kernel_rfl) hg (by kernel_rfl) (by kernel_rfl) (by kernel_rfl) (Nat.le_of_ble_eq_true (by kernel_rfl)) (by simp [Value.oneCell']) ?_
    intro w16 hg_19 hk17 hz18
    replace hg_19 : Blk w16 g [.slice A14 ((((cs.take i) ++ [Ci.mk a b v]) ++ (cs.drop (i + 1))).length) cap14] 49 := hg_19
    have hsz20 := Keep.size hk17
    replace hA := SlT.keep hA hk17 (fun q hq hs => by have hs : q = g := hs; have g0 := hAg q hq; have g1 := hltA q hq; omega)
    replace hA14 := SlT.keep hA14 hk17 (fun q hq hs => by have hs : q = g := hs; have g0 := own14 q hq; have g1 := lt14 q hq; omega)
    replace hK0 := Keep.fresh hK0 hk17 (by intro i hi hs; have hs2 : i = g := hs; first | (exfalso; omega) | (rw [hs2]; exact hFg)); have hzhK0 := Keep.size hK0
    refine OI_end rfl ?_
    obtain ⟨hsn, hsl⟩ := Srt.set (a := a) (b := b) (v := v) hs
    have hE : (((cs.take i) ++ [Ci.mk a b v]) ++ (cs.drop (i + 1))) = setC a b v cs := by rw [← g6 v, List.set_eq_take_append_cons_drop, if_pos hilt]; simp
    rw [hE] at hA14
    exact X_end _ rfl ⟨rfl, ⟨more F w w16, ⟨hsn, by omega, .inl hFg, (fun q hq => by rcases hq with hq | hq; (have h9 := hFlt q hq; omega); exact hq.2), A14, cap14, ⟨by have h9 := hg_19; rw [hE] at h9; exact h9, hA14, fun hh => by have h9 := own14 g hh; omega⟩, fun q hq => .inr ⟨own14 q hq, by have h9 := lt14 q hq; omega⟩⟩, fun q hq => hq.imp id (·.1)⟩, hK0⟩
  · skip
    have hbv : bb = false := by simpa using hc12
    rcases place_at cs i hs hi hbef haft with ⟨y, g1, g2, _⟩ | ⟨g1, g2, g3, g4⟩
    · exact absurd hbv (by rw [hbb, g1]; simp [g2])
    refine V_skip ?_
    refine X_then ?_
    refine V_region ?_
    refine OI_static 5 [(8, .int .i64 ((i : Nat) : Int)), (36, .pointer (some ⟨g, 0, none⟩)), (37, .slice A10 (((cs.take i) ++ [Ci.mk a b v]).length) cap10), (40, .pointer (some ⟨g, 0, none⟩))] (by kernel_rfl) ?_
    refine OI_cell 47 (.tmp 40) 0 (.slice A cs.length cap) (some 41) (by kernel_rfl) (by kernel_rfl) hg (m := 1) (by kernel_rfl) rfl ?_
    refine OI_static 7 [(36, .pointer (some ⟨g, 0, none⟩)), (37, .slice A10 (((cs.take i) ++ [Ci.mk a b v]).length) cap10), (41, .slice A cs.length cap), (42, .int .i64 ((i : Nat) : Int))] (by kernel_rfl) ?_
    refine OI_pure (some 43) ((Op.slice 47 (Operand.tmp 41) (some (Operand.tmp 42)) none none)) (by kernel_rfl) (pure_sliceSuf (E := 59) (sz := 3) (by_ := 24) (A := A) (len := cs.length) (cap := cap) (l := i) (kd := .i64) (by kernel_rfl) (by kernel_rfl) (by kernel_rfl) (by omega) (by omega)) ?_
    have hl21 : (cs.drop i).length = cs.length - i := List.length_drop
    have hy21 := (SlT.from_ hA (i := i) (by omega)).slr
    rw [hl21] at hy21
    refine OI_append (t := 47) (at2 := 47) (E := 59) (E2 := 59) (sz := 3) (by_ := 24) (zv := .agg #[.int .i64 0, .int .i64 0, .int .i64 0]) (m := ((cs.take i) ++ [Ci.mk a b v]).length) (k := cs.length - i) (.tmp 37) (.tmp 43) (.slice A10 (((cs.take i) ++ [Ci.mk a b v]).length) cap10) (.slice (sufA A cap i 3) (cs.length - i) (cap - i)) (some 44) (by kernel_rfl) (by kernel_rfl) (by kernel_rfl) (by kernel_rfl) (by kernel_rfl) (by kernel_rfl) (by kernel_rfl) (SlT.slr hA10) hy21 (fun u hu => by obtain ⟨z, _, hz⟩ := List.mem_flatMap.1 hu; exact Ci.one z u hz) (by first | omega | (simp only [List.length_nil, List.length_append, List.length_cons, List.length_take, List.length_drop]; omega)) (by omega) (by first | omega | (simp only [List.length_nil, List.length_append, List.length_cons, List.length_take, List.length_drop]; omega)) (by omega) ?_
    intro vv9 w21 hap
    obtain ⟨A21, cap21, rfl, hA21, hk21, own21x⟩ := app_many (f := Ci.cells) (xs := ((cs.take i) ++ [Ci.mk a b v])) (ys := (cs.drop i)) (A := A10) (cap := cap10) hap hl21 Ci.len
    have own21 : ∀ q, inA A21 q → w.heap.size ≤ q := fun q hq => by rcases own21x q hq with h | h; (have h8 := own10 q h; have h9 := lt10 q h; show w.heap.size ≤ q; omega); (show w.heap.size ≤ q; omega)
    have hsz22 := Keep.size hk21
    replace hg := hg.keep hk21 (fun hs => by have h1 := own10 _ hs; have h2 := lt10 _ hs; omega)
    have hglt := hg.lt
    replace hA := SlT.keep hA hk21 (fun q hq hs => by have g0 := hAg q hq; have g1 := hltA q hq; have h1 := own10 q hs; have h2 := lt10 q hs; omega)
    replace hK0 := Keep.fresh hK0 hk21 (by intro i hi hs; first | exact hs | (exfalso; have h1 := own10 i hs; have h2 := lt10 i hs; omega) | (have h1 := own10 i hs; have h2 := lt10 i hs; show _ ∨ _; omega)); have hzhK0 := Keep.size hK0
    have lt21 := SlT.lt hA21
    have hcap21 := SlT.cap_le hA21
    refine OI_static 11 [(44, .slice A21 ((((cs.take i) ++ [Ci.mk a b v]) ++ (cs.drop i)).length) cap21), (46, .pointer (some ⟨g, 0, none⟩))] (by kernel_rfl) ?_
    refine OI_set (m := 1) (kd := false) 47 (.tmp 46) (.tmp 44) 0 (.slice A21 ((((cs.take i) ++ [Ci.mk a b v]) ++ (cs.drop i)).length) cap21) [.slice A21 ((((cs.take i) ++ [Ci.mk a b v]) ++ (cs.drop i)).length) cap21] none (by kernel_rfl) (by kernel_rfl) (by kernel_rfl) hg (by kernel_rfl) (by kernel_rfl) (by kernel_rfl) (Nat.le_of_ble_eq_true (by kernel_rfl)) (by simp [Value.oneCell']) ?_
    intro w23 hg_26 hk24 hz25
    replace hg_26 : Blk w23 g [.slice A21 ((((cs.take i) ++ [Ci.mk a b v]) ++ (cs.drop i)).length) cap21] 49 := hg_26
    have hsz27 := Keep.size hk24
    replace hA := SlT.keep hA hk24 (fun q hq hs => by have hs : q = g := hs; have g0 := hAg q hq; have g1 := hltA q hq; omega)
    replace hA21 := SlT.keep hA21 hk24 (fun q hq hs => by have hs : q = g := hs; have g0 := own21 q hq; have g1 := lt21 q hq; omega)
    replace hK0 := Keep.fresh hK0 hk24 (by intro i hi hs; have hs2 : i = g := hs; first | (exfalso; omega) | (rw [hs2]; exact hFg)); have hzhK0 := Keep.size hK0
    refine OI_end rfl ?_
    obtain ⟨hsn, hsl⟩ := Srt.set (a := a) (b := b) (v := v) hs
    have hE : (((cs.take i) ++ [Ci.mk a b v]) ++ (cs.drop i)) = setC a b v cs := by rw [← g3 v]; simp
    rw [hE] at hA21
    exact X_end _ rfl ⟨rfl, ⟨more F w w23, ⟨hsn, by omega, .inl hFg, (fun q hq => by rcases hq with hq | hq; (have h9 := hFlt q hq; omega); exact hq.2), A21, cap21, ⟨by have h9 := hg_26; rw [hE] at h9; exact h9, hA21, fun hh => by have h9 := own21 g hh; omega⟩, fun q hq => .inr ⟨own21 q hq, by have h9 := lt21 q hq; omega⟩⟩, fun q hq => hq.imp id (·.1)⟩, hK0⟩
end Go.Al
