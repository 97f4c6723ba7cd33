/-
  Walks of the laws of grid: acts, to the point.
-/
import Derived.Test.YtijhhcnahepdlaaGr16
namespace Go.Al
open Go Go.RowKit Go.Proofs
theorem set_gf (F : Nat → Prop) (g : Nat) (cs : List Ci) (a b v : Int) (w : World) (h : Grd F w g cs) (hmax : cs.length < 100000) : Calls Try.prog 11 #[.pointer (some ⟨g, 0, none⟩), .int .i64 a, .int .i64 b, .int .i64 v] w fun e w' => e = .returned (.tuple #[]) ∧ (∃ F', Grd F' w' g (setC a b v cs) ∧ (∀ q, F' q → F q ∨ w.heap.size ≤ q)) ∧ Keep (only g) w w' :=
  (set_spec (fun q => F q ∨ w.heap.size ≤ q) g cs a b v w (h.gr.mono (fun _ h => .inl h)) (fun _ h => .inr h) hmax).mono (by
    rintro e w' ⟨rfl, h1, h2⟩
    exact ⟨rfl, ⟨more F w w', Grd.of h1 (.inl h.at_) (fun q hq hD => hD.imp id (fun h => ⟨h, hq⟩)) (fun q hq => by rcases hq with hq | hq; exact Nat.lt_of_lt_of_le (h.lt q hq) h2.size; exact hq.2), fun q hq => hq.imp id (·.1)⟩, h2⟩)

theorem del_gf (F : Nat → Prop) (g : Nat) (cs : List Ci) (a b : Int) (w : World) (h : Grd F w g cs) : Calls Try.prog 19 #[.pointer (some ⟨g, 0, none⟩), .int .i64 a, .int .i64 b] w fun e w' => e = .returned (.bool (getC a b cs).isSome) ∧ (∃ F', Grd F' w' g (delC a b cs) ∧ (∀ q, F' q → F q ∨ w.heap.size ≤ q)) ∧ Keep (only g) w w' :=
  (del_spec (fun q => F q ∨ w.heap.size ≤ q) g cs a b w (h.gr.mono (fun _ h => .inl h)) (fun _ h => .inr h)).mono (by
    rintro e w' ⟨rfl, h1, h2⟩
    exact ⟨rfl, ⟨more F w w', Grd.of h1 (.inl h.at_) (fun q hq hD => hD.imp id (fun h => ⟨h, hq⟩)) (fun q hq => by rcases hq with hq | hq; exact Nat.lt_of_lt_of_le (h.lt q hq) h2.size; exact hq.2), fun q hq => hq.imp id (·.1)⟩, h2⟩)

set_option maxRecDepth 10000 in
theorem rdel_gf (F : Nat → Prop) (g : Nat) (cs : List Ci) (a b : Int) (w : World) (h : Rgd F w g cs) : Calls Try.prog 38 #[.pointer (some ⟨g, 0, none⟩), .int .i64 a, .int .i64 b] w fun e w' => e = .returned (.bool (getC a b cs).isSome) ∧ (∃ F', Rgd F' w' g (delC a b cs) ∧ (∀ q, F' q → F q ∨ w.heap.size ≤ q)) ∧ Keep (only g) w w' := by
  obtain ⟨hs, hlen, hFg, hFlt, A, cap, h, hAF⟩ := h
  have hgA := h.off
  have hg := h.blk
  have hA := h.sl
  have hglt := hg.lt
  have hltA := SlT.lt hA
  have hAg : ∀ q, inA A q → q ≠ g := fun q hq he => hgA (he ▸ hq)
  have hK0 : Keep (only g) w w := Keep.refl _ _
  have hzhK0 := Keep.size hK0
  refine enterV Try.func38 rfl [.pointer (some ⟨g, 0, none⟩), .int .i64 a, .int .i64 b] 37 rfl rfl rfl ?_
  refine V_pick [(0, .pointer (some ⟨g, 0, none⟩)), (1, .int .i64 a), (2, .int .i64 b)] rfl ?_
  refine V_seq ?_
  refine V_region ?_
  refine OI_static 1 [(0, .pointer (some ⟨g, 0, none⟩)), (1, .int .i64 a), (2, .int .i64 b)] (by kernel_rfl) ?_
  refine OI_end rfl ?_
  refine X_then ?_
  refine V_seq ?_
  refine V_region ?_
  refine OI_static 3 [(0, .pointer (some ⟨g, 0, none⟩)), (10, .pointer (some ⟨g, 0, none⟩)), (11, .int .i64 a), (12, .int .i64 b)] (by kernel_rfl) ?_
  refine OI_call { callee := (Callee.value (Operand.func 52)), args := #[(Operand.tmp 10), (Operand.tmp 11), (Operand.tmp 12)], argTypes := #[46, 3, 3] } 52 #[.pointer (some ⟨g, 0, none⟩), .int .i64 a, .int .i64 b] (some 13) (by kernel_rfl) (by kernel_rfl) (by kernel_rfl) (rplace_spec g cap A cs a b _ ⟨hg, hA, hgA⟩ hs hlen) ?_
  rintro _ w1 ⟨i, bb, rfl, hk2, hi, hbef, haft, hbb⟩
  refine ⟨_, rfl, ?_⟩
  have hsz3 := Keep.size hk2
  replace hg := hg.keep hk2 (fun f => f)
  have hglt := hg.lt
  replace hA := SlT.keep0 hA hk2
  replace hK0 := Keep.tr hK0 (Keep.ofNone hk2); have hzhK0 := Keep.size hK0
  have hcapA := SlT.cap_le hA
  refine OI_static 9 [(0, .pointer (some ⟨g, 0, none⟩)), (7, .int .i64 ((i : Nat) : Int)), (8, .bool bb)] (by kernel_rfl) ?_
  refine OI_end rfl ?_
  refine X_then ?_
  refine V_seq ?_
  refine V_seq ?_
  refine V_region ?_
  refine OI_static 1 [(0, .pointer (some ⟨g, 0, none⟩)), (7, .int .i64 ((i : Nat) : Int)), (8, .bool bb), (16, .bool bb)] (by kernel_rfl) ?_
  refine OI_end rfl ?_
  refine X_then ?_
  refine V_ifb (bb) (by kernel_rfl) (fun hc4 => ?_) (fun hc4 => ?_)
  · skip
    have hbv : bb = true := by simpa using hc4
    rcases place_at cs i hs hi hbef haft with ⟨y, g1, g2, g3, g4, g5, g6, g7⟩ | ⟨g1, _⟩
    rotate_left
    · exact absurd hbv (by rw [hbb]; split <;> simp_all)
    have hilt := (List.getElem?_eq_some_iff.1 g1).1
    refine V_draws (acts [1, 8, 16, 19]) (fun q => q ≠ g) [[1, 2, 3, 4, 5, 6, 7, 8, 9, 10, 11, 12, 13, 14, 15, 16, 0, 17, 18, 19]] (by kernel_rfl) (by repeat first | exact sure_body (by rintro _ _ ⟨h, _⟩; exact ⟨_, h⟩) | refine sure_then ?_ | refine sure_block ?_ | refine sure_join ?_) (by kernel_rfl) ?_
    intro w6 hk5 he7 L hL8
    have hsz9 := Keep.size hk5
    replace hg := hg.keep hk5 (fun f => f)
    have hglt := hg.lt
    replace hA := SlT.keep0 hA hk5
    replace hK0 := Keep.tr hK0 (Keep.ofNone hk5); have hzhK0 := Keep.size hK0
    have qhg := hg
    have K10 : Keep (fun q => q ≠ g) w6 w6 := Keep.refl _ _
    obtain rfl := List.mem_singleton.1 hL8
    refine GI_slit (E := 59) (zv := .agg #[.int .i64 0, .int .i64 0, .int .i64 0]) (sz := 3) (by_ := 24) 47 0 #[] [] [] (some 18) (by kernel_rfl) (by kernel_rfl) K10 (by kernel_rfl) (by kernel_rfl) (by omega) rfl (by omega) (by intro v hv; cases hv) (by kernel_rfl) rfl ?_
    intro b11 w11 e11 hb11 k11 z11 K12
    have hsz13 := Keep.size k11
    replace hg := hg.keep k11 (fun f => f)
    have hglt := hg.lt
    replace hA := SlT.keep0 hA k11
    replace hK0 := Keep.tr hK0 (Keep.ofNone k11); have hzhK0 := Keep.size hK0
    have hb11lt := hb11.lt
    refine GI_static [5, 6, 7, 8, 9, 10, 11, 12, 13, 14, 15, 16, 0, 17, 18, 19] [(0, .pointer (some ⟨g, 0, none⟩)), (7, .int .i64 ((i : Nat) : Int)), (8, .bool bb), (18, .slice (some ⟨b11, 0, none⟩) 0 0), (21, .pointer (some ⟨g, 0, none⟩))] (by kernel_rfl) ?_
    refine GI_cell 47 (.tmp 21) 0 (.slice A cs.length cap) (some 22) (by kernel_rfl) (by kernel_rfl) (by kernel_rfl) qhg (by show ¬ (g ≠ g); omega) (m := 1) (by kernel_rfl) rfl ?_
    refine GI_static [7, 8, 9, 10, 11, 12, 13, 14, 15, 16, 0, 17, 18, 19] [(0, .pointer (some ⟨g, 0, none⟩)), (7, .int .i64 ((i : Nat) : Int)), (8, .bool bb), (18, .slice (some ⟨b11, 0, none⟩) 0 0), (22, .slice A cs.length cap), (23, .int .i64 ((i : Nat) : Int))] (by kernel_rfl) ?_
    refine GI_pure (some 24) ((Op.slice 47 (Operand.tmp 22) none (some (Operand.tmp 23)) none)) (by kernel_rfl) (by kernel_rfl) (pure_sliceTo (E := 59) (sz := 3) (by_ := 24) (base := A) (len := cs.length) (cap := cap) (h := i) (kd := .i64) (by kernel_rfl) (by kernel_rfl) (by kernel_rfl) (by omega)) ?_
    have hl14 : (cs.take i).length = i := by rw [List.length_take]; omega
    have hy14 := (SlT.to hA (i := i) (by omega)).slr
    rw [hl14] at hy14
    refine GI_append (t := 47) (at2 := 47) (E := 59) (E2 := 59) (sz := 3) (by_ := 24) (zv := .agg #[.int .i64 0, .int .i64 0, .int .i64 0]) (m := ([] : List Ci).length) (k := i) (.tmp 18) (.tmp 24) (.slice (some ⟨b11, 0, none⟩) 0 0) (.slice A i cap) (some 25) (by kernel_rfl) (by kernel_rfl) (by kernel_rfl) (by kernel_rfl) (by kernel_rfl) (by kernel_rfl) (by kernel_rfl) (by kernel_rfl) (SlT.slr (slt_blk (xs := ([] : List Ci)) (f := Ci.cells) (sz := 3) hb11 Ci.len rfl)) hy14 (fun u hu => by obtain ⟨z, _, hz⟩ := List.mem_flatMap.1 hu; exact Ci.one z u hz) (by first | omega | (simp only [List.length_nil, List.length_append, List.length_cons, List.length_take, List.length_drop]; omega)) (by omega) (by first | omega | (simp only [List.length_nil, List.length_append, List.length_cons, List.length_take, List.length_drop]; omega)) (by omega) ?_
    intro vv9 w14 hap
    obtain ⟨A14, cap14, rfl, hA14, hk14, own14x⟩ := app_many (f := Ci.cells) (xs := ([] : List Ci)) (ys := (cs.take i)) (A := (some ⟨b11, 0, none⟩)) (cap := 0) hap hl14 Ci.len
    replace hk14 : Keep (only b11) w11 w14 := hk14.mono (fun i _ h => inA_some h)
    have own14 : ∀ q, inA A14 q → w.heap.size ≤ q := fun q hq => by rcases own14x q hq with h | h; (have h9 := inA_some h; show w.heap.size ≤ q; omega); (show w.heap.size ≤ q; omega)
    refine ⟨Keep.fresh K12 hk14 (by intro i hi hs; have hs2 : i = b11 := hs; show i ≠ g; omega), ?_⟩
    have K15 := Keep.fresh K12 hk14 (by intro i hi hs; have hs2 : i = b11 := hs; show i ≠ g; omega)
    rw [List.nil_append] at hA14
    have hsz16 := Keep.size hk14
    replace hg := hg.keep hk14 (by show ¬ (_ = _); omega)
    have hglt := hg.lt
    replace hA := SlT.keep hA hk14 (fun q hq hs => by have hs : q = b11 := hs; have g0 := hAg q hq; have g1 := hltA q hq; omega)
    replace hK0 := Keep.fresh hK0 hk14 (by intro i hi hs; first | exact hs | exact Or.inl hs | exact Or.inr hs | (exfalso; have hs2 : i = b11 := hs; omega)); have hzhK0 := Keep.size hK0
    have lt14 := SlT.lt hA14
    have hcap14 := SlT.cap_le hA14
    refine GI_static [12, 13, 14, 15, 16, 0, 17, 18, 19] [(0, .pointer (some ⟨g, 0, none⟩)), (7, .int .i64 ((i : Nat) : Int)), (8, .bool bb), (25, .slice A14 ((cs.take i).length) cap14), (28, .pointer (some ⟨g, 0, none⟩))] (by kernel_rfl) ?_
    refine GI_cell 47 (.tmp 28) 0 (.slice A cs.length cap) (some 29) (by kernel_rfl) (by kernel_rfl) (by kernel_rfl) qhg (by show ¬ (g ≠ g); omega) (m := 1) (by kernel_rfl) rfl ?_
    have hw17 : IntKind.i64.wrap (((i : Nat) : Int) + 1) = ((i + 1 : Nat) : Int) := (wrap64_id (by omega) (by omega)).trans (by omega)
    refine GI_static [15, 16, 0, 17, 18, 19] [(0, .pointer (some ⟨g, 0, none⟩)), (8, .bool bb), (25, .slice A14 ((cs.take i).length) cap14), (29, .slice A cs.length cap), (31, .int .i64 (IntKind.i64.wrap (((i : Nat) : Int) + 1)))] (by kernel_rfl) ?_
    refine GI_eq [(0, .pointer (some ⟨g, 0, none⟩)), (8, .bool bb), (25, .slice A14 ((cs.take i).length) cap14), (29, .slice A cs.length cap), (31, .int .i64 ((i + 1 : Nat) : Int))] (by rw [hw17]) ?_
    refine GI_pure (some 32) ((Op.slice 47 (Operand.tmp 29) (some (Operand.tmp 31)) none none)) (by kernel_rfl) (by kernel_rfl) (pure_sliceSuf (E := 59) (sz := 3) (by_ := 24) (A := A) (len := cs.length) (cap := cap) (l := i + 1) (kd := .i64) (by kernel_rfl) (by kernel_rfl) (by kernel_rfl) (by omega) (by omega)) ?_
    have hl18 : (cs.drop (i + 1)).length = cs.length - (i + 1) := List.length_drop
    have hy18 := (SlT.from_ hA (i := i + 1) (by omega)).slr
    rw [hl18] at hy18
    refine GI_append (t := 47) (at2 := 47) (E := 59) (E2 := 59) (sz := 3) (by_ := 24) (zv := .agg #[.int .i64 0, .int .i64 0, .int .i64 0]) (m := (cs.take i).length) (k := cs.length - (i + 1)) (.tmp 25) (.tmp 32) (.slice A14 ((cs.take i).length) cap14) (.slice (sufA A cap (i + 1) 3) (cs.length - (i + 1)) (cap - (i + 1))) (some 33) (by kernel_rfl) (by kernel_rfl) (by kernel_rfl) (by kernel_rfl) (by kernel_rfl) (by kernel_rfl) (by kernel_rfl) (by kernel_rfl) (SlT.slr hA14) hy18 (fun u hu => by obtain ⟨z, _, hz⟩ := List.mem_flatMap.1 hu; exact Ci.one z u hz) (by first | omega | (simp only [List.length_nil, List.length_append, List.length_cons, List.length_take, List.length_drop]; omega)) (by omega) (by first | omega | (simp only [List.length_nil, List.length_append, List.length_cons, List.length_take, List.length_drop]; omega)) (by omega) ?_
    intro vv9 w18 hap
    obtain ⟨A18, cap18, rfl, hA18, hk18, own18x⟩ := app_many (f := Ci.cells) (xs := (cs.take i)) (ys := (cs.drop (i + 1))) (A := A14) (cap := cap14) hap hl18 Ci.len
    have own18 : ∀ q, inA A18 q → w.heap.size ≤ q := fun q hq => by rcases own18x q hq with h | h; (have h8 := own14 q h; have h9 := lt14 q h; show w.heap.size ≤ q; omega); (show w.heap.size ≤ q; omega)
    refine ⟨Keep.fresh K15 hk18 (by intro i hi hs; have h1 := own14 i hs; have h2 := lt14 i hs; show i ≠ g; omega), ?_⟩
    have K19 := Keep.fresh K15 hk18 (by intro i hi hs; have h1 := own14 i hs; have h2 := lt14 i hs; show i ≠ g; omega)
    have hsz20 := Keep.size hk18
    replace hg := hg.keep hk18 (fun hs => by have h1 := own14 _ hs; have h2 := lt14 _ hs; omega)
    have hglt := hg.lt
    replace hA := SlT.keep hA hk18 (fun q hq hs => by have g0 := hAg q hq; have g1 := hltA q hq; have h1 := own14 q hs; have h2 := lt14 q hs; omega)
    replace hK0 := Keep.fresh hK0 hk18 (by intro i hi hs; first | exact hs | (exfalso; have h1 := own14 i hs; have h2 := lt14 i hs; omega) | (have h1 := own14 i hs; have h2 := lt14 i hs; show _ ∨ _; omega)); have hzhK0 := Keep.size hK0
    have lt18 := SlT.lt hA18
    have hcap18 := SlT.cap_le hA18
    refine GI_static [19] [(8, .bool bb), (33, .slice A18 (((cs.take i) ++ (cs.drop (i + 1))).length) cap18), (35, .pointer (some ⟨g, 0, none⟩))] (by kernel_rfl) ?_
    refine GI_final 19 (by kernel_rfl) (by kernel_rfl) ?_
    refine OI_set (m := 1) (kd := false) 47 (.tmp 35) (.tmp 33) 0 (.slice A18 (((cs.take i) ++ (cs.drop (i + 1))).length) cap18) [.slice A18 (((cs.take i) ++ (cs.drop (i + 1))).length) cap18] none (by kernel_rfl) (by kernel_rfl) (by kernel_rfl) hg (by kernel_rfl) (by kernel_rfl) (by kernel_rfl) (Nat.le_of_ble_eq_true (by kernel_rfl)) (by simp [Value.oneCell']) ?_
    intro w21 hg_24 hk22 hz23
    replace hg_24 : Blk w21 g [.slice A18 (((cs.take i) ++ (cs.drop (i + 1))).length) cap18] 49 := hg_24
    have hsz25 := Keep.size hk22
    replace hA := SlT.keep hA hk22 (fun q hq hs => by have hs : q = g := hs; have g0 := hAg q hq; have g1 := hltA q hq; omega)
    replace hA18 := SlT.keep hA18 hk22 (fun q hq hs => by have hs : q = g := hs; have g0 := own18 q hq; have g1 := lt18 q hq; omega)
    replace hK0 := Keep.fresh hK0 hk22 (by intro i hi hs; first | exact hs | exact Or.inl hs | exact Or.inr hs | (exfalso; have hs2 : i = g := hs; omega)); have hzhK0 := Keep.size hK0
    refine OI_end rfl ?_
    refine X_then ?_
    refine V_seq ?_
    refine V_region ?_
    refine OI_static 2 [(6, .bool bb)] (by kernel_rfl) ?_
    refine OI_end rfl ?_
    refine X_then ?_
    refine V_ret ?_
    obtain ⟨hsn, hsl⟩ := hs.del a b
    have hE : ((cs.take i) ++ (cs.drop (i + 1))) = delC a b cs := g7
    rw [hE] at hA18
    exact X_return (.bool bb) rfl ⟨by rw [g5, hbv]; rfl, ⟨more F w w21, ⟨hsn, by omega, .inl hFg, (fun q hq => by rcases hq with hq | hq; (have h9 := hFlt q hq; omega); exact hq.2), A18, cap18, ⟨by have h9 := hg_24; rw [hE] at h9; exact h9, hA18, fun hh => by have h9 := own18 g hh; omega⟩, fun q hq => .inr ⟨own18 q hq, by have h9 := lt18 q hq; omega⟩⟩, fun q hq => hq.imp id (·.1)⟩, hK0⟩
  · skip
    have hbv : bb = false := by simpa using hc4
    rcases place_at cs i hs hi hbef haft with ⟨y, g1, g2, _⟩ | ⟨g1, g2, g3, g4⟩
    · exact absurd hbv (by rw [hbb, g1]; simp [g2])
    refine V_skip ?_
    refine X_then ?_
    refine V_seq ?_
    refine V_region ?_
    refine OI_static 2 [(6, .bool bb)] (by kernel_rfl) ?_
    refine OI_end rfl ?_
    refine X_then ?_
    refine V_ret ?_
    rw [g4, g2]
    exact X_return (.bool bb) rfl ⟨by rw [hbv]; rfl, ⟨F, ⟨hs, hlen, hFg, (fun q hq => Nat.lt_of_lt_of_le (hFlt q hq) (by omega)), A, cap, ⟨hg, hA, hgA⟩, hAF⟩, fun q h => .inl h⟩, hK0⟩

set_option maxRecDepth 10000 in
theorem rset_gf (F : Nat → Prop) (g : Nat) (cs : List Ci) (a b v : Int) (w : World) (h : Rgd F w g cs) (hmax : cs.length < 100000) : Calls Try.prog 37 #[.pointer (some ⟨g, 0, none⟩), .int .i64 a, .int .i64 b, .int .i64 v] w fun e w' => e = .returned (.tuple #[]) ∧ (∃ F', Rgd F' w' g (setC a b v cs) ∧ (∀ q, F' q → F q ∨ w.heap.size ≤ q)) ∧ Keep (only g) w w' := by
  obtain ⟨hs, hlen, hFg, hFlt, A, cap, h, hAF⟩ := h
  have hgA := h.off
  have hg := h.blk
  have hA := h.sl
  have hglt := hg.lt
  have hltA := SlT.lt hA
  have hAg : ∀ q, inA A q → q ≠ g := fun q hq he => hgA (he ▸ hq)
  have hK0 : Keep (only g) w w := Keep.refl _ _
  have hzhK0 := Keep.size hK0
  refine enterV Try.func37 rfl [.pointer (some ⟨g, 0, none⟩), .int .i64 a, .int .i64 b, .int .i64 v] 47 rfl rfl rfl ?_
  refine V_pick [(0, .pointer (some ⟨g, 0, none⟩)), (1, .int .i64 a), (2, .int .i64 b), (3, .int .i64 v)] rfl ?_
  refine V_seq ?_
  refine V_region ?_
  refine OI_static 3 [(0, .pointer (some ⟨g, 0, none⟩)), (1, .int .i64 a), (2, .int .i64 b), (3, .int .i64 v), (12, .pointer (some ⟨g, 0, none⟩)), (13, .int .i64 a), (14, .int .i64 b)] (by kernel_rfl) ?_
  refine OI_call { callee := (Callee.value (Operand.func 52)), args := #[(Operand.tmp 12), (Operand.tmp 13), (Operand.tmp 14)], argTypes := #[46, 3, 3] } 52 #[.pointer (some ⟨g, 0, none⟩), .int .i64 a, .int .i64 b] (some 15) (by kernel_rfl) (by kernel_rfl) (by kernel_rfl) (rplace_spec g cap A cs a b _ ⟨hg, hA, hgA⟩ hs hlen) ?_
  rintro _ w1 ⟨i, bb, rfl, hk2, hi, hbef, haft, hbb⟩
  refine ⟨_, rfl, ?_⟩
  have hsz3 := Keep.size hk2
  replace hg := hg.keep hk2 (fun f => f)
  have hglt := hg.lt
  replace hA := SlT.keep0 hA hk2
  replace hK0 := Keep.tr hK0 (Keep.ofNone hk2); have hzhK0 := Keep.size hK0
  have hcapA := SlT.cap_le hA
  refine OI_static 9 [(0, .pointer (some ⟨g, 0, none⟩)), (1, .int .i64 a), (2, .int .i64 b), (3, .int .i64 v), (8, .int .i64 ((i : Nat) : Int)), (9, .bool bb)] (by kernel_rfl) ?_
  refine OI_end rfl ?_
  refine X_then ?_
  refine V_seq ?_
  refine V_region ?_
  refine OI_slit (E := 59) (zv := .agg #[.int .i64 0, .int .i64 0, .int .i64 0]) (sz := 3) (by_ := 24) 47 0 #[] [] [] (some 18) (by kernel_rfl) (by kernel_rfl) (by kernel_rfl) (by omega) rfl (by omega) (by intro v hv; cases hv) (by kernel_rfl) rfl ?_
  intro b4 w4 e4 hb4 k4 z4
  have hsz5 := Keep.size k4
  replace hg := hg.keep k4 (fun f => f)
  have hglt := hg.lt
  replace hA := SlT.keep0 hA k4
  replace hK0 := Keep.tr hK0 (Keep.ofNone k4); have hzhK0 := Keep.size hK0
  have hb4lt := hb4.lt
  refine OI_static 4 [(0, .pointer (some ⟨g, 0, none⟩)), (1, .int .i64 a), (2, .int .i64 b), (3, .int .i64 v), (8, .int .i64 ((i : Nat) : Int)), (9, .bool bb), (18, .slice (some ⟨b4, 0, none⟩) 0 0), (21, .pointer (some ⟨g, 0, none⟩))] (by kernel_rfl) ?_
  refine OI_cell 47 (.tmp 21) 0 (.slice A cs.length cap) (some 22) (by kernel_rfl) (by kernel_rfl) hg (m := 1) (by kernel_rfl) rfl ?_
  refine OI_static 6 [(0, .pointer (some ⟨g, 0, none⟩)), (1, .int .i64 a), (2, .int .i64 b), (3, .int .i64 v), (8, .int .i64 ((i : Nat) : Int)), (9, .bool bb), (18, .slice (some ⟨b4, 0, none⟩) 0 0), (22, .slice A cs.length cap), (23, .int .i64 ((i : Nat) : Int))] (by kernel_rfl) ?_
  refine OI_pure (some 24) ((Op.slice 47 (Operand.tmp 22) none (some (Operand.tmp 23)) none)) (by kernel_rfl) (pure_sliceTo (E := 59) (sz := 3) (by_ := 24) (base := A) (len := cs.length) (cap := cap) (h := i) (kd := .i64) (by kernel_rfl) (by kernel_rfl) (by kernel_rfl) (by omega)) ?_
  have hl6 : (cs.take i).length = i := by rw [List.length_take]; omega
  have hy6 := (SlT.to hA (i := i) (by omega)).slr
  rw [hl6] at hy6
  refine OI_append (t := 47) (at2 := 47) (E := 59) (E2 := 59) (sz := 3) (by_ := 24) (zv := .agg #[.int .i64 0, .int .i64 0, .int .i64 0]) (m := ([] : List Ci).length) (k := i) (.tmp 18) (.tmp 24) (.slice (some ⟨b4, 0, none⟩) 0 0) (.slice A i cap) (some 25) (by kernel_rfl) (by kernel_rfl) (by kernel_rfl) (by kernel_rfl) (by kernel_rfl) (by kernel_rfl) (by kernel_rfl) (SlT.slr (slt_blk (xs := ([] : List Ci)) (f := Ci.cells) (sz := 3) hb4 Ci.len rfl)) hy6 (fun u hu => by obtain ⟨z, _, hz⟩ := List.mem_flatMap.1 hu; exact Ci.one z u hz) (by first | omega | (simp only [List.length_nil, List.length_append, List.length_cons, List.length_take, List.length_drop]; omega)) (by omega) (by first | omega | (simp only [List.length_nil, List.length_append, List.length_cons, List.length_take, List.length_drop]; omega)) (by omega) ?_
  intro vv9 w6 hap
  obtain ⟨A6, cap6, rfl, hA6, hk6, own6x⟩ := app_many (f := Ci.cells) (xs := ([] : List Ci)) (ys := (cs.take i)) (A := (some ⟨b4, 0, none⟩)) (cap := 0) hap hl6 Ci.len
  replace hk6 : Keep (only b4) w4 w6 := hk6.mono (fun i _ h => inA_some h)
  have own6 : ∀ q, inA A6 q → w.heap.size ≤ q := fun q hq => by rcases own6x q hq with h | h; (have h9 := inA_some h; show w.heap.size ≤ q; omega); (show w.heap.size ≤ q; omega)
  rw [List.nil_append] at hA6
  have hsz7 := Keep.size hk6
  replace hg := hg.keep hk6 (by show ¬ (_ = _); omega)
  have hglt := hg.lt
  replace hA := SlT.keep hA hk6 (fun q hq hs => by have hs : q = b4 := hs; have g0 := hAg q hq; have g1 := hltA q hq; omega)
  replace hK0 := Keep.fresh hK0 hk6 (by intro i hi hs; first | exact hs | exact Or.inl hs | exact Or.inr hs | (exfalso; have hs2 : i = b4 := hs; omega)); have hzhK0 := Keep.size hK0
  have lt6 := SlT.lt hA6
  have hcap6 := SlT.cap_le hA6
  refine OI_static 9 [(0, .pointer (some ⟨g, 0, none⟩)), (1, .int .i64 a), (2, .int .i64 b), (3, .int .i64 v), (8, .int .i64 ((i : Nat) : Int)), (9, .bool bb), (10, .slice A6 ((cs.take i).length) cap6)] (by kernel_rfl) ?_
  refine OI_end rfl ?_
  refine X_then ?_
  refine V_seq ?_
  refine V_region ?_
  refine OI_static 5 [(0, .pointer (some ⟨g, 0, none⟩)), (8, .int .i64 ((i : Nat) : Int)), (9, .bool bb), (26, .slice A6 ((cs.take i).length) cap6), (30, .agg #[.int .i64 a, .int .i64 b, .int .i64 v])] (by kernel_rfl) ?_
  refine OI_slit (E := 59) (zv := .agg #[.int .i64 0, .int .i64 0, .int .i64 0]) (sz := 3) (by_ := 24) 47 1 #[(0, (Operand.tmp 30))] [.agg #[.int .i64 a, .int .i64 b, .int .i64 v]] [.int .i64 a, .int .i64 b, .int .i64 v] (some 31) (by kernel_rfl) (by kernel_rfl) (by kernel_rfl) (by omega) rfl (by omega) (by intro v hv; simp only [List.mem_cons, List.not_mem_nil, or_false] at hv; rcases hv with rfl <;> rfl) (by kernel_rfl) rfl ?_
  intro b8 w8 e8 hb8 k8 z8
  have hsz9 := Keep.size k8
  replace hg := hg.keep k8 (fun f => f)
  have hglt := hg.lt
  replace hA := SlT.keep0 hA k8
  replace hA6 := SlT.keep0 hA6 k8
  replace hK0 := Keep.tr hK0 (Keep.ofNone k8); have hzhK0 := Keep.size hK0
  have hb8lt := hb8.lt
  refine OI_append (t := 47) (at2 := 47) (E := 59) (E2 := 59) (sz := 3) (by_ := 24) (zv := .agg #[.int .i64 0, .int .i64 0, .int .i64 0]) (m := (cs.take i).length) (k := 1) (.tmp 26) (.tmp 31) (.slice A6 ((cs.take i).length) cap6) (.slice (some ⟨b8, 0, none⟩) 1 1) (some 32) (by kernel_rfl) (by kernel_rfl) (by kernel_rfl) (by kernel_rfl) (by kernel_rfl) (by kernel_rfl) (by kernel_rfl) (SlT.slr hA6) (slr_one hb8 (Ci.len (Ci.mk a b v))) (Ci.one (Ci.mk a b v)) (by first | omega | (simp only [List.length_nil]; omega)) (by omega) (by first | omega | (simp only [List.length_nil]; omega)) (by omega) ?_
  intro vv9 w10 hap
  obtain ⟨A10, cap10, rfl, hA10, hk10, own10x⟩ := app_one (f := Ci.cells) (xs := (cs.take i)) (x := (Ci.mk a b v)) (A := A6) (cap := cap6) hap (fun x _ => Ci.len x) (Ci.len _)
  have own10 : ∀ q, inA A10 q → w.heap.size ≤ q := fun q hq => by rcases own10x q hq with h | h; exact own6 q h; (show w.heap.size ≤ q; omega)
  have hsz11 := Keep.size hk10
  replace hg := hg.keep hk10 (fun hs => by have h1 := own6 _ hs; have h2 := lt6 _ hs; omega)
  have hglt := hg.lt
  replace hA := SlT.keep hA hk10 (fun q hq hs => by have g0 := hAg q hq; have g1 := hltA q hq; have h1 := own6 q hs; have h2 := lt6 q hs; omega)
  replace hK0 := Keep.fresh hK0 hk10 (by intro i hi hs; first | exact hs | (exfalso; have h1 := own6 i hs; have h2 := lt6 i hs; omega) | (have h1 := own6 i hs; have h2 := lt6 i hs; show _ ∨ _; omega)); have hzhK0 := Keep.size hK0
  have lt10 := SlT.lt hA10
  refine OI_static 8 [(0, .pointer (some ⟨g, 0, none⟩)), (8, .int .i64 ((i : Nat) : Int)), (9, .bool bb), (10, .slice A10 (((cs.take i) ++ [Ci.mk a b v]).length) cap10)] (by kernel_rfl) ?_
  refine OI_end rfl ?_
  refine X_then ?_
  refine V_seq ?_
  refine V_seq ?_
  refine V_region ?_
  refine OI_static 1 [(0, .pointer (some ⟨g, 0, none⟩)), (8, .int .i64 ((i : Nat) : Int)), (10, .slice A10 (((cs.take i) ++ [Ci.mk a b v]).length) cap10), (33, .bool bb)] (by kernel_rfl) ?_
  refine OI_end rfl ?_
  refine X_then ?_
  refine V_ifb (bb) (by kernel_rfl) (fun hc12 => ?_) (fun hc12 => ?_)
  · skip
    have hbv : bb = true := by simpa using hc12
    rcases place_at cs i hs hi hbef haft with ⟨y, g1, g2, g3, g4, g5, g6, g7⟩ | ⟨g1, _⟩
    rotate_left
    · exact absurd hbv (by rw [hbb]; split <;> simp_all)
    have hilt := (List.getElem?_eq_some_iff.1 g1).1
    refine V_region ?_
    have hw13 : IntKind.i64.wrap (((i : Nat) : Int) + 1) = ((i + 1 : Nat) : Int) := (wrap64_id (by omega) (by omega)).trans (by omega)
    refine OI_static 2 [(0, .pointer (some ⟨g, 0, none⟩)), (10, .slice A10 (((cs.take i) ++ [Ci.mk a b v]).length) cap10), (35, .int .i64 (IntKind.i64.wrap (((i : Nat) : Int) + 1)))] (by kernel_rfl) ?_
    refine OI_eq [(0, .pointer (some ⟨g, 0, none⟩)), (10, .slice A10 (((cs.take i) ++ [Ci.mk a b v]).length) cap10), (35, .int .i64 ((i + 1 : Nat) : Int))] (by rw [hw13]) ?_
    refine OI_static 3 [(0, .pointer (some ⟨g, 0, none⟩)), (8, .int .i64 ((i + 1 : Nat) : Int)), (10, .slice A10 (((cs.take i) ++ [Ci.mk a b v]).length) cap10)] (by kernel_rfl) ?_
    refine OI_end rfl ?_
    refine X_then ?_
    refine V_region ?_
    refine OI_static 5 [(8, .int .i64 ((i + 1 : Nat) : Int)), (36, .pointer (some ⟨g, 0, none⟩)), (37, .slice A10 (((cs.take i) ++ [Ci.mk a b v]).length) cap10), (40, .pointer (some ⟨g, 0, none⟩))] (by kernel_rfl) ?_
    refine OI_cell 47 (.tmp 40) 0 (.slice A cs.length cap) (some 41) (by kernel_rfl) (by kernel_rfl) hg (m := 1) (by kernel_rfl) rfl ?_
    refine OI_static 7 [(36, .pointer (some ⟨g, 0, none⟩)), (37, .slice A10 (((cs.take i) ++ [Ci.mk a b v]).length) cap10), (41, .slice A cs.length cap), (42, .int .i64 ((i + 1 : Nat) : Int))] (by kernel_rfl) ?_
    refine OI_pure (some 43) ((Op.slice 47 (Operand.tmp 41) (some (Operand.tmp 42)) none none)) (by kernel_rfl) (pure_sliceSuf (E := 59) (sz := 3) (by_ := 24) (A := A) (len := cs.length) (cap := cap) (l := i + 1) (kd := .i64) (by kernel_rfl) (by kernel_rfl) (by kernel_rfl) (by omega) (by omega)) ?_
    have hl14 : (cs.drop (i + 1)).length = cs.length - (i + 1) := List.length_drop
    have hy14 := (SlT.from_ hA (i := i + 1) (by omega)).slr
    rw [hl14] at hy14
    refine OI_append (t := 47) (at2 := 47) (E := 59) (E2 := 59) (sz := 3) (by_ := 24) (zv := .agg #[.int .i64 0, .int .i64 0, .int .i64 0]) (m := ((cs.take i) ++ [Ci.mk a b v]).length) (k := cs.length - (i + 1)) (.tmp 37) (.tmp 43) (.slice A10 (((cs.take i) ++ [Ci.mk a b v]).length) cap10) (.slice (sufA A cap (i + 1) 3) (cs.length - (i + 1)) (cap - (i + 1))) (some 44) (by kernel_rfl) (by kernel_rfl) (by kernel_rfl) (by kernel_rfl) (by kernel_rfl) (by kernel_rfl) (by kernel_rfl) (SlT.slr hA10) hy14 (fun u hu => by obtain ⟨z, _, hz⟩ := List.mem_flatMap.1 hu; exact Ci.one z u hz) (by first | omega | (simp only [List.length_nil, List.length_append, List.length_cons, List.length_take, List.length_drop]; omega)) (by omega) (by first | omega | (simp only [List.length_nil, List.length_append, List.length_cons, List.length_take, List.length_drop]; omega)) (by omega) ?_
    intro vv9 w14 hap
    obtain ⟨A14, cap14, rfl, hA14, hk14, own14x⟩ := app_many (f := Ci.cells) (xs := ((cs.take i) ++ [Ci.mk a b v])) (ys := (cs.drop (i + 1))) (A := A10) (cap := cap10) hap hl14 Ci.len
    have own14 : ∀ q, inA A14 q → w.heap.size ≤ q := fun q hq => by rcases own14x q hq with h | h; (have h8 := own10 q h; have h9 := lt10 q h; show w.heap.size ≤ q; omega); (show w.heap.size ≤ q; omega)
    have hsz15 := Keep.size hk14
    replace hg := hg.keep hk14 (fun hs => by have h1 := own10 _ hs; have h2 := lt10 _ hs; omega)
    have hglt := hg.lt
    replace hA := SlT.keep hA hk14 (fun q hq hs => by have g0 := hAg q hq; have g1 := hltA q hq; have h1 := own10 q hs; have h2 := lt10 q hs; omega)
    replace hK0 := Keep.fresh hK0 hk14 (by intro i hi hs; first | exact hs | (exfalso; have h1 := own10 i hs; have h2 := lt10 i hs; omega) | (have h1 := own10 i hs; have h2 := lt10 i hs; show _ ∨ _; omega)); have hzhK0 := Keep.size hK0
    have lt14 := SlT.lt hA14
    have hcap14 := SlT.cap_le hA14
    refine OI_static 11 [(44, .slice A14 ((((cs.take i) ++ [Ci.mk a b v]) ++ (cs.drop (i + 1))).length) cap14), (46, .pointer (some ⟨g, 0, none⟩))] (by kernel_rfl) ?_
    refine OI_set (m := 1) (kd := false) 47 (.tmp 46) (.tmp 44) 0 (.slice A14 ((((cs.take i) ++ [Ci.mk a b v]) ++ (cs.drop (i + 1))).length) cap14) [.slice A14 ((((cs.take i) ++ [Ci.mk a b v]) ++ (cs.drop (i + 1))).length) cap14] none (by kernel_rfl) (by kernel_rfl) (by kernel_rfl) hg (by kernel_rfl) (by kernel_rfl) (by kernel_rfl) (Nat.le_of_ble_eq_true (by kernel_rfl)) (by simp [Value.oneCell']) ?_
    intro w16 hg_19 hk17 hz18
    replace hg_19 : Blk w16 g [.slice A14 ((((cs.take i) ++ [Ci.mk a b v]) ++ (cs.drop (i + 1))).length) cap14] 49 := hg_19
    have hsz20 := Keep.size hk17
    replace hA := SlT.keep hA hk17 (fun q hq hs => by have hs : q = g := hs; have g0 := hAg q hq; have g1 := hltA q hq; omega)
    replace hA14 := SlT.keep hA14 hk17 (fun q hq hs => by have hs : q = g := hs; have g0 := own14 q hq; have g1 := lt14 q hq; omega)
    replace hK0 := Keep.fresh hK0 hk17 (by intro i hi hs; first | exact hs | exact Or.inl hs | exact Or.inr hs | (exfalso; have hs2 : i = g := hs; omega)); have hzhK0 := Keep.size hK0
    refine OI_end rfl ?_
    obtain ⟨hsn, hsl⟩ := Srt.set (a := a) (b := b) (v := v) hs
    have hE : (((cs.take i) ++ [Ci.mk a b v]) ++ (cs.drop (i + 1))) = setC a b v cs := by rw [← g6 v, List.set_eq_take_append_cons_drop, if_pos hilt]; simp
    rw [hE] at hA14
    exact X_end _ rfl ⟨rfl, ⟨more F w w16, ⟨hsn, by omega, .inl hFg, (fun q hq => by rcases hq with hq | hq; (have h9 := hFlt q hq; omega); exact hq.2), A14, cap14, ⟨by have h9 := hg_19; rw [hE] at h9; exact h9, hA14, fun hh => by have h9 := own14 g hh; omega⟩, fun q hq => .inr ⟨own14 q hq, by have h9 := lt14 q hq; omega⟩⟩, fun q hq => hq.imp id (·.1)⟩, hK0⟩
  · skip
    have hbv : bb = false := by simpa using hc12
    rcases place_at cs i hs hi hbef haft with ⟨y, g1, g2, _⟩ | ⟨g1, g2, g3, g4⟩
    · exact absurd hbv (by rw [hbb, g1]; simp [g2])
    refine V_skip ?_
    refine X_then ?_
    refine V_region ?_
    refine OI_static 5 [(8, .int .i64 ((i : Nat) : Int)), (36, .pointer (some ⟨g, 0, none⟩)), (37, .slice A10 (((cs.take i) ++ [Ci.mk a b v]).length) cap10), (40, .pointer (some ⟨g, 0, none⟩))] (by kernel_rfl) ?_
    refine OI_cell 47 (.tmp 40) 0 (.slice A cs.length cap) (some 41) (by kernel_rfl) (by kernel_rfl) hg (m := 1) (by kernel_rfl) rfl ?_
    refine OI_static 7 [(36, .pointer (some ⟨g, 0, none⟩)), (37, .slice A10 (((cs.take i) ++ [Ci.mk a b v]).length) cap10), (41, .slice A cs.length cap), (42, .int .i64 ((i : Nat) : Int))] (by kernel_rfl) ?_
    refine OI_pure (some 43) ((Op.slice 47 (Operand.tmp 41) (some (Operand.tmp 42)) none none)) (by kernel_rfl) (pure_sliceSuf (E := 59) (sz := 3) (by_ := 24) (A := A) (len := cs.length) (cap := cap) (l := i) (kd := .i64) (by kernel_rfl) (by kernel_rfl) (by kernel_rfl) (by omega) (by omega)) ?_
    have hl21 : (cs.drop i).length = cs.length - i := List.length_drop
    have hy21 := (SlT.from_ hA (i := i) (by omega)).slr
    rw [hl21] at hy21
    refine OI_append (t := 47) (at2 := 47) (E := 59) (E2 := 59) (sz := 3) (by_ := 24) (zv := .agg #[.int .i64 0, .int .i64 0, .int .i64 0]) (m := ((cs.take i) ++ [Ci.mk a b v]).length) (k := cs.length - i) (.tmp 37) (.tmp 43) (.slice A10 (((cs.take i) ++ [Ci.mk a b v]).length) cap10) (.slice (sufA A cap i 3) (cs.length - i) (cap - i)) (some 44) (by kernel_rfl) (by kernel_rfl) (by kernel_rfl) (by kernel_rfl) (by kernel_rfl) (by kernel_rfl) (by kernel_rfl) (SlT.slr hA10) hy21 (fun u hu => by obtain ⟨z, _, hz⟩ := List.mem_flatMap.1 hu; exact Ci.one z u hz) (by first | omega | (simp only [List.length_nil, List.length_append, List.length_cons, List.length_take, List.length_drop]; omega)) (by omega) (by first | omega | (simp only [List.length_nil, List.length_append, List.length_cons, List.length_take, List.length_drop]; omega)) (by omega) ?_
    intro vv9 w21 hap
    obtain ⟨A21, cap21, rfl, hA21, hk21, own21x⟩ := app_many (f := Ci.cells) (xs := ((cs.take i) ++ [Ci.mk a b v])) (ys := (cs.drop i)) (A := A10) (cap := cap10) hap hl21 Ci.len
    have own21 : ∀ q, inA A21 q → w.heap.size ≤ q := fun q hq => by rcases own21x q hq with h | h; (have h8 := own10 q h; have h9 := lt10 q h; show w.heap.size ≤ q; omega); (show w.heap.size ≤ q; omega)
    have hsz22 := Keep.size hk21
    replace hg := hg.keep hk21 (fun hs => by have h1 := own10 _ hs; have h2 := lt10 _ hs; omega)
    have hglt := hg.lt
    replace hA := SlT.keep hA hk21 (fun q hq hs => by have g0 := hAg q hq; have g1 := hltA q hq; have h1 := own10 q hs; have h2 := lt10 q hs; omega)
    replace hK0 := Keep.fresh hK0 hk21 (by intro i hi hs; first | exact hs | (exfalso; have h1 := own10 i hs; have h2 := lt10 i hs; omega) | (have h1 := own10 i hs; have h2 := lt10 i hs; show _ ∨ _; omega)); have hzhK0 := Keep.size hK0
    have lt21 := SlT.lt hA21
    have hcap21 := SlT.cap_le hA21
    refine OI_static 11 [(44, .slice A21 ((((cs.take i) ++ [Ci.mk a b v]) ++ (cs.drop i)).length) cap21), (46, .pointer (some ⟨g, 0, none⟩))] (by kernel_rfl) ?_
    refine OI_set (m := 1) (kd := false) 47 (.tmp 46) (.tmp 44) 0 (.slice A21 ((((cs.take i) ++ [Ci.mk a b v]) ++ (cs.drop i)).length) cap21) [.slice A21 ((((cs.take i) ++ [Ci.mk a b v]) ++ (cs.drop i)).length) cap21] none (by kernel_rfl) (by kernel_rfl) (by kernel_rfl) hg (by kernel_rfl) (by kernel_rfl) (by kernel_rfl) (Nat.le_of_ble_eq_true (by kernel_rfl)) (by simp [Value.oneCell']) ?_
    intro w23 hg_26 hk24 hz25
    replace hg_26 : Blk w23 g [.slice A21 ((((cs.take i) ++ [Ci.mk a b v]) ++ (cs.drop i)).length) cap21] 49 := hg_26
    have hsz27 := Keep.size hk24
    replace hA := SlT.keep hA hk24 (fun q hq hs => by have hs : q = g := hs; have g0 := hAg q hq; have g1 := hltA q hq; omega)
    replace hA21 := SlT.keep hA21 hk24 (fun q hq hs => by have hs : q = g := hs; have g0 := own21 q hq; have g1 := lt21 q hq; omega)
    replace hK0 := Keep.fresh hK0 hk24 (by intro i hi hs; first | exact hs | exact Or.inl hs | exact Or.inr hs | (exfalso; have hs2 : i = g := hs; omega)); have hzhK0 := Keep.size hK0
    refine OI_end rfl ?_
    obtain ⟨hsn, hsl⟩ := Srt.set (a := a) (b := b) (v := v) hs
    have hE : (((cs.take i) ++ [Ci.mk a b v]) ++ (cs.drop i)) = setC a b v cs := by rw [← g3 v]; simp
    rw [hE] at hA21
    exact X_end _ rfl ⟨rfl, ⟨more F w w23, ⟨hsn, by omega, .inl hFg, (fun q hq => by rcases hq with hq | hq; (have h9 := hFlt q hq; omega); exact hq.2), A21, cap21, ⟨by have h9 := hg_26; rw [hE] at h9; exact h9, hA21, fun hh => by have h9 := own21 g hh; omega⟩, fun q hq => .inr ⟨own21 q hq, by have h9 := lt21 q hq; omega⟩⟩, fun q hq => hq.imp id (·.1)⟩, hK0⟩

set_option maxRecDepth 10000 in
theorem act_gf (F1 F2 : Nat → Prop) (g x : Nat) (cs : List Ci) (z : Ac4) (w : World) (h1 : Grd F1 w g cs) (h2 : Rgd F2 w x cs) (hdis : ∀ q, F1 q → ¬ F2 q) (hmax : cs.length < 100000) : Calls Try.prog 22 #[.pointer (some ⟨g, 0, none⟩), .pointer (some ⟨x, 0, none⟩), .agg z.cells.toArray] w fun e w' => e = .returned (.bool true) ∧ (∃ F1' F2', Grd F1' w' g (actC z cs) ∧ Rgd F2' w' x (actC z cs) ∧ (∀ q, F1' q → F1 q ∨ w.heap.size ≤ q) ∧ (∀ q, F2' q → F2 q ∨ w.heap.size ≤ q) ∧ (∀ q, F1' q → ¬ F2' q)) ∧ Keep (fun q => q = g ∨ q = x) w w' := by
  have ltF1 := Grd.lt h1
  have ltF2 := Rgd.lt h2
  have hglt := ltF1 _ (Grd.at_ h1)
  have hxlt := ltF2 _ (Rgd.at_ h2)
  have hrF1 : ∀ q, F1 q → F1 q ∨ w.heap.size ≤ q := fun q h => .inl h
  have hrF2 : ∀ q, F2 q → F2 q ∨ w.heap.size ≤ q := fun q h => .inl h
  have ow1 : ∀ q, F1 q → q ≠ x := fun q hq he => hdis q hq (he ▸ Rgd.at_ h2)
  have ow2 : ∀ q, F2 q → q ≠ g := fun q hq he => hdis q (he ▸ Grd.at_ h1) hq
  have hgx : g ≠ x := ow1 _ (Grd.at_ h1)
  have hK0 : Keep (fun q => q = g ∨ q = x) w w := Keep.refl _ _
  have hzhK0 := Keep.size hK0
  refine enterV Try.func22 rfl [.pointer (some ⟨g, 0, none⟩), .pointer (some ⟨x, 0, none⟩), .agg (Ac4.cells z).toArray] 72 rfl rfl rfl ?_
  refine V_pick [(0, .pointer (some ⟨g, 0, none⟩)), (1, .pointer (some ⟨x, 0, none⟩)), (2, .agg (Ac4.cells z).toArray)] rfl ?_
  refine V_seq ?_
  refine V_region ?_
  refine OI_box 42 (.tmp 2) (.agg (Ac4.cells z).toArray) (Ac4.cells z) (some 5) (by kernel_rfl) (by kernel_rfl) rfl ?_
  intro b1 w1 e1 hb1 k1 z1
  have hsz2 := Keep.size k1
  replace h1 := Grd.keep h1 k1 (fun _ _ f => f)
  replace h2 := Rgd.keep h2 k1 (fun _ _ f => f)
  replace hK0 := Keep.tr hK0 (Keep.ofNone k1); have hzhK0 := Keep.size hK0
  have hb1lt := hb1.lt
  refine OI_static 2 [(0, .pointer (some ⟨g, 0, none⟩)), (1, .pointer (some ⟨x, 0, none⟩)), (5, .pointer (some ⟨b1, 0, none⟩))] (by kernel_rfl) ?_
  refine OI_end rfl ?_
  refine X_then ?_
  refine V_seq ?_
  refine V_seq ?_
  refine V_region ?_
  refine OI_static 1 [(0, .pointer (some ⟨g, 0, none⟩)), (1, .pointer (some ⟨x, 0, none⟩)), (5, .pointer (some ⟨b1, 0, none⟩)), (11, .pointer (some ⟨b1, 0, none⟩))] (by kernel_rfl) ?_
  refine OI_cell 3 (.tmp 11) 0 (.int .i64 z.k) (some 12) (by kernel_rfl) (by kernel_rfl) hb1 (m := 1) (by kernel_rfl) rfl ?_
  refine OI_end rfl ?_
  refine X_then ?_
  refine V_block ?_
  refine V_seq ?_
  refine V_region ?_
  refine OI_static 2 [(0, .pointer (some ⟨g, 0, none⟩)), (1, .pointer (some ⟨x, 0, none⟩)), (5, .pointer (some ⟨b1, 0, none⟩)), (12, .int .i64 z.k), (13, .bool (decide (z.k = 1)))] (by kernel_rfl) ?_
  refine OI_end rfl ?_
  refine X_then ?_
  refine V_if (z.k = 1) (by kernel_rfl) (fun hc3 => ?_) (fun hc3 => ?_)
  · skip
    refine V_seq ?_
    refine V_region ?_
    refine OI_static 2 [(1, .pointer (some ⟨x, 0, none⟩)), (5, .pointer (some ⟨b1, 0, none⟩)), (15, .pointer (some ⟨g, 0, none⟩)), (16, .pointer (some ⟨b1, 1, none⟩))] (by kernel_rfl) ?_
    refine OI_cell 3 (.tmp 16) 1 (.int .i64 z.a) (some 17) (by kernel_rfl) (by kernel_rfl) hb1 (m := 1) (by kernel_rfl) rfl ?_
    refine OI_static 4 [(1, .pointer (some ⟨x, 0, none⟩)), (5, .pointer (some ⟨b1, 0, none⟩)), (15, .pointer (some ⟨g, 0, none⟩)), (17, .int .i64 z.a), (18, .pointer (some ⟨b1, 2, none⟩))] (by kernel_rfl) ?_
    refine OI_cell 3 (.tmp 18) 2 (.int .i64 z.b) (some 19) (by kernel_rfl) (by kernel_rfl) hb1 (m := 1) (by kernel_rfl) rfl ?_
    refine OI_static 6 [(1, .pointer (some ⟨x, 0, none⟩)), (5, .pointer (some ⟨b1, 0, none⟩)), (15, .pointer (some ⟨g, 0, none⟩)), (17, .int .i64 z.a), (19, .int .i64 z.b), (20, .pointer (some ⟨b1, 3, none⟩))] (by kernel_rfl) ?_
    refine OI_cell 3 (.tmp 20) 3 (.int .i64 z.n) (some 21) (by kernel_rfl) (by kernel_rfl) hb1 (m := 1) (by kernel_rfl) rfl ?_
    refine OI_call { callee := (Callee.value (Operand.func 11)), args := #[(Operand.tmp 15), (Operand.tmp 17), (Operand.tmp 19), (Operand.tmp 21)], argTypes := #[22, 3, 3, 3] } 11 #[.pointer (some ⟨g, 0, none⟩), .int .i64 z.a, .int .i64 z.b, .int .i64 z.n] (some 22) (by kernel_rfl) (by kernel_rfl) (by kernel_rfl) (set_gf F1 g cs z.a z.b z.n _ h1 hmax) ?_
    rintro _ w4 ⟨rfl, ⟨F6, ho7, hfr8⟩, hk5⟩
    refine ⟨_, rfl, ?_⟩
    have hsz9 := Keep.size hk5
    replace hb1 := hb1.keep hk5 (by show ¬ (_ = _); omega)
    have hb1lt := hb1.lt
    replace h2 := Rgd.keep h2 hk5 (fun q hq hs => by have hs : q = g := hs; have g0 := ow2 q hq; have g1 := ltF2 q hq; omega)
    replace hK0 := Keep.fresh hK0 hk5 (by intro i hi hs; first | exact hs | exact Or.inl hs | exact Or.inr hs | (exfalso; have hs2 : i = g := hs; omega)); have hzhK0 := Keep.size hK0
    have own11 : ∀ q, F6 q → q ≠ x ∧ q ≠ b1 := fun q hq => by rcases hfr8 q hq with h | h; (have h1 := ow1 q h; have h2 := ltF1 q h; omega); omega
    have lt10 := Grd.lt ho7
    have rel12 : ∀ q, F6 q → F1 q ∨ w.heap.size ≤ q := fun q hq => by rcases hfr8 q hq with h | h; exact hrF1 q h; exact .inr (by omega)
    have dis13 : ∀ q, F6 q → ¬ F2 q := fun q h1 h2 => by rcases hfr8 q h1 with h | h; exact hdis q h h2; (have h4 := ltF2 q h2; omega)
    refine OI_end rfl ?_
    refine X_then ?_
    refine V_seq ?_
    refine V_region ?_
    refine OI_static 2 [(5, .pointer (some ⟨b1, 0, none⟩)), (23, .pointer (some ⟨x, 0, none⟩)), (24, .pointer (some ⟨b1, 1, none⟩))] (by kernel_rfl) ?_
    refine OI_cell 3 (.tmp 24) 1 (.int .i64 z.a) (some 25) (by kernel_rfl) (by kernel_rfl) hb1 (m := 1) (by kernel_rfl) rfl ?_
    refine OI_static 4 [(5, .pointer (some ⟨b1, 0, none⟩)), (23, .pointer (some ⟨x, 0, none⟩)), (25, .int .i64 z.a), (26, .pointer (some ⟨b1, 2, none⟩))] (by kernel_rfl) ?_
    refine OI_cell 3 (.tmp 26) 2 (.int .i64 z.b) (some 27) (by kernel_rfl) (by kernel_rfl) hb1 (m := 1) (by kernel_rfl) rfl ?_
    refine OI_static 6 [(23, .pointer (some ⟨x, 0, none⟩)), (25, .int .i64 z.a), (27, .int .i64 z.b), (28, .pointer (some ⟨b1, 3, none⟩))] (by kernel_rfl) ?_
    refine OI_cell 3 (.tmp 28) 3 (.int .i64 z.n) (some 29) (by kernel_rfl) (by kernel_rfl) hb1 (m := 1) (by kernel_rfl) rfl ?_
    refine OI_call { callee := (Callee.value (Operand.func 37)), args := #[(Operand.tmp 23), (Operand.tmp 25), (Operand.tmp 27), (Operand.tmp 29)], argTypes := #[46, 3, 3, 3] } 37 #[.pointer (some ⟨x, 0, none⟩), .int .i64 z.a, .int .i64 z.b, .int .i64 z.n] (some 30) (by kernel_rfl) (by kernel_rfl) (by kernel_rfl) (rset_gf F2 x cs z.a z.b z.n _ h2 hmax) ?_
    rintro _ w14 ⟨rfl, ⟨F16, ho17, hfr18⟩, hk15⟩
    refine ⟨_, rfl, ?_⟩
    have hsz19 := Keep.size hk15
    replace hb1 := hb1.keep hk15 (by show ¬ (_ = _); omega)
    have hb1lt := hb1.lt
    replace hK0 := Keep.fresh hK0 hk15 (by intro i hi hs; first | exact hs | exact Or.inl hs | exact Or.inr hs | (exfalso; have hs2 : i = x := hs; omega)); have hzhK0 := Keep.size hK0
    replace ho7 := Grd.keep ho7 hk15 (fun q hq hs => by have hs : q = x := hs; have g0 := own11 q hq; have g1 := lt10 q hq; omega)
    have own21 : ∀ q, F16 q → q ≠ g ∧ q ≠ b1 := fun q hq => by rcases hfr18 q hq with h | h; (have h1 := ow2 q h; have h2 := ltF2 q h; omega); omega
    have lt20 := Rgd.lt ho17
    have rel22 : ∀ q, F16 q → F2 q ∨ w.heap.size ≤ q := fun q hq => by rcases hfr18 q hq with h | h; exact hrF2 q h; exact .inr (by omega)
    have dis23 : ∀ q, F16 q → ¬ F6 q := fun q h1 h2 => by rcases hfr18 q h1 with h | h; exact (fun q h1 h2 => dis13 q h2 h1) q h h2; (have h4 := lt10 q h2; omega)
    refine OI_end rfl ?_
    refine X_then ?_
    refine V_seq ?_
    refine V_region ?_
    refine OI_static 1 [(6, .bool true)] (by kernel_rfl) ?_
    refine OI_end rfl ?_
    refine X_then ?_
    refine V_ret ?_
    refine X_ret_block ?_
    refine X_ret_then ?_
    have hE : actC z cs = setC z.a z.b z.n cs := by unfold actC; rw [if_pos hc3]
    rw [hE]
    exact X_return (.bool true) rfl ⟨by simp, ⟨F6, F16, ho7, ho17, rel12, rel22, (fun q h1 h2 => dis23 q h2 h1)⟩, hK0⟩
  · skip
    refine V_seq ?_
    refine V_region ?_
    refine OI_static 2 [(0, .pointer (some ⟨g, 0, none⟩)), (1, .pointer (some ⟨x, 0, none⟩)), (5, .pointer (some ⟨b1, 0, none⟩)), (31, .bool (decide (z.k = 2)))] (by kernel_rfl) ?_
    refine OI_end rfl ?_
    refine X_then ?_
    refine V_if (z.k = 2) (by kernel_rfl) (fun hc24 => ?_) (fun hc24 => ?_)
    · skip
      refine V_seq ?_
      refine V_draws (acts [5, 11]) (fun q => q ≠ b1) [[0, 1, 2, 3, 4, 5, 6, 7, 8, 9, 10, 11, 12, 13]] (by kernel_rfl) (by repeat first | exact sure_body (by rintro _ _ ⟨h, _⟩; exact ⟨_, h⟩) | refine sure_then ?_ | refine sure_block ?_ | refine sure_join ?_) (by kernel_rfl) ?_
      intro w26 hk25 he27 L hL28
      have hsz29 := Keep.size hk25
      replace hb1 := hb1.keep hk25 (fun f => f)
      have hb1lt := hb1.lt
      replace h1 := Grd.keep h1 hk25 (fun _ _ f => f)
      replace h2 := Rgd.keep h2 hk25 (fun _ _ f => f)
      replace hK0 := Keep.tr hK0 (Keep.ofNone hk25); have hzhK0 := Keep.size hK0
      have qhb1 := hb1
      have K30 : Keep (fun q => q ≠ b1) w26 w26 := Keep.refl _ _
      obtain rfl := List.mem_singleton.1 hL28
      refine GI_static [2, 3, 4, 5, 6, 7, 8, 9, 10, 11, 12, 13] [(1, .pointer (some ⟨x, 0, none⟩)), (5, .pointer (some ⟨b1, 0, none⟩)), (33, .pointer (some ⟨g, 0, none⟩)), (34, .pointer (some ⟨b1, 1, none⟩))] (by kernel_rfl) ?_
      refine GI_cell 3 (.tmp 34) 1 (.int .i64 z.a) (some 35) (by kernel_rfl) (by kernel_rfl) (by kernel_rfl) qhb1 (by show ¬ (b1 ≠ b1); omega) (m := 1) (by kernel_rfl) rfl ?_
      refine GI_static [4, 5, 6, 7, 8, 9, 10, 11, 12, 13] [(1, .pointer (some ⟨x, 0, none⟩)), (5, .pointer (some ⟨b1, 0, none⟩)), (33, .pointer (some ⟨g, 0, none⟩)), (35, .int .i64 z.a), (36, .pointer (some ⟨b1, 2, none⟩))] (by kernel_rfl) ?_
      refine GI_cell 3 (.tmp 36) 2 (.int .i64 z.b) (some 37) (by kernel_rfl) (by kernel_rfl) (by kernel_rfl) qhb1 (by show ¬ (b1 ≠ b1); omega) (m := 1) (by kernel_rfl) rfl ?_
      refine GI_call { callee := (Callee.value (Operand.func 19)), args := #[(Operand.tmp 33), (Operand.tmp 35), (Operand.tmp 37)], argTypes := #[22, 3, 3] } 19 #[.pointer (some ⟨g, 0, none⟩), .int .i64 z.a, .int .i64 z.b] (some 38) (by kernel_rfl) (by kernel_rfl) (by kernel_rfl) (by kernel_rfl) (del_gf F1 g cs z.a z.b _ h1) ?_
      rintro _ w31 ⟨rfl, ⟨F33, ho34, hfr35⟩, hk32⟩
      have K36 := Keep.fresh K30 hk32 (by intro i hi hs; have hs2 : i = g := hs; show i ≠ b1; omega)
      refine ⟨_, rfl, K36, ?_⟩
      have hzK36 := Keep.size K36
      have hsz37 := Keep.size hk32
      replace hb1 := hb1.keep hk32 (by show ¬ (_ = _); omega)
      have hb1lt := hb1.lt
      replace h2 := Rgd.keep h2 hk32 (fun q hq hs => by have hs : q = g := hs; have g0 := ow2 q hq; have g1 := ltF2 q hq; omega)
      replace hK0 := Keep.fresh hK0 hk32 (by intro i hi hs; first | exact hs | exact Or.inl hs | exact Or.inr hs | (exfalso; have hs2 : i = g := hs; omega)); have hzhK0 := Keep.size hK0
      have own39 : ∀ q, F33 q → q ≠ x ∧ q ≠ b1 := fun q hq => by rcases hfr35 q hq with h | h; (have h1 := ow1 q h; have h2 := ltF1 q h; omega); omega
      have lt38 := Grd.lt ho34
      have rel40 : ∀ q, F33 q → F1 q ∨ w.heap.size ≤ q := fun q hq => by rcases hfr35 q hq with h | h; exact hrF1 q h; exact .inr (by omega)
      have dis41 : ∀ q, F33 q → ¬ F2 q := fun q h1 h2 => by rcases hfr35 q h1 with h | h; exact hdis q h h2; (have h4 := ltF2 q h2; omega)
      refine GI_static [8, 9, 10, 11, 12, 13] [(5, .pointer (some ⟨b1, 0, none⟩)), (38, .bool ((getC z.a z.b cs).isSome)), (39, .pointer (some ⟨x, 0, none⟩)), (40, .pointer (some ⟨b1, 1, none⟩))] (by kernel_rfl) ?_
      refine GI_cell 3 (.tmp 40) 1 (.int .i64 z.a) (some 41) (by kernel_rfl) (by kernel_rfl) (by kernel_rfl) qhb1 (by show ¬ (b1 ≠ b1); omega) (m := 1) (by kernel_rfl) rfl ?_
      refine GI_static [10, 11, 12, 13] [(38, .bool ((getC z.a z.b cs).isSome)), (39, .pointer (some ⟨x, 0, none⟩)), (41, .int .i64 z.a), (42, .pointer (some ⟨b1, 2, none⟩))] (by kernel_rfl) ?_
      refine GI_cell 3 (.tmp 42) 2 (.int .i64 z.b) (some 43) (by kernel_rfl) (by kernel_rfl) (by kernel_rfl) qhb1 (by show ¬ (b1 ≠ b1); omega) (m := 1) (by kernel_rfl) rfl ?_
      refine GI_call0 { callee := (Callee.value (Operand.func 38)), args := #[(Operand.tmp 39), (Operand.tmp 41), (Operand.tmp 43)], argTypes := #[46, 3, 3] } 38 #[.pointer (some ⟨x, 0, none⟩), .int .i64 z.a, .int .i64 z.b] (some 44) (by kernel_rfl) (by kernel_rfl) (by kernel_rfl) (by kernel_rfl) (by kernel_rfl) (rdel_gf F2 x cs z.a z.b _ h2) ?_
      rintro _ w42 ⟨rfl, ⟨F44, ho45, hfr46⟩, hk43⟩
      refine ⟨_, rfl, ?_⟩
      have hsz47 := Keep.size hk43
      replace hb1 := hb1.keep hk43 (by show ¬ (_ = _); omega)
      have hb1lt := hb1.lt
      replace hK0 := Keep.fresh hK0 hk43 (by intro i hi hs; first | exact hs | exact Or.inl hs | exact Or.inr hs | (exfalso; have hs2 : i = x := hs; omega)); have hzhK0 := Keep.size hK0
      replace ho34 := Grd.keep ho34 hk43 (fun q hq hs => by have hs : q = x := hs; have g0 := own39 q hq; have g1 := lt38 q hq; omega)
      have own49 : ∀ q, F44 q → q ≠ g ∧ q ≠ b1 := fun q hq => by rcases hfr46 q hq with h | h; (have h1 := ow2 q h; have h2 := ltF2 q h; omega); omega
      have lt48 := Rgd.lt ho45
      have rel50 : ∀ q, F44 q → F2 q ∨ w.heap.size ≤ q := fun q hq => by rcases hfr46 q hq with h | h; exact hrF2 q h; exact .inr (by omega)
      have dis51 : ∀ q, F44 q → ¬ F33 q := fun q h1 h2 => by rcases hfr46 q h1 with h | h; exact (fun q h1 h2 => dis41 q h2 h1) q h h2; (have h4 := lt38 q h2; omega)
      refine GI_static [] [(6, .bool (((getC z.a z.b cs).isSome) == ((getC z.a z.b cs).isSome)))] (by kernel_rfl) ?_
      refine GI_end ?_
      refine X_then ?_
      refine V_ret ?_
      refine X_ret_block ?_
      refine X_ret_then ?_
      have hE : actC z cs = delC z.a z.b cs := by unfold actC; rw [if_neg hc3]; rw [if_pos hc24]
      rw [hE]
      exact X_return (.bool (((getC z.a z.b cs).isSome) == ((getC z.a z.b cs).isSome))) rfl ⟨by simp, ⟨F33, F44, ho34, ho45, rel40, rel50, (fun q h1 h2 => dis51 q h2 h1)⟩, hK0⟩
    · skip
      refine V_skip ?_
      refine X_block ?_
      refine X_then ?_
      refine V_seq ?_
      refine V_region ?_
      refine OI_static 2 [(1, .pointer (some ⟨x, 0, none⟩)), (5, .pointer (some ⟨b1, 0, none⟩)), (47, .pointer (some ⟨g, 0, none⟩)), (48, .pointer (some ⟨b1, 1, none⟩))] (by kernel_rfl) ?_
      refine OI_cell 3 (.tmp 48) 1 (.int .i64 z.a) (some 49) (by kernel_rfl) (by kernel_rfl) hb1 (m := 1) (by kernel_rfl) rfl ?_
      refine OI_static 4 [(1, .pointer (some ⟨x, 0, none⟩)), (5, .pointer (some ⟨b1, 0, none⟩)), (47, .pointer (some ⟨g, 0, none⟩)), (49, .int .i64 z.a), (50, .pointer (some ⟨b1, 2, none⟩))] (by kernel_rfl) ?_
      refine OI_cell 3 (.tmp 50) 2 (.int .i64 z.b) (some 51) (by kernel_rfl) (by kernel_rfl) hb1 (m := 1) (by kernel_rfl) rfl ?_
      refine OI_call { callee := (Callee.value (Operand.func 28)), args := #[(Operand.tmp 47), (Operand.tmp 49), (Operand.tmp 51)], argTypes := #[22, 3, 3] } 28 #[.pointer (some ⟨g, 0, none⟩), .int .i64 z.a, .int .i64 z.b] (some 52) (by kernel_rfl) (by kernel_rfl) (by kernel_rfl) (get_spec F1 g cs z.a z.b _ (Grd.gr h1)) ?_
      rintro _ w52 ⟨rfl, hk53⟩
      refine ⟨_, rfl, ?_⟩
      have hsz54 := Keep.size hk53
      replace hb1 := hb1.keep hk53 (fun f => f)
      have hb1lt := hb1.lt
      replace h1 := Grd.keep h1 hk53 (fun _ _ f => f)
      replace h2 := Rgd.keep h2 hk53 (fun _ _ f => f)
      replace hK0 := Keep.tr hK0 (Keep.ofNone hk53); have hzhK0 := Keep.size hK0
      refine OI_static 11 [(1, .pointer (some ⟨x, 0, none⟩)), (5, .pointer (some ⟨b1, 0, none⟩)), (7, .int .i64 ((getC z.a z.b cs).getD 0)), (8, .bool ((getC z.a z.b cs).isSome))] (by kernel_rfl) ?_
      refine OI_end rfl ?_
      refine X_then ?_
      refine V_seq ?_
      refine V_region ?_
      refine OI_static 2 [(5, .pointer (some ⟨b1, 0, none⟩)), (7, .int .i64 ((getC z.a z.b cs).getD 0)), (8, .bool ((getC z.a z.b cs).isSome)), (56, .pointer (some ⟨x, 0, none⟩)), (57, .pointer (some ⟨b1, 1, none⟩))] (by kernel_rfl) ?_
      refine OI_cell 3 (.tmp 57) 1 (.int .i64 z.a) (some 58) (by kernel_rfl) (by kernel_rfl) hb1 (m := 1) (by kernel_rfl) rfl ?_
      refine OI_static 4 [(7, .int .i64 ((getC z.a z.b cs).getD 0)), (8, .bool ((getC z.a z.b cs).isSome)), (56, .pointer (some ⟨x, 0, none⟩)), (58, .int .i64 z.a), (59, .pointer (some ⟨b1, 2, none⟩))] (by kernel_rfl) ?_
      refine OI_cell 3 (.tmp 59) 2 (.int .i64 z.b) (some 60) (by kernel_rfl) (by kernel_rfl) hb1 (m := 1) (by kernel_rfl) rfl ?_
      refine OI_call { callee := (Callee.value (Operand.func 39)), args := #[(Operand.tmp 56), (Operand.tmp 58), (Operand.tmp 60)], argTypes := #[46, 3, 3] } 39 #[.pointer (some ⟨x, 0, none⟩), .int .i64 z.a, .int .i64 z.b] (some 61) (by kernel_rfl) (by kernel_rfl) (by kernel_rfl) (rget_spec F2 x cs z.a z.b _ h2) ?_
      rintro _ w57 ⟨rfl, hk58⟩
      refine ⟨_, rfl, ?_⟩
      have hsz59 := Keep.size hk58
      replace hb1 := hb1.keep hk58 (fun f => f)
      have hb1lt := hb1.lt
      replace h1 := Grd.keep h1 hk58 (fun _ _ f => f)
      replace h2 := Rgd.keep h2 hk58 (fun _ _ f => f)
      replace hK0 := Keep.tr hK0 (Keep.ofNone hk58); have hzhK0 := Keep.size hK0
      refine OI_static 11 [(7, .int .i64 ((getC z.a z.b cs).getD 0)), (8, .bool ((getC z.a z.b cs).isSome)), (9, .int .i64 ((getC z.a z.b cs).getD 0)), (10, .bool ((getC z.a z.b cs).isSome))] (by kernel_rfl) ?_
      refine OI_end rfl ?_
      refine X_then ?_
      refine V_seq ?_
      refine V_region ?_
      refine OI_static 4 [(8, .bool ((getC z.a z.b cs).isSome)), (10, .bool ((getC z.a z.b cs).isSome)), (67, .bool (decide ((getC z.a z.b cs).getD 0 = (getC z.a z.b cs).getD 0)))] (by kernel_rfl) ?_
      refine OI_eq [(8, .bool ((getC z.a z.b cs).isSome)), (10, .bool ((getC z.a z.b cs).isSome)), (67, .bool true)] (by rw [decide_eq_true (rfl : (getC z.a z.b cs).getD 0 = (getC z.a z.b cs).getD 0)]) ?_
      refine OI_static 9 [(6, .bool (((getC z.a z.b cs).isSome) == ((getC z.a z.b cs).isSome)))] (by kernel_rfl) ?_
      refine OI_end rfl ?_
      refine X_then ?_
      refine V_ret ?_
      have hE : actC z cs = cs := by unfold actC; rw [if_neg hc3]; rw [if_neg hc24]
      rw [hE]
      exact X_return (.bool (((getC z.a z.b cs).isSome) == ((getC z.a z.b cs).isSome))) rfl ⟨by simp, ⟨F1, F2, h1, h2, hrF1, hrF2, hdis⟩, hK0⟩
end Go.Al
