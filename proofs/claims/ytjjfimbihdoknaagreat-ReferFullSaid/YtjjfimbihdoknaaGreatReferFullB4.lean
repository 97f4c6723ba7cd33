/-
  Put together out of 8 texts: Walks of package refer: what is read. Walks of package refer: all, and who waits. Walks of package refer: who waits. Walks of package refer: Submit. Walks of package refer: Deposit, Refund. Walks of package refer: begins. Walks of package refer: decides. Walks of package refer: ends, Cancel.
-/
import Derived.Test.YtjjfimbihdoknaaGreatReferFullB3
namespace Go.Al
open Go Go.RowKit Go.Proofs
set_option maxRecDepth 10000 in
theorem rget_spec (H : Nat → Prop) (r g : Nat) (ts : List Trk) (rs : List Rfm) (ref : Int) (w : World) (hR : Rfr H w r g ts rs) : Calls Tryz.prog 23 #[.pointer (some ⟨r, 0, none⟩), .int .i64 ref] w fun e w' => e = .returned (.tuple #[.agg (getA rs ref).cells.toArray, .bool (getR rs ref).isSome]) ∧ Keep none_ w w' := by
 have hHlt := Rfr.lt hR
 have hrH := Rfr.at_ hR
 have hgH := Rfr.atg hR
 have hrlt := hHlt _ hrH
 have hglt := hHlt _ hgH
 have hin := Rfr.inn hR
 obtain ⟨A, cap, hr, hA, hAo, hrg⟩ := Rfr.parts hR
 have hAlt := SlT.lt hA
 have hAr : ∀ q, inA A q → q ≠ r ∧ q ≠ g ∧ q < w.heap.size := fun q hq => ⟨(hAo q hq).2.1, (hAo q hq).2.2, hAlt q hq⟩
 have hgo : ∀ q, only g q → q ≠ r := fun q hq e => hrg (e.symm.trans hq)
 have hgl : ∀ q, only g q → q < w.heap.size := fun q hq => by rw [show q = g from hq]; exact hglt
 have hHo : ∀ q, H q → 0 ≤ q := fun q _ => Nat.zero_le q
 have htl := hin.tl
 have hrl := hin.rl
 have hK0 : Keep none_ w w := Keep.refl _ _
 have hzhK0 := Keep.size hK0
 refine enterM Tryz.func23 rfl [pt r, nt ref] 17 rfl rfl rfl ?_
 refine V_pick [(0, pt r), (1, nt ref)] rfl ?_
 refine V_seq ?_
 refine V_region ?_
 refine OI_alloc 57 (.agg (Rfm.cells Rfm.zero).toArray) (Rfm.cells Rfm.zero) (some 4) (by kernel_rfl) (by kernel_rfl) (by kernel_rfl) ?_
 intro b1 w1 e1 hb1 k1 z1
 have hsz2 := Keep.size k1
 replace hr := hr.keep k1 (fun f => f)
 replace hA := SlT.keep0 hA k1
 replace hR := Rfr.keep hR k1 (fun _ _ f => f)
 replace hK0 := Keep.tr hK0 (Keep.ofNone k1)
 have hb1lt := hb1.lt
 refine OI_static 2 [(0, pt r), (1, nt ref), (4, pt b1)] (by kernel_rfl) ?_
 refine OI_end rfl ?_
 refine X_then ?_
 refine V_seq ?_
 refine V_seq ?_
 refine V_region ?_
 refine OI_static 2 [(0, pt r), (1, nt ref), (4, pt b1), (7, .bool false)] (by kernel_rfl) ?_
 refine OI_end rfl ?_
 refine X_then ?_
 refine V_false rfl ?_
 refine V_skip ?_
 refine X_then ?_
 refine V_seq ?_
 refine V_region ?_
 refine OI_static 3 [(1, nt ref), (4, pt b1), (11, .pointer (some ⟨r, 1, none⟩))] (by kernel_rfl) ?_
 refine OI_cell 95 (.tmp 11) 1 (pt g) (some 12) (by kernel_rfl) (by kernel_rfl) hr (m := 1) (by kernel_rfl) rfl ?_
 refine OI_static 5 [(4, pt b1), (12, pt g), (13, nt ref)] (by kernel_rfl) ?_
 refine OI_call { callee := (Callee.value (Operand.func 53)), args := #[(Operand.tmp 12), (Operand.const (Value.int IntKind.i64 0)), (Operand.tmp 13)], argTypes := #[95, 3, 3] } 53 #[pt g, nt 0, nt ref] (some 14) (by kernel_rfl) (by kernel_rfl) (by kernel_rfl) (qget_spec H r g ts rs ref _ hR) ?_
 rintro _ w3 ⟨rfl, hk4⟩
 refine ⟨_, rfl, ?_⟩
 have hsz5 := Keep.size hk4
 replace hr := hr.keep hk4 (fun f => f)
 replace hb1 := hb1.keep hk4 (fun f => f)
 replace hA := SlT.keep0 hA hk4
 replace hR := Rfr.keep hR hk4 (fun _ _ f => f)
 replace hK0 := Keep.tr hK0 (Keep.ofNone hk4)
 refine OI_static 8 [(4, pt b1), (15, .agg (Rfm.cells (getA rs ref)).toArray), (16, .bool ((getR rs ref).isSome))] (by kernel_rfl) ?_
 refine OI_set (m := 45) (kd := true) 57 (.tmp 4) (.tmp 15) 0 (.agg (Rfm.cells (getA rs ref)).toArray) (Rfm.cells (getA rs ref)) none (by kernel_rfl) (by kernel_rfl) (by kernel_rfl) hb1 (by kernel_rfl) rfl (Rfm.len _) (Nat.le_of_ble_eq_true (by kernel_rfl)) (Rfm.one _) ?_
 intro w6 hb1_9 hk7 hz8
 replace hb1_9 : Blk w6 b1 (Rfm.cells (getA rs ref)) 57 := (Blk.eqL (Rfm.over _ _) hb1_9)
 have hsz10 := Keep.size hk7
 replace hr := hr.keep hk7 (by show ¬ (_ = _); omega)
 replace hA := SlT.keep hA hk7 (fun q hq hs => by have hs : q = b1 := hs; have g0 := hAr q hq; have g1 := hAlt q hq; omega)
 replace hR := Rfr.keep hR hk7 (fun q hq hs => by have hs : q = b1 := hs; have g0 := hHo q hq; have g1 := hHlt q hq; omega)
 replace hK0 := Keep.fresh hK0 hk7 (by intro i hi hs; first | exact hs | exact Or.inl hs | exact Or.inr hs | (exfalso; have hs2 : i = b1 := hs; omega))
 refine OI_static 10 [(4, pt b1), (5, .bool ((getR rs ref).isSome))] (by kernel_rfl) ?_
 refine OI_end rfl ?_
 refine X_then ?_
 refine V_ret ?_
 exact leave0 (.tuple #[.agg (Rfm.cells (getA rs ref)).toArray, .bool ((getR rs ref).isSome)]) (.inl rfl) (res_agg_tmp (m := 45) rfl rfl rfl (by kernel_rfl) hb1_9 rfl) ⟨rfl, hK0⟩

set_option maxRecDepth 10000 in
theorem rtrack_in (H : Nat → Prop) (r g : Nat) (ts : List Trk) (rs : List Rfm) (j : Nat) (w : World) (hR : Rfr H w r g ts rs) (hj : j < ts.length) : Calls Tryz.prog 29 #[.pointer (some ⟨r, 0, none⟩), .int .i64 (j : Int)] w fun e w' => e = .returned (.tuple #[.agg (trkA ts (j : Int)).cells.toArray, .bool (trkO ts (j : Int)).isSome]) ∧ Keep none_ w w' := by
 have hHlt := Rfr.lt hR
 have hrH := Rfr.at_ hR
 have hgH := Rfr.atg hR
 have hrlt := hHlt _ hrH
 have hglt := hHlt _ hgH
 have hin := Rfr.inn hR
 obtain ⟨A, cap, hr, hA, hAo, hrg⟩ := Rfr.parts hR
 have hAlt := SlT.lt hA
 have hAr : ∀ q, inA A q → q ≠ r ∧ q ≠ g ∧ q < w.heap.size := fun q hq => ⟨(hAo q hq).2.1, (hAo q hq).2.2, hAlt q hq⟩
 have hgo : ∀ q, only g q → q ≠ r := fun q hq e => hrg (e.symm.trans hq)
 have hgl : ∀ q, only g q → q < w.heap.size := fun q hq => by rw [show q = g from hq]; exact hglt
 have hHo : ∀ q, H q → 0 ≤ q := fun q _ => Nat.zero_le q
 have htl := hin.tl
 have hrl := hin.rl
 have hK0 : Keep none_ w w := Keep.refl _ _
 have hzhK0 := Keep.size hK0
 refine enterM Tryz.func29 rfl [pt r, nt ((j : Nat) : Int)] 29 rfl rfl rfl ?_
 refine V_pick [(0, pt r), (1, nt ((j : Nat) : Int))] rfl ?_
 refine V_seq ?_
 refine V_region ?_
 refine OI_alloc 27 (.agg (Trk.cells Trk.zero).toArray) (Trk.cells Trk.zero) (some 4) (by kernel_rfl) (by kernel_rfl) (by kernel_rfl) ?_
 intro b1 w1 e1 hb1 k1 z1
 have hsz2 := Keep.size k1
 replace hr := hr.keep k1 (fun f => f)
 replace hA := SlT.keep0 hA k1
 replace hR := Rfr.keep hR k1 (fun _ _ f => f)
 replace hK0 := Keep.tr hK0 (Keep.ofNone k1)
 have hb1lt := hb1.lt
 refine OI_static 2 [(0, pt r), (1, nt ((j : Nat) : Int)), (4, pt b1)] (by kernel_rfl) ?_
 refine OI_end rfl ?_
 refine X_then ?_
 refine V_seq ?_
 refine V_seq ?_
 refine V_region ?_
 refine OI_static 7 [(0, pt r), (1, nt ((j : Nat) : Int)), (4, pt b1), (12, .bool (decide (((j : Nat) : Int) < 0)))] (by kernel_rfl) ?_
 by_cases hg3 : ((j : Nat) : Int) < 0
 ·
  exact (by omega : False).elim
 ·
  refine OI_eq [(0, pt r), (1, nt ((j : Nat) : Int)), (4, pt b1), (12, .bool false)] (by first | simp [hg3] | rfl) ?_
  refine OI_static 11 [(0, pt r), (1, nt ((j : Nat) : Int)), (4, pt b1), (12, .bool false), (13, nt ((j : Nat) : Int)), (16, pt r)] (by kernel_rfl) ?_
  refine OI_cell 29 (.tmp 16) 0 (.slice A ts.length cap) (some 17) (by kernel_rfl) (by kernel_rfl) hr (m := 1) (by kernel_rfl) rfl ?_
  refine OI_static 15 [(0, pt r), (1, nt ((j : Nat) : Int)), (4, pt b1), (20, .bool (decide (((j : Nat) : Int) ≥ ((ts.length : Nat) : Int))))] (by kernel_rfl) ?_
  refine OI_end rfl ?_
  refine X_then ?_
  refine V_if (((j : Nat) : Int) ≥ ((ts.length : Nat) : Int)) (by kernel_rfl) (fun hc4 => ?_) (fun hc4 => ?_)
  ·
   exact (by omega : False).elim
  ·
   refine V_skip ?_
   refine X_then ?_
   refine V_seq ?_
   refine V_region ?_
   refine OI_static 3 [(1, nt ((j : Nat) : Int)), (4, pt b1), (24, pt r)] (by kernel_rfl) ?_
   refine OI_cell 29 (.tmp 24) 0 (.slice A ts.length cap) (some 25) (by kernel_rfl) (by kernel_rfl) hr (m := 1) (by kernel_rfl) rfl ?_
   refine OI_static 5 [(4, pt b1), (25, .slice A ts.length cap), (26, nt ((j : Nat) : Int))] (by kernel_rfl) ?_
   obtain ⟨b5, o5, L5, T5, rfl, hat5⟩ := SlT.open_ hA (by first | omega | (simp only [List.length_map]; omega) | (simp; done) | (simp; omega))
   have hb5lt := hat5.blk.lt
   have hob6 := hAr b5 ⟨_, rfl, rfl⟩
   have hob7 := hAlt b5 ⟨_, rfl, rfl⟩
   refine OI_pure (some 27) (.indexAddr 29 (.tmp 25) (.tmp 26)) (by kernel_rfl) (pure_idxN (b := b5) (o := o5) (len := ts.length) (cap := cap) (kd := .i64) (j := j) (E := 27) (sz := 18) (by_ := 144) (by kernel_rfl) (by kernel_rfl) (by kernel_rfl) (by omega)) ?_
   obtain ⟨x8, hx9⟩ : ∃ x, ts[j]? = some x := ⟨_, List.getElem?_eq_getElem (by first | omega | (simp only [List.length_map]; omega))⟩
   refine OI_agg 27 (.tmp 27) (o5 + j * 18) (Trk.cells x8) (some 28) (by kernel_rfl) (by kernel_rfl) hat5.blk (m := 18) (by kernel_rfl) (At.elem' hat5 (es_at hx9)) (At.len hat5 (es_at hx9)) ?_
   refine OI_set (m := 18) (kd := true) 27 (.tmp 4) (.tmp 28) 0 (.agg (Trk.cells x8).toArray) (Trk.cells x8) none (by kernel_rfl) (by kernel_rfl) (by kernel_rfl) hb1 (by kernel_rfl) rfl (Trk.len _) (Nat.le_of_ble_eq_true (by kernel_rfl)) (Trk.one _) ?_
   intro w10 hb1_13 hk11 hz12
   replace hb1_13 : Blk w10 b1 (Trk.cells x8) 27 := (Blk.eqL (Trk.over _ _) hb1_13)
   have hsz14 := Keep.size hk11
   replace hr := hr.keep hk11 (by show ¬ (_ = _); omega)
   replace hat5 := hat5.keep hk11 (by show ¬ (_ = _); omega)
   replace hR := Rfr.keep hR hk11 (fun q hq hs => by have hs : q = b1 := hs; have g0 := hHo q hq; have g1 := hHlt q hq; omega)
   replace hK0 := Keep.fresh hK0 hk11 (by intro i hi hs; first | exact hs | exact Or.inl hs | exact Or.inr hs | (exfalso; have hs2 : i = b1 := hs; omega))
   refine OI_static 9 [(4, pt b1), (5, .bool true)] (by kernel_rfl) ?_
   refine OI_end rfl ?_
   refine X_then ?_
   refine V_ret ?_
   exact leave0 (.tuple #[.agg (Trk.cells x8).toArray, .bool true]) (.inl rfl) (res_agg_tmp (m := 18) rfl rfl rfl (by kernel_rfl) hb1_13 rfl) ⟨by have e9 : trkO ts (j : Int) = some x8 := (by unfold trkO; rw [if_pos (by omega), Int.toNat_natCast]; exact hx9); unfold trkA; rw [e9]; rfl, hK0⟩

set_option maxRecDepth 10000 in
theorem rtrack_out (H : Nat → Prop) (r g : Nat) (ts : List Trk) (rs : List Rfm) (i : Int) (w : World) (hR : Rfr H w r g ts rs) (hi : ¬ (0 ≤ i ∧ i < ts.length)) : Calls Tryz.prog 29 #[.pointer (some ⟨r, 0, none⟩), .int .i64 i] w fun e w' => e = .returned (.tuple #[.agg (trkA ts i).cells.toArray, .bool (trkO ts i).isSome]) ∧ Keep none_ w w' := by
 have hHlt := Rfr.lt hR
 have hrH := Rfr.at_ hR
 have hgH := Rfr.atg hR
 have hrlt := hHlt _ hrH
 have hglt := hHlt _ hgH
 have hin := Rfr.inn hR
 obtain ⟨A, cap, hr, hA, hAo, hrg⟩ := Rfr.parts hR
 have hAlt := SlT.lt hA
 have hAr : ∀ q, inA A q → q ≠ r ∧ q ≠ g ∧ q < w.heap.size := fun q hq => ⟨(hAo q hq).2.1, (hAo q hq).2.2, hAlt q hq⟩
 have hgo : ∀ q, only g q → q ≠ r := fun q hq e => hrg (e.symm.trans hq)
 have hgl : ∀ q, only g q → q < w.heap.size := fun q hq => by rw [show q = g from hq]; exact hglt
 have hHo : ∀ q, H q → 0 ≤ q := fun q _ => Nat.zero_le q
 have htl := hin.tl
 have hrl := hin.rl
 have hK0 : Keep none_ w w := Keep.refl _ _
 have hzhK0 := Keep.size hK0
 refine enterM Tryz.func29 rfl [pt r, nt i] 29 rfl rfl rfl ?_
 refine V_pick [(0, pt r), (1, nt i)] rfl ?_
 refine V_seq ?_
 refine V_region ?_
 refine OI_alloc 27 (.agg (Trk.cells Trk.zero).toArray) (Trk.cells Trk.zero) (some 4) (by kernel_rfl) (by kernel_rfl) (by kernel_rfl) ?_
 intro b1 w1 e1 hb1 k1 z1
 have hsz2 := Keep.size k1
 replace hr := hr.keep k1 (fun f => f)
 replace hA := SlT.keep0 hA k1
 replace hR := Rfr.keep hR k1 (fun _ _ f => f)
 replace hK0 := Keep.tr hK0 (Keep.ofNone k1)
 have hb1lt := hb1.lt
 refine OI_static 2 [(0, pt r), (1, nt i), (4, pt b1)] (by kernel_rfl) ?_
 refine OI_end rfl ?_
 refine X_then ?_
 refine V_seq ?_
 refine V_seq ?_
 refine V_region ?_
 refine OI_static 7 [(0, pt r), (1, nt i), (4, pt b1), (12, .bool (decide (i < 0)))] (by kernel_rfl) ?_
 by_cases hg3 : i < 0
 ·
  refine OI_eq [(0, pt r), (1, nt i), (4, pt b1), (12, .bool true)] (by first | simp [hg3] | rfl) ?_
  refine OI_static 15 [(0, pt r), (1, nt i), (4, pt b1), (20, .bool true)] (by kernel_rfl) ?_
  refine OI_end rfl ?_
  refine X_then ?_
  refine V_true rfl ?_
  refine V_seq ?_
  refine V_region ?_
  refine OI_static 1 [(4, pt b1), (21, .agg (Trk.cells Trk.zero).toArray)] (by kernel_rfl) ?_
  refine OI_set (m := 18) (kd := true) 27 (.tmp 4) (.tmp 21) 0 (.agg (Trk.cells Trk.zero).toArray) (Trk.cells Trk.zero) none (by kernel_rfl) (by kernel_rfl) (by kernel_rfl) hb1 (by kernel_rfl) rfl (Trk.len _) (Nat.le_of_ble_eq_true (by kernel_rfl)) (Trk.one _) ?_
  intro w4 hb1_7 hk5 hz6
  replace hb1_7 : Blk w4 b1 (Trk.cells Trk.zero) 27 := (Blk.eqL (Trk.over _ _) hb1_7)
  have hsz8 := Keep.size hk5
  replace hr := hr.keep hk5 (by show ¬ (_ = _); omega)
  replace hA := SlT.keep hA hk5 (fun q hq hs => by have hs : q = b1 := hs; have g0 := hAr q hq; have g1 := hAlt q hq; omega)
  replace hR := Rfr.keep hR hk5 (fun q hq hs => by have hs : q = b1 := hs; have g0 := hHo q hq; have g1 := hHlt q hq; omega)
  replace hK0 := Keep.fresh hK0 hk5 (by intro i hi hs; first | exact hs | exact Or.inl hs | exact Or.inr hs | (exfalso; have hs2 : i = b1 := hs; omega))
  refine OI_static 3 [(4, pt b1), (5, .bool false)] (by kernel_rfl) ?_
  refine OI_end rfl ?_
  refine X_then ?_
  refine V_ret ?_
  refine X_ret_then ?_
  exact leave0 (.tuple #[.agg (Trk.cells Trk.zero).toArray, .bool false]) (.inl rfl) (res_agg_tmp (m := 18) rfl rfl rfl (by kernel_rfl) hb1_7 rfl) ⟨by have e9 : trkO ts i = none := if_neg hi; unfold trkA; rw [e9]; rfl, hK0⟩
 ·
  refine OI_eq [(0, pt r), (1, nt i), (4, pt b1), (12, .bool false)] (by first | simp [hg3] | rfl) ?_
  refine OI_static 11 [(0, pt r), (1, nt i), (4, pt b1), (12, .bool false), (13, nt i), (16, pt r)] (by kernel_rfl) ?_
  refine OI_cell 29 (.tmp 16) 0 (.slice A ts.length cap) (some 17) (by kernel_rfl) (by kernel_rfl) hr (m := 1) (by kernel_rfl) rfl ?_
  refine OI_static 15 [(0, pt r), (1, nt i), (4, pt b1), (20, .bool (decide (i ≥ ((ts.length : Nat) : Int))))] (by kernel_rfl) ?_
  refine OI_end rfl ?_
  refine X_then ?_
  refine V_if (i ≥ ((ts.length : Nat) : Int)) (by kernel_rfl) (fun hc9 => ?_) (fun hc9 => ?_)
  ·
   refine V_seq ?_
   refine V_region ?_
   refine OI_static 1 [(4, pt b1), (21, .agg (Trk.cells Trk.zero).toArray)] (by kernel_rfl) ?_
   refine OI_set (m := 18) (kd := true) 27 (.tmp 4) (.tmp 21) 0 (.agg (Trk.cells Trk.zero).toArray) (Trk.cells Trk.zero) none (by kernel_rfl) (by kernel_rfl) (by kernel_rfl) hb1 (by kernel_rfl) rfl (Trk.len _) (Nat.le_of_ble_eq_true (by kernel_rfl)) (Trk.one _) ?_
   intro w10 hb1_13 hk11 hz12
   replace hb1_13 : Blk w10 b1 (Trk.cells Trk.zero) 27 := (Blk.eqL (Trk.over _ _) hb1_13)
   have hsz14 := Keep.size hk11
   replace hr := hr.keep hk11 (by show ¬ (_ = _); omega)
   replace hA := SlT.keep hA hk11 (fun q hq hs => by have hs : q = b1 := hs; have g0 := hAr q hq; have g1 := hAlt q hq; omega)
   replace hR := Rfr.keep hR hk11 (fun q hq hs => by have hs : q = b1 := hs; have g0 := hHo q hq; have g1 := hHlt q hq; omega)
   replace hK0 := Keep.fresh hK0 hk11 (by intro i hi hs; first | exact hs | exact Or.inl hs | exact Or.inr hs | (exfalso; have hs2 : i = b1 := hs; omega))
   refine OI_static 3 [(4, pt b1), (5, .bool false)] (by kernel_rfl) ?_
   refine OI_end rfl ?_
   refine X_then ?_
   refine V_ret ?_
   refine X_ret_then ?_
   exact leave0 (.tuple #[.agg (Trk.cells Trk.zero).toArray, .bool false]) (.inl rfl) (res_agg_tmp (m := 18) rfl rfl rfl (by kernel_rfl) hb1_13 rfl) ⟨by have e9 : trkO ts i = none := if_neg hi; unfold trkA; rw [e9]; rfl, hK0⟩
  ·
   exact (by omega : False).elim

theorem rtrack_spec (H : Nat → Prop) (r g : Nat) (ts : List Trk) (rs : List Rfm) (i : Int) (w : World) (hR : Rfr H w r g ts rs) : Calls Tryz.prog 29 #[.pointer (some ⟨r, 0, none⟩), .int .i64 i] w fun e w' => e = .returned (.tuple #[.agg (trkA ts i).cells.toArray, .bool (trkO ts i).isSome]) ∧ Keep none_ w w' := by
  by_cases hi : 0 ≤ i ∧ i < ts.length
  · obtain ⟨j, rfl⟩ : ∃ j : Nat, i = j := ⟨i.toNat, by omega⟩
    exact rtrack_in H r g ts rs j w hR (by omega)
  · exact rtrack_out H r g ts rs i w hR hi

end Go.Al


namespace Go.Al
open Go Go.RowKit Go.Proofs
set_option maxRecDepth 10000 in
theorem all_at (r g n cap : Nat) (A : Option Addr) (w : World) (hr : Blk w r [.slice A n cap, .pointer (some ⟨g, 0, none⟩)] 97) : Calls Tryz.prog 48 #[pt r] w fun e w' => ∃ bg bs bn, e = .returned (.func (.func 183) #[] #[.pointer (some ⟨bg, 0, none⟩), .pointer (some ⟨bs, 0, none⟩), .pointer (some ⟨bn, 0, none⟩)]) ∧ Blk w' bg [.pointer (some ⟨g, 0, none⟩)] 95 ∧ Blk w' bs [.int .i64 0] 3 ∧ Blk w' bn [.int .i64 0] 3 ∧ Keep none_ w w' ∧ w.heap.size ≤ bg ∧ w.heap.size ≤ bs ∧ w.heap.size ≤ bn := by
 have hrlt := hr.lt
 have hK0 : Keep none_ w w := Keep.refl _ _
 have hzhK0 := Keep.size hK0
 refine enterV Tryz.func48 rfl [pt r] 11 rfl rfl rfl ?_
 refine V_pick [(0, pt r)] rfl ?_
 refine V_seq ?_
 refine V_region ?_
 refine OI_static 1 [(0, pt r)] (by kernel_rfl) ?_
 refine OI_end rfl ?_
 refine X_then ?_
 refine V_seq ?_
 refine V_seq ?_
 refine V_region ?_
 refine OI_static 2 [(0, pt r), (4, .bool false)] (by kernel_rfl) ?_
 refine OI_end rfl ?_
 refine X_then ?_
 refine V_false rfl ?_
 refine V_skip ?_
 refine X_then ?_
 refine V_seq ?_
 refine V_region ?_
 refine OI_static 3 [(8, .pointer (some ⟨r, 1, none⟩))] (by kernel_rfl) ?_
 refine OI_cell 95 (.tmp 8) 1 (pt g) (some 9) (by kernel_rfl) (by kernel_rfl) hr (m := 1) (by kernel_rfl) rfl ?_
 refine OI_call { callee := (Callee.value (Operand.func 102)), args := #[(Operand.tmp 9), (Operand.const (Value.int IntKind.i64 0))], argTypes := #[95, 3] } 102 #[pt g, nt 0] (some 10) (by kernel_rfl) (by kernel_rfl) (by kernel_rfl) (GQ.row_spec _ rfl 0 _) ?_
 rintro _ w1 ⟨bg3, bs4, bn5, rfl, hbg3, hbs4, hbn5, hk2, hgebg3, hgebs4, hgebn5⟩
 refine ⟨_, rfl, ?_⟩
 have hsz6 := Keep.size hk2
 replace hr := hr.keep hk2 (fun f => f)
 replace hK0 := Keep.tr hK0 (Keep.ofNone hk2)
 have hbg3lt := hbg3.lt
 have hbs4lt := hbs4.lt
 have hbn5lt := hbn5.lt
 refine OI_static 6 [(2, .func (.func 183) #[] #[pt bg3, pt bs4, pt bn5])] (by kernel_rfl) ?_
 refine OI_end rfl ?_
 refine X_then ?_
 refine V_ret ?_
 exact X_return _ rfl ⟨bg3, bs4, bn5, rfl, hbg3, hbs4, hbn5, hK0, by omega, by omega, by omega⟩

theorem zipQ_at0 {l : List Rfm} {k : Nat} {x : Rfm} (h : l[k]? = some x) : (zipQ 0 l)[k]? = some ((k : Int), x) := by
  have := zipQ_at l 0 k x h
  rw [Nat.zero_add] at this; exact this
theorem alongQ (bg bs bn g cap : Nat) (A : Option Addr) (rs : List Rfm) (hn : rs.length ≤ 1000) : Iter2 Tryz.prog 183 #[.pointer (some ⟨bg, 0, none⟩), .pointer (some ⟨bs, 0, none⟩), .pointer (some ⟨bn, 0, none⟩)] rs.length (GQ.enc2 (zipQ 0 rs)) (fun W => Blk W bg [pt g] 95 ∧ GQ.GrAt W g A cap (cellsQ 0 rs) ∧ GQ.AlOk bs bn 0 0 A cap (cellsQ 0 rs) W) (GQ.AlOk bs bn 0 0 A cap (cellsQ 0 rs)) := by
  have h := GQ.along1_iter0 bg bs bn g cap A (cellsQ 0 rs) 0 (by rw [cellsQ_len]; omega)
  rw [rowQ, zipQ_len] at h
  exact h
section
variable {ts : List Trk} {rs : List Rfm} {of now : Int} {x : Rfm} {k : Nat}
theorem wait_skip (h : x.state ≠ 1 ∨ x.track ≠ of) : waitB ts of now x = false ∧ decB of x = false := by
  unfold waitB decB
  rcases h with h | h
  · rw [decide_eq_true h]; exact ⟨rfl, rfl⟩
  · rw [decide_eq_true h, Bool.or_true]; exact ⟨rfl, rfl⟩
theorem wait_pre (h1 : x.state = 1) (h2 : x.track = of) : (!(decide (x.state ≠ 1) || decide (x.track ≠ of))) = true := by
  rw [decide_eq_false (fun h => h h1), decide_eq_false (fun h => h h2)]; rfl
theorem wait_dec (h1 : x.state = 1) (h2 : x.track = of) (h3 : ¬ x.since = -1) : waitB ts of now x = false ∧ decB of x = true := by
  unfold waitB decB
  rw [wait_pre h1 h2, decide_eq_false h3, decide_eq_true (show x.since ≠ -1 from h3)]; exact ⟨rfl, rfl⟩
theorem wait_no (h1 : x.state = 1) (h2 : x.track = of) (h3 : x.since = -1) (h4 : x.backer = -1 ∨ ¬ w64 (now - x.sub) ≥ (trkA ts of).prepare) : waitB ts of now x = false ∧ decB of x = false := by
  unfold waitB decB
  rw [wait_pre h1 h2, decide_eq_true h3, decide_eq_false (show ¬ (x.since ≠ -1) from fun h => h h3)]
  refine ⟨?_, rfl⟩
  rcases h4 with h | h
  · rw [decide_eq_false (show ¬ (x.backer ≠ -1) from fun h9 => h9 h)]; rfl
  · rw [decide_eq_false h]; cases decide (x.backer ≠ -1) <;> rfl
theorem wait_yes (h1 : x.state = 1) (h2 : x.track = of) (h3 : x.since = -1) (h4 : ¬ x.backer = -1) (h5 : w64 (now - x.sub) ≥ (trkA ts of).prepare) : waitB ts of now x = true ∧ decB of x = false := by
  unfold waitB decB
  rw [wait_pre h1 h2, decide_eq_true h3, decide_eq_false (show ¬ (x.since ≠ -1) from fun h => h h3), decide_eq_true (show x.backer ≠ -1 from h4), decide_eq_true h5]
  exact ⟨rfl, rfl⟩
theorem waitL_app : ∀ (l : List Rfm) (i : Nat) (x : Rfm), waitL ts of now i (l ++ [x]) = waitL ts of now i l ++ (if waitB ts of now x = true then [((i + l.length : Nat) : Int)] else [])
  | [], i, x => by
    simp only [List.nil_append, waitL, List.length_nil, Nat.add_zero]
  | y :: l, i, x => by
    simp only [List.cons_append, waitL, waitL_app l (i + 1) x, List.length_cons]
    rw [show i + 1 + l.length = i + (l.length + 1) by omega]
    split <;> rfl
theorem waitL_step (h : rs[k]? = some x) : waitL ts of now 0 (rs.take (k + 1)) = waitL ts of now 0 (rs.take k) ++ (if waitB ts of now x = true then [(k : Int)] else []) := by
  obtain ⟨h1, rfl⟩ := List.getElem?_eq_some_iff.1 h
  rw [List.take_succ_eq_append_getElem h1, waitL_app, List.length_take, Nat.min_eq_left (by omega), Nat.zero_add]
theorem decN_app : ∀ (l : List Rfm) (x : Rfm), decN of (l ++ [x]) = decN of l + (if decB of x = true then 1 else 0)
  | [], x => by simp only [List.nil_append, decN]; omega
  | y :: l, x => by simp only [List.cons_append, decN, decN_app l x]; omega
theorem decN_step (h : rs[k]? = some x) : decN of (rs.take (k + 1)) = decN of (rs.take k) + (if decB of x = true then 1 else 0) := by
  obtain ⟨h1, rfl⟩ := List.getElem?_eq_some_iff.1 h
  rw [List.take_succ_eq_append_getElem h1, decN_app]
theorem waitL_len : ∀ (l : List Rfm) (i : Nat), (waitL ts of now i l).length ≤ l.length
  | [], _ => Nat.le_refl _
  | y :: l, i => by
    have := waitL_len l (i + 1)
    simp only [waitL]
    split <;> simp only [List.length_cons] <;> omega
theorem waitL_mem {z : Int} : ∀ {l : List Rfm} {i : Nat}, z ∈ waitL ts of now i l → (i : Int) ≤ z ∧ z < ((i + l.length : Nat) : Int)
  | [], _, h => by cases h
  | y :: l, i, h => by
    simp only [waitL] at h
    simp only [List.length_cons]
    split at h
    · rcases List.mem_cons.1 h with rfl | h
      · omega
      · have := waitL_mem h; omega
    · have := waitL_mem h; omega
theorem decN_bnd : ∀ l : List Rfm, 0 ≤ decN of l ∧ decN of l ≤ l.length
  | [] => ⟨Int.le_refl _, Int.le_refl _⟩
  | y :: l => by
    have := decN_bnd l
    simp only [decN, List.length_cons]
    split <;> omega
end

set_option maxRecDepth 10000 in
theorem waits1_spec (bv : Nat) (F : Nat → Prop) (v : Nat) (s : VS) (a b : Int) (w : World) (hbv : Blk w bv [.pointer (some ⟨v, 0, none⟩)] 33) (hV : VotT F w v s) : Calls Tryz.prog 152 #[.int .i64 a, .int .i64 b, .pointer (some ⟨bv, 0, none⟩)] w fun e w' => e = .returned (.int .i64 (cmpI (tallyT s b).a (tallyT s a).a)) ∧ Keep none_ w w' := by
 have hFlt := VotT.lt hV
 have hbvlt := hbv.lt
 have hK0 : Keep none_ w w := Keep.refl _ _
 have hzhK0 := Keep.size hK0
 refine enterV Tryz.func152 rfl [nt a, nt b, pt bv] 15 rfl rfl rfl ?_
 refine V_pick [(0, nt a), (1, nt b), (2, pt bv)] rfl ?_
 refine V_seq ?_
 refine V_region ?_
 refine OI_static 1 [(0, nt a), (1, nt b), (2, pt bv)] (by kernel_rfl) ?_
 refine OI_end rfl ?_
 refine X_then ?_
 refine V_seq ?_
 refine V_draws (acts [2, 6, 8]) none_ [[0, 1, 2, 4, 5, 6, 3, 7, 8, 9]] (by kernel_rfl) (by repeat first | exact sure_body (by rintro _ _ ⟨h, _⟩; exact ⟨_, h⟩) | refine sure_then ?_ | refine sure_block ?_ | refine sure_join ?_) (by kernel_rfl) ?_
 intro w2 hk1 he3 L hL4
 have hsz5 := Keep.size hk1
 replace hbv := hbv.keep hk1 (fun f => f)
 replace hV := VotT.keep hV hk1 (fun _ _ f => f)
 replace hK0 := Keep.tr hK0 (Keep.ofNone hk1)
 have qhbv := hbv
 have K6 : Keep none_ w2 w2 := Keep.refl _ _
 obtain rfl := List.mem_singleton.1 hL4
 refine GI_cell 33 (.tmp 2) 0 (pt v) (some 6) (by kernel_rfl) (by kernel_rfl) (by kernel_rfl) qhbv (fun f => f) (m := 1) (by kernel_rfl) rfl ?_
 refine GI_static [2, 4, 5, 6, 3, 7, 8, 9] [(0, nt a), (2, pt bv), (6, pt v), (7, nt b)] (by kernel_rfl) ?_
 refine GI_call { callee := (Callee.value (Operand.func 32)), args := #[(Operand.tmp 6), (Operand.tmp 7)], argTypes := #[33, 3] } 32 #[pt v, nt b] (some 8) (by kernel_rfl) (by kernel_rfl) (by kernel_rfl) (by kernel_rfl) (tally_spec F v s b _ (hV).1) ?_
 rintro _ w7 ⟨rfl, hk8⟩
 have K9 := K6.tr (Keep.ofNone hk8)
 refine ⟨_, rfl, K9, ?_⟩
 have hzK9 := Keep.size K9
 have hsz10 := Keep.size hk8
 replace hbv := hbv.keep hk8 (fun f => f)
 replace hV := VotT.keep hV hk8 (fun _ _ f => f)
 replace hK0 := Keep.tr hK0 (Keep.ofNone hk8)
 refine GI_cell 33 (.tmp 2) 0 (pt v) (some 10) (by kernel_rfl) (by kernel_rfl) (by kernel_rfl) qhbv (fun f => f) (m := 1) (by kernel_rfl) rfl ?_
 refine GI_static [6, 3, 7, 8, 9] [(8, .agg (Tly.cells (tallyT s b)).toArray), (10, pt v), (11, nt a)] (by kernel_rfl) ?_
 refine GI_call0 { callee := (Callee.value (Operand.func 32)), args := #[(Operand.tmp 10), (Operand.tmp 11)], argTypes := #[33, 3] } 32 #[pt v, nt a] (some 12) (by kernel_rfl) (by kernel_rfl) (by kernel_rfl) (by kernel_rfl) (by kernel_rfl) (tally_spec F v s a _ (hV).1) ?_
 rintro _ w11 ⟨rfl, hk12⟩
 refine ⟨_, rfl, ?_⟩
 have hsz13 := Keep.size hk12
 replace hbv := hbv.keep hk12 (fun f => f)
 replace hV := VotT.keep hV hk12 (fun _ _ f => f)
 replace hK0 := Keep.tr hK0 (Keep.ofNone hk12)
 refine GI_static [8, 9] [(9, nt ((tallyT s b).a)), (13, nt ((tallyT s a).a))] (by kernel_rfl) ?_
 refine GI_call0 { callee := (Callee.value (Operand.func 147)), args := #[(Operand.tmp 9), (Operand.tmp 13)], argTypes := #[3, 3] } 147 #[nt ((tallyT s b).a), nt ((tallyT s a).a)] (some 14) (by kernel_rfl) (by kernel_rfl) (by kernel_rfl) (by kernel_rfl) (by kernel_rfl) (compare_spec ((tallyT s b).a) ((tallyT s a).a) _) ?_
 rintro _ w11 ⟨rfl, rfl⟩
 refine ⟨_, rfl, ?_⟩
 refine GI_static [] [(5, nt (cmpI ((tallyT s b).a) ((tallyT s a).a)))] (by kernel_rfl) ?_
 refine GI_end ?_
 refine X_then ?_
 refine V_ret ?_
 exact X_return (nt (cmpI ((tallyT s b).a) ((tallyT s a).a))) rfl ⟨rfl, hK0⟩
end Go.Al


namespace Go.Al
open Go Go.RowKit Go.Proofs
set_option maxRecDepth 10000 in
set_option maxHeartbeats 2000000 in
theorem waits_spec (H : Nat → Prop) (r g : Nat) (ts : List Trk) (rs : List Rfm) (F : Nat → Prop) (v : Nat) (s : VS) (j : Nat) (now : Int) (w : World) (hR : Rfr H w r g ts rs) (hV : VotT F w v s) (hHF : ∀ q, H q → ¬ F q) (hj : j < ts.length) : Calls Tryz.prog 103 #[.pointer (some ⟨r, 0, none⟩), .pointer (some ⟨v, 0, none⟩), .int .i64 (j : Int), .int .i64 now] w fun e w' => ∃ A' cap', e = .returned (.tuple #[.slice A' (waitL ts (j : Int) now 0 rs).length cap', .int .i64 (decN (j : Int) rs)]) ∧ SlT w' 1 intc A' cap' (sortD (fun r => (tallyT s r).a) (waitL ts (j : Int) now 0 rs)) ∧ (∀ q, inA A' q → w.heap.size ≤ q) ∧ Keep none_ w w' := by
 have hHlt := Rfr.lt hR
 have hrH := Rfr.at_ hR
 have hgH := Rfr.atg hR
 have hrlt := hHlt _ hrH
 have hglt := hHlt _ hgH
 have hin := Rfr.inn hR
 obtain ⟨A, cap, hr, hA, hAo, hrg⟩ := Rfr.parts hR
 have hAlt := SlT.lt hA
 have hAr : ∀ q, inA A q → q ≠ r ∧ q ≠ g ∧ q < w.heap.size := fun q hq => ⟨(hAo q hq).2.1, (hAo q hq).2.2, hAlt q hq⟩
 have hgo : ∀ q, only g q → q ≠ r ∧ q = g := fun q hq => ⟨fun e => hrg (e.symm.trans hq), hq⟩
 have hgl : ∀ q, only g q → q < w.heap.size := fun q hq => by rw [show q = g from hq]; exact hglt
 have hHo : ∀ q, H q → 0 ≤ q := fun q _ => Nat.zero_le q
 have htl := hin.tl
 have hrl := hin.rl
 have hFlt := VotT.lt hV
 have hvlt := hFlt _ (VotT.at_ hV)
 have hVr : ∀ q, F q → q ≠ r := fun q hq e => hHF r hrH (e ▸ hq)
 obtain ⟨j9, hjj, _, htk, htm⟩ := trkA_at (ts := ts) (i := (j : Int)) (by omega)
 rw [show j9 = j by omega] at htk
 have hK0 : Keep none_ w w := Keep.refl _ _
 have hzhK0 := Keep.size hK0
 refine enterM Tryz.func103 rfl [pt r, pt v, nt ((j : Nat) : Int), nt now] 62 rfl rfl rfl ?_
 refine V_pick [(0, pt r), (1, pt v), (2, nt ((j : Nat) : Int)), (3, nt now)] rfl ?_
 refine V_seq ?_
 refine V_region ?_
 refine OI_box 34 (.tmp 0) (pt r) [pt r] (some 4) (by kernel_rfl) (by kernel_rfl) (by kernel_rfl) ?_
 intro b1 w1 e1 hb1 k1 z1
 have hsz2 := Keep.size k1
 replace hr := hr.keep k1 (fun f => f)
 replace hA := SlT.keep0 hA k1
 replace hR := Rfr.keep hR k1 (fun _ _ f => f)
 replace hV := VotT.keep hV k1 (fun _ _ f => f)
 replace hK0 := Keep.tr hK0 (Keep.ofNone k1)
 have hb1lt := hb1.lt
 refine OI_box 33 (.tmp 1) (pt v) [pt v] (some 5) (by kernel_rfl) (by kernel_rfl) (by kernel_rfl) ?_
 intro b3 w3 e3 hb3 k3 z3
 have hsz4 := Keep.size k3
 replace hr := hr.keep k3 (fun f => f)
 replace hb1 := hb1.keep k3 (fun f => f)
 replace hA := SlT.keep0 hA k3
 replace hR := Rfr.keep hR k3 (fun _ _ f => f)
 replace hV := VotT.keep hV k3 (fun _ _ f => f)
 replace hK0 := Keep.tr hK0 (Keep.ofNone k3)
 have hb3lt := hb3.lt
 refine OI_box 3 (.tmp 2) (nt ((j : Nat) : Int)) [nt ((j : Nat) : Int)] (some 6) (by kernel_rfl) (by kernel_rfl) (by kernel_rfl) ?_
 intro b5 w5 e5 hb5 k5 z5
 have hsz6 := Keep.size k5
 replace hr := hr.keep k5 (fun f => f)
 replace hb1 := hb1.keep k5 (fun f => f)
 replace hb3 := hb3.keep k5 (fun f => f)
 replace hA := SlT.keep0 hA k5
 replace hR := Rfr.keep hR k5 (fun _ _ f => f)
 replace hV := VotT.keep hV k5 (fun _ _ f => f)
 replace hK0 := Keep.tr hK0 (Keep.ofNone k5)
 have hb5lt := hb5.lt
 refine OI_box 3 (.tmp 3) (nt now) [nt now] (some 7) (by kernel_rfl) (by kernel_rfl) (by kernel_rfl) ?_
 intro b7 w7 e7 hb7 k7 z7
 have hsz8 := Keep.size k7
 replace hr := hr.keep k7 (fun f => f)
 replace hb1 := hb1.keep k7 (fun f => f)
 replace hb3 := hb3.keep k7 (fun f => f)
 replace hb5 := hb5.keep k7 (fun f => f)
 replace hA := SlT.keep0 hA k7
 replace hR := Rfr.keep hR k7 (fun _ _ f => f)
 replace hV := VotT.keep hV k7 (fun _ _ f => f)
 replace hK0 := Keep.tr hK0 (Keep.ofNone k7)
 have hb7lt := hb7.lt
 refine OI_static 6 [(4, pt b1), (5, pt b3), (6, pt b5), (7, pt b7), (8, .slice none 0 0), (9, nt 0)] (by kernel_rfl) ?_
 refine OI_end rfl ?_
 refine X_then ?_
 refine V_seq ?_
 refine V_region ?_
 refine OI_alloc 72 (.slice none 0 0) [.slice none 0 0] (some 10) (by kernel_rfl) (by kernel_rfl) (by kernel_rfl) ?_
 intro b9 w9 e9 hb9 k9 z9
 have hsz10 := Keep.size k9
 replace hr := hr.keep k9 (fun f => f)
 replace hb1 := hb1.keep k9 (fun f => f)
 replace hb3 := hb3.keep k9 (fun f => f)
 replace hb5 := hb5.keep k9 (fun f => f)
 replace hb7 := hb7.keep k9 (fun f => f)
 replace hA := SlT.keep0 hA k9
 replace hR := Rfr.keep hR k9 (fun _ _ f => f)
 replace hV := VotT.keep hV k9 (fun _ _ f => f)
 replace hK0 := Keep.tr hK0 (Keep.ofNone k9)
 have hb9lt := hb9.lt
 refine OI_end rfl ?_
 refine X_then ?_
 refine V_seq ?_
 refine V_region ?_
 refine OI_alloc 3 (nt 0) [nt 0] (some 11) (by kernel_rfl) (by kernel_rfl) (by kernel_rfl) ?_
 intro b11 w11 e11 hb11 k11 z11
 have hsz12 := Keep.size k11
 replace hr := hr.keep k11 (fun f => f)
 replace hb1 := hb1.keep k11 (fun f => f)
 replace hb3 := hb3.keep k11 (fun f => f)
 replace hb5 := hb5.keep k11 (fun f => f)
 replace hb7 := hb7.keep k11 (fun f => f)
 replace hb9 := hb9.keep k11 (fun f => f)
 replace hA := SlT.keep0 hA k11
 replace hR := Rfr.keep hR k11 (fun _ _ f => f)
 replace hV := VotT.keep hV k11 (fun _ _ f => f)
 replace hK0 := Keep.tr hK0 (Keep.ofNone k11)
 have hb11lt := hb11.lt
 refine OI_set (m := 1) (kd := false) 3 (.tmp 11) (.const (Value.int IntKind.i64 0)) 0 (nt 0) [nt 0] none (by kernel_rfl) (by kernel_rfl) (by kernel_rfl) hb11 (by kernel_rfl) (by kernel_rfl) (by kernel_rfl) (Nat.le_of_ble_eq_true (by kernel_rfl)) (by simp [Value.oneCell']) ?_
 intro w13 hb11_16 hk14 hz15
 replace hb11_16 : Blk w13 b11 [nt 0] 3 := hb11_16
 have hsz17 := Keep.size hk14
 replace hr := hr.keep hk14 (by show ¬ (_ = _); omega)
 replace hb1 := hb1.keep hk14 (by show ¬ (_ = _); omega)
 replace hb3 := hb3.keep hk14 (by show ¬ (_ = _); omega)
 replace hb5 := hb5.keep hk14 (by show ¬ (_ = _); omega)
 replace hb7 := hb7.keep hk14 (by show ¬ (_ = _); omega)
 replace hb9 := hb9.keep hk14 (by show ¬ (_ = _); omega)
 replace hA := SlT.keep hA hk14 (fun q hq hs => by have hs : q = b11 := hs; have g0 := hAr q hq; have g1 := hAlt q hq; omega)
 replace hR := Rfr.keep hR hk14 (fun q hq hs => by have hs : q = b11 := hs; have g0 := hHo q hq; have g1 := hHlt q hq; omega)
 replace hV := VotT.keep hV hk14 (fun q hq hs => by have hs : q = b11 := hs; have g0 := hVr q hq; have g1 := hFlt q hq; omega)
 replace hK0 := Keep.fresh hK0 hk14 (by intro i hi hs; first | exact hs | exact Or.inl hs | exact Or.inr hs | (exfalso; have hs2 : i = b11 := hs; omega))
 refine OI_end rfl ?_
 refine X_then ?_
 refine V_seq ?_
 refine V_seq ?_
 refine V_region ?_
 refine OI_cell 34 (.tmp 4) 0 (pt r) (some 14) (by kernel_rfl) (by kernel_rfl) hb1 (m := 1) (by kernel_rfl) rfl ?_
 refine OI_call { callee := (Callee.value (Operand.func 48)), args := #[(Operand.tmp 14)], argTypes := #[34] } 48 #[pt r] (some 15) (by kernel_rfl) (by kernel_rfl) (by kernel_rfl) (all_at r g _ _ _ _ hr) ?_
 rintro _ w20 ⟨bg22, bs23, bn24, rfl, hbg22, hbs23, hbn24, hk21, hgebg22, hgebs23, hgebn24⟩
 refine ⟨_, rfl, ?_⟩
 have hsz25 := Keep.size hk21
 replace hr := hr.keep hk21 (fun f => f)
 replace hb1 := hb1.keep hk21 (fun f => f)
 replace hb3 := hb3.keep hk21 (fun f => f)
 replace hb5 := hb5.keep hk21 (fun f => f)
 replace hb7 := hb7.keep hk21 (fun f => f)
 replace hb9 := hb9.keep hk21 (fun f => f)
 replace hb11_16 := hb11_16.keep hk21 (fun f => f)
 replace hA := SlT.keep0 hA hk21
 replace hR := Rfr.keep hR hk21 (fun _ _ f => f)
 replace hV := VotT.keep hV hk21 (fun _ _ f => f)
 replace hK0 := Keep.tr hK0 (Keep.ofNone hk21)
 have hbg22lt := hbg22.lt
 have hbs23lt := hbs23.lt
 have hbn24lt := hbn24.lt
 refine OI_end rfl ?_
 refine X_then ?_
 refine V_block ?_
 obtain ⟨D, hD9, hDH⟩ := Rfr.grqF hR
 obtain ⟨_, _, _, _, A2, cap2, hat2, hAD2⟩ := hD9
 have hA2 := hat2.sl
 have owA2 : ∀ q, inA A2 q → q < w.heap.size := fun q hq => hHlt q (hDH q (hAD2 q hq))
 refine V_pick [(4, pt b1), (5, pt b3), (6, pt b5), (7, pt b7), (10, pt b9), (11, pt b11), (15, .func (.func 183) #[] #[pt bg22, pt bs23, pt bn24])] rfl ?_
 have hN0 : w.heap.size ≤ w20.heap.size := Keep.size hK0
 refine V_range2 (gf := 183) (caps := #[pt bg22, pt bs23, pt bn24]) (m := rs.length) (by kernel_rfl) (by kernel_rfl) (by kernel_rfl) (alongQ bg22 bs23 bn24 g cap2 A2 rs (by omega)) (⟨hbg22, hat2, ⟨hbs23, hbn24, hA2⟩⟩) (fun W W' h k => ⟨h.1.quiet k, h.2.1.quiet k, h.2.2.quiet k⟩) (GQ.enc2_size _) (fun M1 k W => ∃ Ak : Option Addr, ∃ capk : Nat, (Blk W r [.slice A ts.length cap, pt g] 97) ∧ (Blk W b1 [pt r] 34) ∧ (Blk W b3 [pt v] 33) ∧ (Blk W b5 [nt ((j : Nat) : Int)] 3) ∧ (Blk W b7 [nt now] 3) ∧ (Blk W bs23 [nt 0] 3) ∧ (Blk W bn24 [nt 0] 3) ∧ (SlT W 18 Trk.cells A cap ts) ∧ (SlT W 47 GQ.Ci.cells A2 cap2 (cellsQ 0 rs)) ∧ (VotT F W v s) ∧ (Keep none_ w W) ∧ (Blk W b9 [.slice Ak ((waitL ts ((j : Nat) : Int) now 0 (rs.take k)).length) capk] 72) ∧ (Blk W b11 [nt (decN ((j : Nat) : Int) (rs.take k))] 3) ∧ (SlT W 1 intc Ak capk (waitL ts ((j : Nat) : Int) now 0 (rs.take k))) ∧ (∀ q, inA Ak q → M1 ≤ q)) (fun M1 c k W => False) (fun M1 k W W' h hk => by obtain ⟨Ak, capk, jr, jb1, jb3, jb5, jb7, jbs23, jbn24, jA, jA2, jhV, jhK0, jb9, jb11, jAk, ownk⟩ := h; exact ⟨Ak, capk, jr.quiet hk, jb1.quiet hk, jb3.quiet hk, jb5.quiet hk, jb7.quiet hk, jbs23.quiet hk, jbn24.quiet hk, jA.quiet hk, jA2.quiet hk, VotT.quiet jhV hk, jhK0.quiet hk (by omega), jb9.quiet hk, jb11.quiet hk, jAk.quiet hk, ownk⟩) (fun _ _ _ _ _ h _ => h.elim) (fun M1 hM1 => ⟨none, 0, hr, hb1, hb3, hb5, hb7, hbs23, hbn24, hA, hA2, hV, hK0, hb9, hb11_16, SlT.nil _ _ _, fun q h => (inA_none h).elim⟩) (fun M1 k W h => by obtain ⟨Ak, capk, jr, jb1, jb3, jb5, jb7, jbs23, jbn24, jA, jA2, jhV, jhK0, jb9, jb11, jAk, ownk⟩ := h; exact ⟨jbs23, jbn24, jA2⟩) ?_ ?_ (fun _ _ _ _ _ _ _ _ h _ => h.elim)
 ·
  intro lp D M1 k W hD hl hM hMW hkm ⟨Ak, capk, jr, jb1, jb3, jb5, jb7, jbs23, jbn24, jA, jA2, jhV, jhK0, jb9, jb11, jAk, ownk⟩ ⟨rr, hrr⟩ hDD
  have hzjhK0 := Keep.size jhK0
  have hrlt := jr.lt
  have hb1lt := jb1.lt
  have hb3lt := jb3.lt
  have hb5lt := jb5.lt
  have hb7lt := jb7.lt
  have hb9lt := jb9.lt
  have hb11lt := jb11.lt
  have hbs23lt := jbs23.lt
  have hbn24lt := jbn24.lt
  have ltjA := SlT.lt jA
  have ltjA2 := SlT.lt jA2
  have ltjAk := SlT.lt jAk
  obtain ⟨x, hx⟩ : ∃ x, rs[k]? = some x := ⟨_, List.getElem?_eq_getElem (by omega)⟩
  rw [GQ.enc2_at (zipQ_at0 hx)]
  have hst1 := waitL_step (ts := ts) (of := ((j : Nat) : Int)) (now := now) hx
  have hst2 := decN_step (of := ((j : Nat) : Int)) hx
  have hwl : (waitL ts ((j : Nat) : Int) now 0 (rs.take k)).length ≤ 12 := Nat.le_trans (waitL_len _ 0) (by rw [List.length_take]; omega)
  have hdn := decN_bnd (of := ((j : Nat) : Int)) (rs.take k)
  have hdl : (rs.take k).length ≤ 12 := by rw [List.length_take]; omega
  refine V_pick [(4, pt b1), (6, pt b5), (7, pt b7), (10, pt b9), (11, pt b11), (16, nt ((k : Nat) : Int)), (17, .agg (Rfm.cells x).toArray)] rfl ?_
  have hfen : Keep (fen w20.heap.size M1) W W := Keep.refl _ _
  have hzhfen := Keep.size hfen
  refine V_seq ?_
  refine V_region ?_
  refine OI_static 1 [(4, pt b1), (6, pt b5), (7, pt b7), (10, pt b9), (11, pt b11), (12, nt ((k : Nat) : Int)), (17, .agg (Rfm.cells x).toArray)] (by kernel_rfl) ?_
  refine OI_end rfl ?_
  refine X_then ?_
  refine V_region ?_
  refine OI_alloc 57 (.agg (Rfm.cells Rfm.zero).toArray) (Rfm.cells Rfm.zero) (some 13) (by kernel_rfl) (by kernel_rfl) (by kernel_rfl) ?_
  intro b26 w26 e26 hb26 k26 z26
  have hsz27 := Keep.size k26
  replace jr := jr.keep k26 (fun f => f)
  replace jb1 := jb1.keep k26 (fun f => f)
  replace jb3 := jb3.keep k26 (fun f => f)
  replace jb5 := jb5.keep k26 (fun f => f)
  replace jb7 := jb7.keep k26 (fun f => f)
  replace jb9 := jb9.keep k26 (fun f => f)
  replace jb11 := jb11.keep k26 (fun f => f)
  replace jbs23 := jbs23.keep k26 (fun f => f)
  replace jbn24 := jbn24.keep k26 (fun f => f)
  replace jA := SlT.keep0 jA k26
  replace jA2 := SlT.keep0 jA2 k26
  replace jAk := SlT.keep0 jAk k26
  replace jhV := VotT.keep jhV k26 (fun _ _ f => f)
  replace jhK0 := Keep.tr jhK0 (Keep.ofNone k26)
  replace hfen := Keep.tr hfen (Keep.ofNone k26)
  have hb26lt := hb26.lt
  refine OI_set (m := 45) (kd := true) 57 (.tmp 13) (.tmp 17) 0 (.agg (Rfm.cells x).toArray) (Rfm.cells x) none (by kernel_rfl) (by kernel_rfl) (by kernel_rfl) hb26 (by kernel_rfl) rfl (Rfm.len _) (Nat.le_of_ble_eq_true (by kernel_rfl)) (Rfm.one _) ?_
  intro w28 hb26_31 hk29 hz30
  replace hb26_31 : Blk w28 b26 (Rfm.cells x) 57 := (Blk.eqL (Rfm.over _ _) hb26_31)
  have hsz32 := Keep.size hk29
  replace jr := jr.keep hk29 (by show ¬ (_ = _); omega)
  replace jb1 := jb1.keep hk29 (by show ¬ (_ = _); omega)
  replace jb3 := jb3.keep hk29 (by show ¬ (_ = _); omega)
  replace jb5 := jb5.keep hk29 (by show ¬ (_ = _); omega)
  replace jb7 := jb7.keep hk29 (by show ¬ (_ = _); omega)
  replace jb9 := jb9.keep hk29 (by show ¬ (_ = _); omega)
  replace jb11 := jb11.keep hk29 (by show ¬ (_ = _); omega)
  replace jbs23 := jbs23.keep hk29 (by show ¬ (_ = _); omega)
  replace jbn24 := jbn24.keep hk29 (by show ¬ (_ = _); omega)
  replace jA := SlT.keep jA hk29 (fun q hq hs => by have hs : q = b26 := hs; have g0 := hAr q hq; have g1 := ltjA q hq; omega)
  replace jA2 := SlT.keep jA2 hk29 (fun q hq hs => by have hs : q = b26 := hs; have g0 := owA2 q hq; have g1 := ltjA2 q hq; omega)
  replace jAk := SlT.keep jAk hk29 (fun q hq hs => by have hs : q = b26 := hs; have g0 := ownk q hq; have g1 := ltjAk q hq; omega)
  replace jhV := VotT.keep jhV hk29 (fun q hq hs => by have hs : q = b26 := hs; have g0 := hVr q hq; have g1 := hFlt q hq; omega)
  replace jhK0 := Keep.fresh jhK0 hk29 (by intro i hi hs; first | exact hs | exact Or.inl hs | exact Or.inr hs | (exfalso; have hs2 : i = b26 := hs; omega))
  replace hfen := Keep.fresh hfen hk29 (by intro i hi hs; have hs2 : i = b26 := hs; show _ ∨ _; omega)
  refine OI_end rfl ?_
  refine X_begin2 hfen ?_
  intro W2 hk2 ⟨r2, hr2⟩ hD2
  have hsz33 := Keep.size hk2
  replace jr := Blk.quiet jr hk2
  replace jb1 := Blk.quiet jb1 hk2
  replace jb3 := Blk.quiet jb3 hk2
  replace jb5 := Blk.quiet jb5 hk2
  replace jb7 := Blk.quiet jb7 hk2
  replace jb9 := Blk.quiet jb9 hk2
  replace jb11 := Blk.quiet jb11 hk2
  replace jbs23 := Blk.quiet jbs23 hk2
  replace jbn24 := Blk.quiet jbn24 hk2
  replace hb26_31 := Blk.quiet hb26_31 hk2
  replace jA := SlT.quiet jA hk2
  replace jA2 := SlT.quiet jA2 hk2
  replace jAk := SlT.quiet jAk hk2
  replace jhV := VotT.quiet jhV hk2
  replace jhK0 := Keep.quiet jhK0 hk2 (by omega)
  have hzhk2 := Keep.size hk2
  have hfenb : Keep (fen w20.heap.size M1) W2 W2 := Keep.refl _ _
  have hzhfenb := Keep.size hfenb
  refine V_block ?_
  refine V_block ?_
  refine V_seq ?_
  refine V_region ?_
  refine OI_static 1 [(4, pt b1), (6, pt b5), (7, pt b7), (10, pt b9), (11, pt b11), (12, nt ((k : Nat) : Int)), (13, pt b26), (19, pt b26)] (by kernel_rfl) ?_
  refine OI_cell 3 (.tmp 19) 0 (nt x.state) (some 20) (by kernel_rfl) (by kernel_rfl) hb26_31 (m := 1) (by kernel_rfl) rfl ?_
  refine OI_static 4 [(4, pt b1), (6, pt b5), (7, pt b7), (10, pt b9), (11, pt b11), (12, nt ((k : Nat) : Int)), (13, pt b26), (22, .bool (!(decide (x.state = 1))))] (by kernel_rfl) ?_
  by_cases hg34 : x.state = 1
  ·
   refine OI_eq [(4, pt b1), (6, pt b5), (7, pt b7), (10, pt b9), (11, pt b11), (12, nt ((k : Nat) : Int)), (13, pt b26), (22, .bool false)] (by first | simp [hg34] | rfl) ?_
   refine OI_static 5 [(4, pt b1), (6, pt b5), (7, pt b7), (10, pt b9), (11, pt b11), (12, nt ((k : Nat) : Int)), (13, pt b26), (22, .bool false), (23, .pointer (some ⟨b26, 1, none⟩))] (by kernel_rfl) ?_
   refine OI_cell 3 (.tmp 23) 1 (nt x.track) (some 24) (by kernel_rfl) (by kernel_rfl) hb26_31 (m := 1) (by kernel_rfl) rfl ?_
   refine OI_cell 3 (.tmp 6) 0 (nt ((j : Nat) : Int)) (some 25) (by kernel_rfl) (by kernel_rfl) jb5 (m := 1) (by kernel_rfl) rfl ?_
   refine OI_static 10 [(4, pt b1), (6, pt b5), (7, pt b7), (10, pt b9), (11, pt b11), (12, nt ((k : Nat) : Int)), (13, pt b26), (18, .bool (!(decide (x.track = ((j : Nat) : Int)))))] (by kernel_rfl) ?_
   refine OI_end rfl ?_
   refine X_then ?_
   refine V_not (x.track = ((j : Nat) : Int)) (by kernel_rfl) (fun hc35 => ?_) (fun hc35 => ?_)
   ·
    refine V_skip ?_
    refine X_block ?_
    refine X_block ?_
    obtain ⟨hwa, hwb⟩ : waitB ts ((j : Nat) : Int) now x = false ∧ decB ((j : Nat) : Int) x = false := wait_skip (.inr hc35)
    rw [hwa] at hst1
    rw [hwb] at hst2
    replace hst1 := hst1.trans (show _ ++ [] = _ from List.append_nil _)
    replace hst2 := hst2.trans (show _ + 0 = _ from Int.add_zero _)
    exact fun a _ => ⟨hfenb, Ak, capk, jr, jb1, jb3, jb5, jb7, jbs23, jbn24, jA, jA2, jhV, jhK0, by rw [hst1]; exact jb9, by rw [hst2]; exact jb11, by rw [hst1]; exact jAk, ownk⟩
   ·
    refine V_seq ?_
    refine V_region ?_
    refine OI_static 1 [(4, pt b1), (6, pt b5), (7, pt b7), (10, pt b9), (11, pt b11), (12, nt ((k : Nat) : Int)), (13, pt b26), (29, .pointer (some ⟨b26, 39, none⟩))] (by kernel_rfl) ?_
    refine OI_cell 3 (.tmp 29) 39 (nt x.since) (some 30) (by kernel_rfl) (by kernel_rfl) hb26_31 (m := 1) (by kernel_rfl) rfl ?_
    refine OI_static 4 [(4, pt b1), (6, pt b5), (7, pt b7), (10, pt b9), (11, pt b11), (12, nt ((k : Nat) : Int)), (13, pt b26), (28, .bool (!(decide (x.since = -1))))] (by kernel_rfl) ?_
    refine OI_end rfl ?_
    refine X_then ?_
    refine V_not (x.since = -1) (by kernel_rfl) (fun hc36 => ?_) (fun hc36 => ?_)
    ·
     refine V_region ?_
     refine OI_cell 3 (.tmp 11) 0 (nt (decN ((j : Nat) : Int) (rs.take k))) (some 32) (by kernel_rfl) (by kernel_rfl) jb11 (m := 1) (by kernel_rfl) rfl ?_
     have hw37 : IntKind.i64.wrap ((decN ((j : Nat) : Int) (rs.take k)) + 1) = (decN ((j : Nat) : Int) (rs.take k)) + 1 := (wrap64_id (by omega) (by omega)).trans (by omega)
     refine OI_static 2 [(11, pt b11), (33, nt (IntKind.i64.wrap ((decN ((j : Nat) : Int) (rs.take k)) + 1)))] (by kernel_rfl) ?_
     refine OI_eq [(11, pt b11), (33, nt ((decN ((j : Nat) : Int) (rs.take k)) + 1))] (by rw [hw37]) ?_
     refine OI_set (m := 1) (kd := false) 3 (.tmp 11) (.tmp 33) 0 (nt ((decN ((j : Nat) : Int) (rs.take k)) + 1)) [nt ((decN ((j : Nat) : Int) (rs.take k)) + 1)] none (by kernel_rfl) (by kernel_rfl) (by kernel_rfl) jb11 (by kernel_rfl) (by kernel_rfl) (by kernel_rfl) (Nat.le_of_ble_eq_true (by kernel_rfl)) (by simp [Value.oneCell']) ?_
     intro w38 hb11_41 hk39 hz40
     replace hb11_41 : Blk w38 b11 [nt ((decN ((j : Nat) : Int) (rs.take k)) + 1)] 3 := hb11_41
     have hsz42 := Keep.size hk39
     replace jr := jr.keep hk39 (by show ¬ (_ = _); omega)
     replace jb1 := jb1.keep hk39 (by show ¬ (_ = _); omega)
     replace jb3 := jb3.keep hk39 (by show ¬ (_ = _); omega)
     replace jb5 := jb5.keep hk39 (by show ¬ (_ = _); omega)
     replace jb7 := jb7.keep hk39 (by show ¬ (_ = _); omega)
     replace jb9 := jb9.keep hk39 (by show ¬ (_ = _); omega)
     replace jbs23 := jbs23.keep hk39 (by show ¬ (_ = _); omega)
     replace jbn24 := jbn24.keep hk39 (by show ¬ (_ = _); omega)
     replace hb26_31 := hb26_31.keep hk39 (by show ¬ (_ = _); omega)
     replace jA := SlT.keep jA hk39 (fun q hq hs => by have hs : q = b11 := hs; have g0 := hAr q hq; have g1 := ltjA q hq; omega)
     replace jA2 := SlT.keep jA2 hk39 (fun q hq hs => by have hs : q = b11 := hs; have g0 := owA2 q hq; have g1 := ltjA2 q hq; omega)
     replace jAk := SlT.keep jAk hk39 (fun q hq hs => by have hs : q = b11 := hs; have g0 := ownk q hq; have g1 := ltjAk q hq; omega)
     replace jhV := VotT.keep jhV hk39 (fun q hq hs => by have hs : q = b11 := hs; have g0 := hVr q hq; have g1 := hFlt q hq; omega)
     replace jhK0 := Keep.fresh jhK0 hk39 (by intro i hi hs; first | exact hs | exact Or.inl hs | exact Or.inr hs | (exfalso; have hs2 : i = b11 := hs; omega))
     replace hfenb := Keep.fresh hfenb hk39 (by intro i hi hs; have hs2 : i = b11 := hs; show _ ∨ _; omega)
     refine OI_end rfl ?_
     refine X_block ?_
     refine X_block ?_
     obtain ⟨hwa, hwb⟩ : waitB ts ((j : Nat) : Int) now x = false ∧ decB ((j : Nat) : Int) x = true := wait_dec hg34 hc35 hc36
     rw [hwa] at hst1
     rw [hwb] at hst2
     replace hst1 := hst1.trans (show _ ++ [] = _ from List.append_nil _)
     replace hst2 := hst2
     replace hst2 := hst2.trans (show _ + 1 = decN ((j : Nat) : Int) (rs.take k) + 1 from rfl)
     exact fun a _ => ⟨hfenb, Ak, capk, jr, jb1, jb3, jb5, jb7, jbs23, jbn24, jA, jA2, jhV, jhK0, by rw [hst1]; exact jb9, by rw [hst2]; exact hb11_41, by rw [hst1]; exact jAk, ownk⟩
    ·
     refine V_seq ?_
     refine V_draws (acts []) none_ [[0, 1, 2, 3, 4, 5, 6, 7, 8, 9, 10, 11, 12, 13, 14, 15, 16, 17, 18]] (by kernel_rfl) (by repeat first | exact (by first | exact sure_postM | exact sure_rQ2 | exact sure_no) | refine sure_then ?_ | refine sure_block ?_ | refine sure_join ?_) (by kernel_rfl) ?_
     intro w44 hk43 he45 L hL46
     have hsz47 := Keep.size hk43
     replace jr := jr.keep hk43 (fun f => f)
     replace jb1 := jb1.keep hk43 (fun f => f)
     replace jb3 := jb3.keep hk43 (fun f => f)
     replace jb5 := jb5.keep hk43 (fun f => f)
     replace jb7 := jb7.keep hk43 (fun f => f)
     replace jb9 := jb9.keep hk43 (fun f => f)
     replace jb11 := jb11.keep hk43 (fun f => f)
     replace jbs23 := jbs23.keep hk43 (fun f => f)
     replace jbn24 := jbn24.keep hk43 (fun f => f)
     replace hb26_31 := hb26_31.keep hk43 (fun f => f)
     replace jA := SlT.keep0 jA hk43
     replace jA2 := SlT.keep0 jA2 hk43
     replace jAk := SlT.keep0 jAk hk43
     replace jhV := VotT.keep jhV hk43 (fun _ _ f => f)
     replace jhK0 := Keep.tr jhK0 (Keep.ofNone hk43)
     replace hfenb := Keep.tr hfenb (Keep.ofNone hk43)
     have qjr := jr
     have qjb1 := jb1
     have qjb3 := jb3
     have qjb5 := jb5
     have qjb7 := jb7
     have qjb9 := jb9
     have qjb11 := jb11
     have qjbs23 := jbs23
     have qjbn24 := jbn24
     have qhb26_31 := hb26_31
     have K48 : Keep none_ w44 w44 := Keep.refl _ _
     obtain rfl := List.mem_singleton.1 hL46
     refine GI_static [1, 2, 3, 4, 5, 6, 7, 8, 9, 10, 11, 12, 13, 14, 15, 16, 17, 18] [(4, pt b1), (6, pt b5), (7, pt b7), (10, pt b9), (12, nt ((k : Nat) : Int)), (13, pt b26), (35, .pointer (some ⟨b26, 38, none⟩))] (by kernel_rfl) ?_
     refine GI_cell 3 (.tmp 35) 38 (nt x.backer) (some 36) (by kernel_rfl) (by kernel_rfl) (by kernel_rfl) qhb26_31 (fun f => f) (m := 1) (by kernel_rfl) rfl ?_
     refine GI_static [4, 5, 6, 7, 8, 9, 10, 11, 12, 13, 14, 15, 16, 17, 18] [(4, pt b1), (6, pt b5), (7, pt b7), (10, pt b9), (12, nt ((k : Nat) : Int)), (13, pt b26), (38, .bool (!(decide (x.backer = -1))))] (by kernel_rfl) ?_
     by_cases hg49 : x.backer = -1
     ·
      refine GI_eq [(4, pt b1), (6, pt b5), (7, pt b7), (10, pt b9), (12, nt ((k : Nat) : Int)), (13, pt b26), (38, .bool false)] (by first | simp [hg49] | rfl) ?_
      refine GI_static [] [(10, pt b9), (12, nt ((k : Nat) : Int)), (34, .bool false)] (by kernel_rfl) ?_
      refine GI_end ?_
      refine X_then ?_
      refine V_false rfl ?_
      refine V_skip ?_
      refine X_block ?_
      refine X_block ?_
      obtain ⟨hwa, hwb⟩ : waitB ts ((j : Nat) : Int) now x = false ∧ decB ((j : Nat) : Int) x = false := wait_no hg34 hc35 hc36 (.inl hg49)
      rw [hwa] at hst1
      rw [hwb] at hst2
      replace hst1 := hst1.trans (show _ ++ [] = _ from List.append_nil _)
      replace hst2 := hst2.trans (show _ + 0 = _ from Int.add_zero _)
      exact fun a _ => ⟨hfenb, Ak, capk, jr, jb1, jb3, jb5, jb7, jbs23, jbn24, jA, jA2, jhV, jhK0, by rw [hst1]; exact jb9, by rw [hst2]; exact jb11, by rw [hst1]; exact jAk, ownk⟩
     ·
      refine GI_eq [(4, pt b1), (6, pt b5), (7, pt b7), (10, pt b9), (12, nt ((k : Nat) : Int)), (13, pt b26), (38, .bool true)] (by first | simp [hg49] | rfl) ?_
      refine GI_cell 3 (.tmp 7) 0 (nt now) (some 39) (by kernel_rfl) (by kernel_rfl) (by kernel_rfl) qjb7 (fun f => f) (m := 1) (by kernel_rfl) rfl ?_
      refine GI_static [6, 7, 8, 9, 10, 11, 12, 13, 14, 15, 16, 17, 18] [(4, pt b1), (6, pt b5), (10, pt b9), (12, nt ((k : Nat) : Int)), (38, .bool true), (39, nt now), (40, .pointer (some ⟨b26, 35, none⟩))] (by kernel_rfl) ?_
      refine GI_cell 3 (.tmp 40) 35 (nt x.sub) (some 41) (by kernel_rfl) (by kernel_rfl) (by kernel_rfl) qhb26_31 (fun f => f) (m := 1) (by kernel_rfl) rfl ?_
      refine GI_static [8, 9, 10, 11, 12, 13, 14, 15, 16, 17, 18] [(4, pt b1), (6, pt b5), (10, pt b9), (12, nt ((k : Nat) : Int)), (38, .bool true), (42, nt (IntKind.i64.wrap (now - x.sub)))] (by kernel_rfl) ?_
      refine GI_cell 34 (.tmp 4) 0 (pt r) (some 43) (by kernel_rfl) (by kernel_rfl) (by kernel_rfl) qjb1 (fun f => f) (m := 1) (by kernel_rfl) rfl ?_
      refine GI_static [11, 12, 13, 14, 15, 16, 17, 18] [(6, pt b5), (10, pt b9), (12, nt ((k : Nat) : Int)), (38, .bool true), (42, nt (IntKind.i64.wrap (now - x.sub))), (45, pt r)] (by kernel_rfl) ?_
      refine GI_cell 29 (.tmp 45) 0 (.slice A ts.length cap) (some 46) (by kernel_rfl) (by kernel_rfl) (by kernel_rfl) qjr (fun f => f) (m := 1) (by kernel_rfl) rfl ?_
      refine GI_cell 3 (.tmp 6) 0 (nt ((j : Nat) : Int)) (some 47) (by kernel_rfl) (by kernel_rfl) (by kernel_rfl) qjb5 (fun f => f) (m := 1) (by kernel_rfl) rfl ?_
      obtain ⟨b50, o50, L50, T50, rfl, hat50⟩ := SlT.open_ jA (by first | omega | (simp only [List.length_map]; omega) | (simp; done) | (simp; omega))
      have hb50lt := hat50.blk.lt
      have hob51 := hAr b50 ⟨_, rfl, rfl⟩
      have hob52 := ltjA b50 ⟨_, rfl, rfl⟩
      have hne53 : ∀ q, F q → q ≠ b50 := fun q hq hs => (fun q h1 h2 => hHF q (hAo q h2).1 h1) q hq ⟨_, rfl, hs⟩
      have own54 := fun q hq => And.intro (hVr q hq) (hne53 q hq)
      refine GI_pure (some 48) (.indexAddr 29 (.tmp 46) (.tmp 47)) (by kernel_rfl) (by kernel_rfl) (pure_idxN (b := b50) (o := o50) (len := ts.length) (cap := cap) (kd := .i64) (j := j) (E := 27) (sz := 18) (by_ := 144) (by kernel_rfl) (by kernel_rfl) (by kernel_rfl) (by omega)) ?_
      refine GI_static [15, 16, 17, 18] [(10, pt b9), (12, nt ((k : Nat) : Int)), (38, .bool true), (42, nt (IntKind.i64.wrap (now - x.sub))), (49, .pointer (some ⟨b50, o50 + j * 18 + 2, none⟩))] (by kernel_rfl) ?_
      refine GI_cell 3 (.tmp 49) (o50 + j * 18 + 2) (nt ((trkA ts ((j : Nat) : Int)).prepare)) (some 50) (by kernel_rfl) (by kernel_rfl) (by kernel_rfl) hat50.blk (fun f => f) (m := 1) (by kernel_rfl) (At.cell hat50 (es_at htk) rfl) ?_
      refine GI_static [] [(10, pt b9), (12, nt ((k : Nat) : Int)), (34, .bool (decide (IntKind.i64.wrap (now - x.sub) ≥ (trkA ts ((j : Nat) : Int)).prepare)))] (by kernel_rfl) ?_
      refine GI_end ?_
      refine X_then ?_
      refine V_if (IntKind.i64.wrap (now - x.sub) ≥ (trkA ts ((j : Nat) : Int)).prepare) (by kernel_rfl) (fun hc55 => ?_) (fun hc55 => ?_)
      ·
       refine V_region ?_
       refine OI_cell 72 (.tmp 10) 0 (.slice Ak ((waitL ts ((j : Nat) : Int) now 0 (rs.take k)).length) capk) (some 53) (by kernel_rfl) (by kernel_rfl) jb9 (m := 1) (by kernel_rfl) rfl ?_
       refine OI_static 2 [(10, pt b9), (53, .slice Ak ((waitL ts ((j : Nat) : Int) now 0 (rs.take k)).length) capk), (54, nt ((k : Nat) : Int))] (by kernel_rfl) ?_
       refine OI_slit (E := 3) (zv := nt 0) (sz := 1) (by_ := 8) 72 1 #[(0, (Operand.tmp 54))] [nt ((k : Nat) : Int)] [nt ((k : Nat) : Int)] (some 55) (by kernel_rfl) (by kernel_rfl) (by kernel_rfl) (by omega) rfl (by omega) (by intro v hv; simp only [List.mem_cons, List.not_mem_nil, or_false] at hv; rcases hv with rfl <;> rfl) (by kernel_rfl) rfl ?_
       intro b56 w56 e56 hb56 k56 z56
       have hsz57 := Keep.size k56
       replace jr := jr.keep k56 (fun f => f)
       replace jb1 := jb1.keep k56 (fun f => f)
       replace jb3 := jb3.keep k56 (fun f => f)
       replace jb5 := jb5.keep k56 (fun f => f)
       replace jb7 := jb7.keep k56 (fun f => f)
       replace jb9 := jb9.keep k56 (fun f => f)
       replace jb11 := jb11.keep k56 (fun f => f)
       replace jbs23 := jbs23.keep k56 (fun f => f)
       replace jbn24 := jbn24.keep k56 (fun f => f)
       replace hb26_31 := hb26_31.keep k56 (fun f => f)
       replace hat50 := hat50.keep k56 (fun f => f)
       replace jA := SlT.keep0 jA k56
       replace jA2 := SlT.keep0 jA2 k56
       replace jAk := SlT.keep0 jAk k56
       replace jhV := VotT.keep jhV k56 (fun _ _ f => f)
       replace jhK0 := Keep.tr jhK0 (Keep.ofNone k56)
       replace hfenb := Keep.tr hfenb (Keep.ofNone k56)
       have hb56lt := hb56.lt
       refine OI_append (t := 72) (at2 := 72) (E := 3) (E2 := 3) (sz := 1) (by_ := 8) (zv := nt 0) (m := (waitL ts ((j : Nat) : Int) now 0 (rs.take k)).length) (k := 1) (.tmp 53) (.tmp 55) (.slice Ak ((waitL ts ((j : Nat) : Int) now 0 (rs.take k)).length) capk) (.slice (some ⟨b56, 0, none⟩) 1 1) (some 56) (by kernel_rfl) (by kernel_rfl) (by kernel_rfl) (by kernel_rfl) (by kernel_rfl) (by kernel_rfl) (by kernel_rfl) (SlT.slr jAk) (slr_one hb56 (intc_len (k : Int))) (intc_one (k : Int)) (by first | omega | (simp only [List.length_nil]; omega)) (by omega) (by first | omega | (simp only [List.length_nil]; omega)) (by omega) ?_
       intro vv9 w58 hap
       obtain ⟨A58, cap58, rfl, hA58, hk58, own58x⟩ := app_one (f := intc) (xs := (waitL ts ((j : Nat) : Int) now 0 (rs.take k))) (x := (k : Int)) (A := Ak) (cap := capk) hap (fun x _ => intc_len x) (intc_len _)
       have own58 : ∀ q, inA A58 q → M1 ≤ q := fun q hq => by rcases own58x q hq with h | h; exact ownk q h; (show M1 ≤ q; omega)
       have hsz59 := Keep.size hk58
       replace jr := jr.keep hk58 (fun hs => by have h1 := ownk _ hs; have h2 := ltjAk _ hs; omega)
       replace jb1 := jb1.keep hk58 (fun hs => by have h1 := ownk _ hs; have h2 := ltjAk _ hs; omega)
       replace jb3 := jb3.keep hk58 (fun hs => by have h1 := ownk _ hs; have h2 := ltjAk _ hs; omega)
       replace jb5 := jb5.keep hk58 (fun hs => by have h1 := ownk _ hs; have h2 := ltjAk _ hs; omega)
       replace jb7 := jb7.keep hk58 (fun hs => by have h1 := ownk _ hs; have h2 := ltjAk _ hs; omega)
       replace jb9 := jb9.keep hk58 (fun hs => by have h1 := ownk _ hs; have h2 := ltjAk _ hs; omega)
       replace jb11 := jb11.keep hk58 (fun hs => by have h1 := ownk _ hs; have h2 := ltjAk _ hs; omega)
       replace jbs23 := jbs23.keep hk58 (fun hs => by have h1 := ownk _ hs; have h2 := ltjAk _ hs; omega)
       replace jbn24 := jbn24.keep hk58 (fun hs => by have h1 := ownk _ hs; have h2 := ltjAk _ hs; omega)
       replace hb26_31 := hb26_31.keep hk58 (fun hs => by have h1 := ownk _ hs; have h2 := ltjAk _ hs; omega)
       replace hat50 := hat50.keep hk58 (fun hs => by have h1 := ownk _ hs; have h2 := ltjAk _ hs; omega)
       replace jA := SlT.keep jA hk58 (fun q hq hs => by have g0 := hAr q hq; have g1 := ltjA q hq; have h1 := ownk q hs; have h2 := ltjAk q hs; omega)
       replace jA2 := SlT.keep jA2 hk58 (fun q hq hs => by have g0 := owA2 q hq; have g1 := ltjA2 q hq; have h1 := ownk q hs; have h2 := ltjAk q hs; omega)
       replace jhV := VotT.keep jhV hk58 (fun q hq hs => by have g0 := own54 q hq; have g1 := hFlt q hq; have h1 := ownk q hs; have h2 := ltjAk q hs; omega)
       replace jhK0 := Keep.fresh jhK0 hk58 (by intro i hi hs; first | exact hs | (exfalso; have h1 := ownk i hs; have h2 := ltjAk i hs; omega) | (have h1 := ownk i hs; have h2 := ltjAk i hs; show _ ∨ _; omega))
       replace hfenb := Keep.fresh hfenb hk58 (by intro i hi hs; have h1 := ownk i hs; have h2 := ltjAk i hs; show _ ∨ _; omega)
       have lt58 := SlT.lt hA58
       refine OI_set (m := 1) (kd := false) 72 (.tmp 10) (.tmp 56) 0 (.slice A58 (((waitL ts ((j : Nat) : Int) now 0 (rs.take k)) ++ [(k : Int)]).length) cap58) [.slice A58 (((waitL ts ((j : Nat) : Int) now 0 (rs.take k)) ++ [(k : Int)]).length) cap58] none (by kernel_rfl) (by kernel_rfl) (by kernel_rfl) jb9 (by kernel_rfl) (by kernel_rfl) (by kernel_rfl) (Nat.le_of_ble_eq_true (by kernel_rfl)) (by simp [Value.oneCell']) ?_
       intro w60 hb9_63 hk61 hz62
       replace hb9_63 : Blk w60 b9 [.slice A58 (((waitL ts ((j : Nat) : Int) now 0 (rs.take k)) ++ [(k : Int)]).length) cap58] 72 := hb9_63
       have hsz64 := Keep.size hk61
       replace jr := jr.keep hk61 (by show ¬ (_ = _); omega)
       replace jb1 := jb1.keep hk61 (by show ¬ (_ = _); omega)
       replace jb3 := jb3.keep hk61 (by show ¬ (_ = _); omega)
       replace jb5 := jb5.keep hk61 (by show ¬ (_ = _); omega)
       replace jb7 := jb7.keep hk61 (by show ¬ (_ = _); omega)
       replace jb11 := jb11.keep hk61 (by show ¬ (_ = _); omega)
       replace jbs23 := jbs23.keep hk61 (by show ¬ (_ = _); omega)
       replace jbn24 := jbn24.keep hk61 (by show ¬ (_ = _); omega)
       replace hb26_31 := hb26_31.keep hk61 (by show ¬ (_ = _); omega)
       replace hat50 := hat50.keep hk61 (by show ¬ (_ = _); omega)
       replace jA := SlT.keep jA hk61 (fun q hq hs => by have hs : q = b9 := hs; have g0 := hAr q hq; have g1 := ltjA q hq; omega)
       replace jA2 := SlT.keep jA2 hk61 (fun q hq hs => by have hs : q = b9 := hs; have g0 := owA2 q hq; have g1 := ltjA2 q hq; omega)
       replace hA58 := SlT.keep hA58 hk61 (fun q hq hs => by have hs : q = b9 := hs; have g0 := own58 q hq; have g1 := lt58 q hq; omega)
       replace jhV := VotT.keep jhV hk61 (fun q hq hs => by have hs : q = b9 := hs; have g0 := own54 q hq; have g1 := hFlt q hq; omega)
       replace jhK0 := Keep.fresh jhK0 hk61 (by intro i hi hs; first | exact hs | exact Or.inl hs | exact Or.inr hs | (exfalso; have hs2 : i = b9 := hs; omega))
       replace hfenb := Keep.fresh hfenb hk61 (by intro i hi hs; have hs2 : i = b9 := hs; show _ ∨ _; omega)
       refine OI_end rfl ?_
       refine X_block ?_
       refine X_block ?_
       obtain ⟨hwa, hwb⟩ : waitB ts ((j : Nat) : Int) now x = true ∧ decB ((j : Nat) : Int) x = false := wait_yes hg34 hc35 hc36 hg49 hc55
       rw [hwa] at hst1
       rw [hwb] at hst2
       replace hst1 := hst1
       replace hst2 := hst2.trans (show _ + 0 = _ from Int.add_zero _)
       replace hst1 := hst1.trans (show _ ++ [(k : Int)] = _ from rfl)
       exact fun a _ => ⟨hfenb, A58, cap58, jr, jb1, jb3, jb5, jb7, jbs23, jbn24, jA, jA2, jhV, jhK0, by rw [hst1]; exact hb9_63, by rw [hst2]; exact jb11, by rw [hst1]; exact hA58, own58⟩
      ·
       refine V_skip ?_
       refine X_block ?_
       refine X_block ?_
       obtain ⟨hwa, hwb⟩ : waitB ts ((j : Nat) : Int) now x = false ∧ decB ((j : Nat) : Int) x = false := wait_no hg34 hc35 hc36 (.inr hc55)
       rw [hwa] at hst1
       rw [hwb] at hst2
       replace hst1 := hst1.trans (show _ ++ [] = _ from List.append_nil _)
       replace hst2 := hst2.trans (show _ + 0 = _ from Int.add_zero _)
       exact fun a _ => ⟨hfenb, Ak, capk, jr, jb1, jb3, jb5, jb7, jbs23, jbn24, jA, jA2, jhV, jhK0, by rw [hst1]; exact jb9, by rw [hst2]; exact jb11, by rw [hst1]; exact jAk, ownk⟩
  ·
   refine OI_eq [(4, pt b1), (6, pt b5), (7, pt b7), (10, pt b9), (11, pt b11), (12, nt ((k : Nat) : Int)), (13, pt b26), (22, .bool true)] (by first | simp [hg34] | rfl) ?_
   refine OI_static 10 [(4, pt b1), (6, pt b5), (7, pt b7), (10, pt b9), (11, pt b11), (12, nt ((k : Nat) : Int)), (13, pt b26), (18, .bool true)] (by kernel_rfl) ?_
   refine OI_end rfl ?_
   refine X_then ?_
   refine V_true rfl ?_
   refine V_skip ?_
   refine X_block ?_
   refine X_block ?_
   obtain ⟨hwa, hwb⟩ : waitB ts ((j : Nat) : Int) now x = false ∧ decB ((j : Nat) : Int) x = false := wait_skip (.inl hg34)
   rw [hwa] at hst1
   rw [hwb] at hst2
   replace hst1 := hst1.trans (show _ ++ [] = _ from List.append_nil _)
   replace hst2 := hst2.trans (show _ + 0 = _ from Int.add_zero _)
   exact fun a _ => ⟨hfenb, Ak, capk, jr, jb1, jb3, jb5, jb7, jbs23, jbn24, jA, jA2, jhV, jhK0, by rw [hst1]; exact jb9, by rw [hst2]; exact jb11, by rw [hst1]; exact jAk, ownk⟩
 ·
  intro D M1 W hD hM ⟨Ak, capk, jr, jb1, jb3, jb5, jb7, jbs23, jbn24, jA, jA2, jhV, jhK0, jb9, jb11, jAk, ownk⟩ hDD
  have hzjhK0 := Keep.size jhK0
  have hrlt := jr.lt
  have hb1lt := jb1.lt
  have hb3lt := jb3.lt
  have hb5lt := jb5.lt
  have hb7lt := jb7.lt
  have hb9lt := jb9.lt
  have hb11lt := jb11.lt
  have hbs23lt := jbs23.lt
  have hbn24lt := jbn24.lt
  have ltjA := SlT.lt jA
  have ltjA2 := SlT.lt jA2
  have ltjAk := SlT.lt jAk
  rw [List.take_length] at jAk jb9 jb11
  refine X_block ?_
  refine X_then ?_
  refine V_seq ?_
  refine V_region ?_
  refine OI_cell 72 (.tmp 10) 0 (.slice Ak ((waitL ts ((j : Nat) : Int) now 0 rs).length) capk) (some 57) (by kernel_rfl) (by kernel_rfl) jb9 (m := 1) (by kernel_rfl) rfl ?_
  refine OI_static 2 [(10, pt b9), (11, pt b11), (57, .slice Ak ((waitL ts ((j : Nat) : Int) now 0 rs).length) capk), (58, .func (.func 152) #[] #[pt b3])] (by kernel_rfl) ?_
  have hwl9 : (waitL ts ((j : Nat) : Int) now 0 rs).length ≤ 12 := Nat.le_trans (waitL_len rs 0) hrl
  refine OI_call { callee := (Callee.value (Operand.func 151)), args := #[(Operand.tmp 57), (Operand.tmp 58)], argTypes := #[72, 128] } 151 #[.slice Ak ((waitL ts ((j : Nat) : Int) now 0 rs).length) capk, .func (.func 152) #[] #[pt b3]] (some 59) (by kernel_rfl) (by kernel_rfl) (by kernel_rfl) (ssort_spec Ak capk 152 (pt b3) (waitL ts ((j : Nat) : Int) now 0 rs) (fun r => (tallyT s r).a) _ jAk (by omega) (by kernel_rfl) (fun x9 y9 w9 hk9 => waits1_spec b3 F v s x9 y9 w9 (jb3.keep hk9 (fun hs => by have h3 := ownk _ hs; omega)) (VotT.keep jhV hk9 (fun q h1 h2 => by have h3 := hFlt q h1; have h4 := ownk q h2; omega)))) ?_
  rintro _ w65 ⟨rfl, hso67, hk66⟩
  refine ⟨_, rfl, ?_⟩
  have hsz68 := Keep.size hk66
  replace jr := jr.keep hk66 (fun hs => by have h1 := ownk _ hs; have h2 := ltjAk _ hs; omega)
  replace jb3 := jb3.keep hk66 (fun hs => by have h1 := ownk _ hs; have h2 := ltjAk _ hs; omega)
  replace jb9 := jb9.keep hk66 (fun hs => by have h1 := ownk _ hs; have h2 := ltjAk _ hs; omega)
  replace jb11 := jb11.keep hk66 (fun hs => by have h1 := ownk _ hs; have h2 := ltjAk _ hs; omega)
  replace jbs23 := jbs23.keep hk66 (fun hs => by have h1 := ownk _ hs; have h2 := ltjAk _ hs; omega)
  replace jbn24 := jbn24.keep hk66 (fun hs => by have h1 := ownk _ hs; have h2 := ltjAk _ hs; omega)
  replace jA := SlT.keep jA hk66 (fun q hq hs => by have g0 := hAr q hq; have g1 := ltjA q hq; have h1 := ownk q hs; have h2 := ltjAk q hs; omega)
  replace jhV := VotT.keep jhV hk66 (fun q hq hs => by have g0 := hVr q hq; have g1 := hFlt q hq; have h1 := ownk q hs; have h2 := ltjAk q hs; omega)
  replace jhK0 := Keep.fresh jhK0 hk66 (by intro i hi hs; first | exact hs | (exfalso; have h1 := ownk i hs; have h2 := ltjAk i hs; omega) | (have h1 := ownk i hs; have h2 := ltjAk i hs; show _ ∨ _; omega))
  replace hDD := (Keep.block hk66 _ (Array.getElem?_eq_some_iff.1 hDD).1 (fun hs => by have h1 := ownk _ hs; have h2 := ltjAk _ hs; omega)).trans hDD
  have lts67 := SlT.lt hso67
  refine OI_end rfl ?_
  refine X_then ?_
  refine V_seq ?_
  refine V_draws (acts []) none_ [[0, 1, 2, 3]] (by kernel_rfl) (by repeat first | exact (by first | exact sure_postM | exact sure_rQ2 | exact sure_no) | refine sure_then ?_ | refine sure_block ?_ | refine sure_join ?_) (by kernel_rfl) ?_
  intro w70 hk69 he71 L hL72
  have hsz73 := Keep.size hk69
  replace jr := jr.keep hk69 (fun f => f)
  replace jb9 := jb9.keep hk69 (fun f => f)
  replace jb11 := jb11.keep hk69 (fun f => f)
  replace jbs23 := jbs23.keep hk69 (fun f => f)
  replace jbn24 := jbn24.keep hk69 (fun f => f)
  replace jA := SlT.keep0 jA hk69
  replace hso67 := SlT.keep0 hso67 hk69
  replace jhV := VotT.keep jhV hk69 (fun _ _ f => f)
  replace jhK0 := Keep.tr jhK0 (Keep.ofNone hk69)
  replace hDD := (Keep.block hk69 _ (Array.getElem?_eq_some_iff.1 hDD).1 (fun f => f)).trans hDD
  have qjr := jr
  have qjb9 := jb9
  have qjb11 := jb11
  have qjbs23 := jbs23
  have qjbn24 := jbn24
  have K74 : Keep none_ w70 w70 := Keep.refl _ _
  obtain rfl := List.mem_singleton.1 hL72
  refine GI_cell 72 (.tmp 10) 0 (.slice Ak ((waitL ts ((j : Nat) : Int) now 0 rs).length) capk) (some 60) (by kernel_rfl) (by kernel_rfl) (by kernel_rfl) qjb9 (fun f => f) (m := 1) (by kernel_rfl) rfl ?_
  refine GI_cell 3 (.tmp 11) 0 (nt (decN ((j : Nat) : Int) rs)) (some 61) (by kernel_rfl) (by kernel_rfl) (by kernel_rfl) qjb11 (fun f => f) (m := 1) (by kernel_rfl) rfl ?_
  refine GI_static [] [(8, .slice Ak ((waitL ts ((j : Nat) : Int) now 0 rs).length) capk), (9, nt (decN ((j : Nat) : Int) rs))] (by kernel_rfl) ?_
  refine GI_end ?_
  refine X_then ?_
  refine V_ret ?_
  exact leave1 (.tuple #[.slice Ak (waitL ts ((j : Nat) : Int) now 0 rs).length capk, .int .i64 (decN ((j : Nat) : Int) rs)]) (.inl rfl) hDD (fun w' hk => ⟨res_tmps rfl, ⟨Ak, capk, rfl, SlT.quiet hso67 hk, (fun q h => by have h1 := ownk q h; omega), Keep.quiet jhK0 hk (by omega)⟩⟩)
end Go.Al


namespace Go.Al
open Go Go.RowKit Go.Proofs
section
variable {xs : List Acc} {cs : List Ci} {s : VS} {ts : List Trk} {rs : List Rfm} {who of after ref now : Int}
theorem subE1 (h : (trkO ts of).isSome = false ∨ who < 0 ∨ who ≥ 10 ∨ after < 0 ∨ after > 1000) : subE xs cs s ts rs who of after = 1 := by
  unfold subE
  rw [if_pos (h.imp (fun h => by cases h9 : trkO ts of with
    | none => rfl
    | some _ => rw [h9] at h; cases h) id)]
theorem closeE4 {s : VS} {ref : Int} : closeE s ref 0 = 4 ↔ (pollAt s ref).isSome = false := by
  unfold closeE
  cases pollAt s ref with
  | none => simp
  | some q =>
    simp only [Option.isSome_some, reduceCtorEq, iff_false]
    split
    · decide
    · decide
theorem closeS0 (s : VS) (ref e : Int) : closeS s ref 0 e = s := by
  unfold closeS
  cases hp : pollAt s ref with
  | none => rfl
  | some q =>
    dsimp only
    have : closeE s ref 0 ≠ 0 := by
      unfold closeE; rw [hp]; dsimp only
      split
      · decide
      · decide
    rw [if_neg this]
theorem subEx (h1 : (trkO ts of).isSome = true) (h2 : ¬ (who < 0 ∨ who ≥ 10 ∨ after < 0 ∨ after > 1000)) : subE xs cs s ts rs who of after = if rs.length ≥ 12 then 3 else if (pollAt s rs.length).isSome then 5 else spendsE xs cs who 10 := by
  unfold subE
  rw [if_neg]
  rintro (h | h)
  · simp_all
  · exact h2 h
theorem sub_no {k : Int} (h : subE xs cs s ts rs who of after = k) (hk : k ≠ 0) : subX xs cs s ts rs who of after = xs ∧ subS xs cs s ts rs who of after = s ∧ ∀ sum now, subR xs cs s ts rs who of after sum now = rs := by
  refine ⟨?_, ?_, fun sum now => ?_⟩
  · unfold subX; rw [h, if_neg hk]
  · unfold subS; rw [h, if_neg hk]
  · unfold subR; rw [h, if_neg hk]
theorem sub_go (h : subE xs cs s ts rs who of after = 0) : subX xs cs s ts rs who of after = resX xs cs who 10 ∧ subS xs cs s ts rs who of after = openS s rs.length of ∧ ∀ sum now, subR xs cs s ts rs who of after sum now = rs ++ [newR of sum after now who] := by
  refine ⟨?_, ?_, fun sum now => ?_⟩
  · unfold subX; rw [if_pos h]
  · unfold subS; rw [if_pos h]
  · unfold subR; rw [if_pos h]
theorem trk_some (h : (trkO ts of).isSome = true) : 0 ≤ of ∧ of < ts.length := by
  unfold trkO at h
  split at h
  · assumption
  · cases h
end

set_option maxRecDepth 10000 in
set_option maxHeartbeats 1000000 in
theorem submit_spec (H : Nat → Prop) (r g : Nat) (ts : List Trk) (rs : List Rfm) (F : Nat → Prop) (v : Nat) (s : VS) (G : Nat → Prop) (l : Nat) (xs : List Acc) (cs : List Ci) (who of : Int) (sum : Nat → Int) (after now : Int) (w : World) (hR : Rfr H w r g ts rs) (hV : VotT F w v s) (hl : Led G w l xs cs) (hHF : ∀ q, H q → ¬ F q) (hHG : ∀ q, H q → ¬ G q) (hFG : ∀ q, F q → ¬ G q) : Calls Tryz.prog 17 #[.pointer (some ⟨r, 0, none⟩), .pointer (some ⟨l, 0, none⟩), .pointer (some ⟨v, 0, none⟩), .int .i64 who, .int .i64 of, .agg (hshc sum).toArray, .int .i64 after, .int .i64 now] w fun e w' => e = .returned (.tuple #[.int .i64 (if subE xs cs s ts rs who of after = 0 then (rs.length : Int) else 0), .int .i64 (subE xs cs s ts rs who of after)]) ∧ (∃ H' F' G', Rfr H' w' r g ts (subR xs cs s ts rs who of after sum now) ∧ VotT F' w' v (subS xs cs s ts rs who of after) ∧ Led G' w' l (subX xs cs s ts rs who of after) cs ∧ (∀ q, H' q → H q ∨ w.heap.size ≤ q) ∧ (∀ q, F' q → F q ∨ w.heap.size ≤ q) ∧ (∀ q, G' q → G q ∨ w.heap.size ≤ q) ∧ (∀ q, H' q → ¬ F' q) ∧ (∀ q, H' q → ¬ G' q) ∧ (∀ q, F' q → ¬ G' q)) ∧ Keep (fun q => q = g ∨ F q ∨ G q) w w' := by
 have hHlt := Rfr.lt hR
 have hrH := Rfr.at_ hR
 have hgH := Rfr.atg hR
 have hrlt := hHlt _ hrH
 have hglt := hHlt _ hgH
 have hin := Rfr.inn hR
 obtain ⟨A, cap, hr, hA, hAo, hrg⟩ := Rfr.parts hR
 have hAlt := SlT.lt hA
 have hAr : ∀ q, inA A q → q ≠ r ∧ q ≠ g ∧ q < w.heap.size := fun q hq => ⟨(hAo q hq).2.1, (hAo q hq).2.2, hAlt q hq⟩
 have hgo : ∀ q, only g q → q ≠ r ∧ q = g := fun q hq => ⟨fun e => hrg (e.symm.trans hq), hq⟩
 have hgl : ∀ q, only g q → q < w.heap.size := fun q hq => by rw [show q = g from hq]; exact hglt
 have hHo : ∀ q, H q → 0 ≤ q := fun q _ => Nat.zero_le q
 have htl := hin.tl
 have hrl := hin.rl
 have hFlt := VotT.lt hV
 have hvlt := hFlt _ (VotT.at_ hV)
 have hVr : ∀ q, F q → q ≠ r := fun q hq e => hHF r hrH (e ▸ hq)
 have hGlt := Led.lt hl
 have hllt := hGlt _ (Led.at_ hl)
 have hlr : ∀ q, G q → q ≠ r := fun q hq e => hHG r hrH (e ▸ hq)
 have hinv := Led.inv hl
 have hHr : ∀ q, H q → H q ∨ w.heap.size ≤ q := fun _ h => .inl h
 have hFr : ∀ q, F q → F q ∨ w.heap.size ≤ q := fun _ h => .inl h
 have hGr : ∀ q, G q → G q ∨ w.heap.size ≤ q := fun _ h => .inl h
 have hK0 : Keep (fun q => q = g ∨ F q ∨ G q) w w := Keep.refl _ _
 have hzhK0 := Keep.size hK0
 refine enterV Tryz.func17 rfl [pt r, pt l, pt v, nt who, nt of, .agg (hshc sum).toArray, nt after, nt now] 95 rfl rfl rfl ?_
 refine V_pick [(0, pt r), (1, pt l), (2, pt v), (3, nt who), (4, nt of), (5, .agg (hshc sum).toArray), (6, nt after), (7, nt now)] rfl ?_
 refine V_seq ?_
 refine V_region ?_
 refine OI_box 42 (.tmp 5) (.agg (hshc sum).toArray) (hshc sum) (some 13) (by kernel_rfl) (by kernel_rfl) rfl ?_
 intro b1 w1 e1 hb1 k1 z1
 have hsz2 := Keep.size k1
 replace hr := hr.keep k1 (fun f => f)
 replace hA := SlT.keep0 hA k1
 replace hR := Rfr.keep hR k1 (fun _ _ f => f)
 replace hV := VotT.keep hV k1 (fun _ _ f => f)
 replace hl := Led.keep hl k1 (fun _ _ f => f)
 replace hK0 := Keep.tr hK0 (Keep.ofNone k1)
 have hb1lt := hb1.lt
 refine OI_static 3 [(0, pt r), (1, pt l), (2, pt v), (3, nt who), (4, nt of), (6, nt after), (7, nt now), (13, pt b1)] (by kernel_rfl) ?_
 refine OI_end rfl ?_
 refine X_then ?_
 refine V_seq ?_
 refine V_region ?_
 refine OI_static 2 [(0, pt r), (1, pt l), (2, pt v), (3, nt who), (4, nt of), (6, nt after), (7, nt now), (13, pt b1), (23, pt r), (24, nt of)] (by kernel_rfl) ?_
 refine OI_call { callee := (Callee.value (Operand.func 29)), args := #[(Operand.tmp 23), (Operand.tmp 24)], argTypes := #[34, 3] } 29 #[pt r, nt of] (some 25) (by kernel_rfl) (by kernel_rfl) (by kernel_rfl) (rtrack_spec H r g ts rs of _ hR) ?_
 rintro _ w3 ⟨rfl, hk4⟩
 refine ⟨_, rfl, ?_⟩
 have hsz5 := Keep.size hk4
 replace hr := hr.keep hk4 (fun f => f)
 replace hb1 := hb1.keep hk4 (fun f => f)
 replace hA := SlT.keep0 hA hk4
 replace hR := Rfr.keep hR hk4 (fun _ _ f => f)
 replace hV := VotT.keep hV hk4 (fun _ _ f => f)
 replace hl := Led.keep hl hk4 (fun _ _ f => f)
 replace hK0 := Keep.tr hK0 (Keep.ofNone hk4)
 refine OI_static 6 [(0, pt r), (1, pt l), (2, pt v), (3, nt who), (4, nt of), (6, nt after), (7, nt now), (13, pt b1), (26, .agg (Trk.cells (trkA ts of)).toArray), (27, .bool ((trkO ts of).isSome))] (by kernel_rfl) ?_
 refine OI_alloc 27 (.agg (Trk.cells Trk.zero).toArray) (Trk.cells Trk.zero) (some 18) (by kernel_rfl) (by kernel_rfl) (by kernel_rfl) ?_
 intro b6 w6 e6 hb6 k6 z6
 have hsz7 := Keep.size k6
 replace hr := hr.keep k6 (fun f => f)
 replace hb1 := hb1.keep k6 (fun f => f)
 replace hA := SlT.keep0 hA k6
 replace hR := Rfr.keep hR k6 (fun _ _ f => f)
 replace hV := VotT.keep hV k6 (fun _ _ f => f)
 replace hl := Led.keep hl k6 (fun _ _ f => f)
 replace hK0 := Keep.tr hK0 (Keep.ofNone k6)
 have hb6lt := hb6.lt
 refine OI_set (m := 18) (kd := true) 27 (.tmp 18) (.tmp 26) 0 (.agg (Trk.cells (trkA ts of)).toArray) (Trk.cells (trkA ts of)) none (by kernel_rfl) (by kernel_rfl) (by kernel_rfl) hb6 (by kernel_rfl) rfl (Trk.len _) (Nat.le_of_ble_eq_true (by kernel_rfl)) (Trk.one _) ?_
 intro w8 hb6_11 hk9 hz10
 replace hb6_11 : Blk w8 b6 (Trk.cells (trkA ts of)) 27 := (Blk.eqL (Trk.over _ _) hb6_11)
 have hsz12 := Keep.size hk9
 replace hr := hr.keep hk9 (by show ¬ (_ = _); omega)
 replace hb1 := hb1.keep hk9 (by show ¬ (_ = _); omega)
 replace hA := SlT.keep hA hk9 (fun q hq hs => by have hs : q = b6 := hs; have g0 := hAr q hq; have g1 := hAlt q hq; omega)
 replace hR := Rfr.keep hR hk9 (fun q hq hs => by have hs : q = b6 := hs; have g0 := hHo q hq; have g1 := hHlt q hq; omega)
 replace hV := VotT.keep hV hk9 (fun q hq hs => by have hs : q = b6 := hs; have g0 := hVr q hq; have g1 := hFlt q hq; omega)
 replace hl := Led.keep hl hk9 (fun q hq hs => by have hs : q = b6 := hs; have g0 := hlr q hq; have g1 := hGlt q hq; omega)
 replace hK0 := Keep.fresh hK0 hk9 (by intro i hi hs; first | exact hs | exact Or.inl hs | exact Or.inr hs | (exfalso; have hs2 : i = b6 := hs; omega))
 refine OI_static 9 [(0, pt r), (1, pt l), (2, pt v), (3, nt who), (4, nt of), (6, nt after), (7, nt now), (13, pt b1), (19, .bool ((trkO ts of).isSome))] (by kernel_rfl) ?_
 refine OI_end rfl ?_
 refine X_then ?_
 refine V_seq ?_
 refine V_block ?_
 refine V_seq ?_
 refine V_region ?_
 refine OI_static 3 [(0, pt r), (1, pt l), (2, pt v), (3, nt who), (4, nt of), (6, nt after), (7, nt now), (13, pt b1), (31, .bool (!((trkO ts of).isSome)))] (by kernel_rfl) ?_
 cases hg13 : (!((trkO ts of).isSome))
 ·
  refine OI_eq [(0, pt r), (1, pt l), (2, pt v), (3, nt who), (4, nt of), (6, nt after), (7, nt now), (13, pt b1), (31, .bool false)] (by first | rfl | rw [hg13]) ?_
  refine OI_static 15 [(0, pt r), (1, pt l), (2, pt v), (3, nt who), (4, nt of), (6, nt after), (7, nt now), (13, pt b1), (43, .bool (decide (who < 0)))] (by kernel_rfl) ?_
  by_cases hg14 : who < 0
  ·
   refine OI_eq [(0, pt r), (1, pt l), (2, pt v), (3, nt who), (4, nt of), (6, nt after), (7, nt now), (13, pt b1), (43, .bool true)] (by first | simp [hg14] | rfl) ?_
   refine OI_static 27 [(0, pt r), (1, pt l), (2, pt v), (3, nt who), (4, nt of), (6, nt after), (7, nt now), (13, pt b1), (28, .bool true)] (by kernel_rfl) ?_
   refine OI_end rfl ?_
   refine X_then ?_
   refine V_true rfl ?_
   refine V_seq ?_
   refine V_region ?_
   refine OI_static 2 [(16, nt 0), (17, nt 1)] (by kernel_rfl) ?_
   refine OI_end rfl ?_
   refine X_then ?_
   refine V_ret ?_
   refine X_ret_block ?_
   refine X_ret_then ?_
   have hE15 : subE xs cs s ts rs who of after = 1 := subE1 (.inr <| .inl hg14)
   obtain ⟨h115, h215, h315⟩ := sub_no hE15 (by decide)
   exact X_return (.tuple #[nt 0, nt 1]) rfl ⟨by rw [hE15]; rfl, ⟨H, F, G, (by rw [h315]; exact hR), (by rw [h215]; exact hV), (by rw [h115]; exact hl), hHr, hFr, hGr, hHF, hHG, hFG⟩, hK0⟩
  ·
   refine OI_eq [(0, pt r), (1, pt l), (2, pt v), (3, nt who), (4, nt of), (6, nt after), (7, nt now), (13, pt b1), (43, .bool false)] (by first | simp [hg14] | rfl) ?_
   refine OI_static 19 [(0, pt r), (1, pt l), (2, pt v), (3, nt who), (4, nt of), (6, nt after), (7, nt now), (13, pt b1), (47, .bool (decide (who ≥ 10)))] (by kernel_rfl) ?_
   by_cases hg16 : who ≥ 10
   ·
    refine OI_eq [(0, pt r), (1, pt l), (2, pt v), (3, nt who), (4, nt of), (6, nt after), (7, nt now), (13, pt b1), (47, .bool true)] (by first | simp [hg16] | rfl) ?_
    refine OI_static 27 [(0, pt r), (1, pt l), (2, pt v), (3, nt who), (4, nt of), (6, nt after), (7, nt now), (13, pt b1), (28, .bool true)] (by kernel_rfl) ?_
    refine OI_end rfl ?_
    refine X_then ?_
    refine V_true rfl ?_
    refine V_seq ?_
    refine V_region ?_
    refine OI_static 2 [(16, nt 0), (17, nt 1)] (by kernel_rfl) ?_
    refine OI_end rfl ?_
    refine X_then ?_
    refine V_ret ?_
    refine X_ret_block ?_
    refine X_ret_then ?_
    have hE17 : subE xs cs s ts rs who of after = 1 := subE1 (.inr <| .inr <| .inl hg16)
    obtain ⟨h117, h217, h317⟩ := sub_no hE17 (by decide)
    exact X_return (.tuple #[nt 0, nt 1]) rfl ⟨by rw [hE17]; rfl, ⟨H, F, G, (by rw [h317]; exact hR), (by rw [h217]; exact hV), (by rw [h117]; exact hl), hHr, hFr, hGr, hHF, hHG, hFG⟩, hK0⟩
   ·
    refine OI_eq [(0, pt r), (1, pt l), (2, pt v), (3, nt who), (4, nt of), (6, nt after), (7, nt now), (13, pt b1), (47, .bool false)] (by first | simp [hg16] | rfl) ?_
    refine OI_static 23 [(0, pt r), (1, pt l), (2, pt v), (3, nt who), (4, nt of), (6, nt after), (7, nt now), (13, pt b1), (51, .bool (decide (after < 0)))] (by kernel_rfl) ?_
    by_cases hg18 : after < 0
    ·
     refine OI_eq [(0, pt r), (1, pt l), (2, pt v), (3, nt who), (4, nt of), (6, nt after), (7, nt now), (13, pt b1), (51, .bool true)] (by first | simp [hg18] | rfl) ?_
     refine OI_static 27 [(0, pt r), (1, pt l), (2, pt v), (3, nt who), (4, nt of), (6, nt after), (7, nt now), (13, pt b1), (28, .bool true)] (by kernel_rfl) ?_
     refine OI_end rfl ?_
     refine X_then ?_
     refine V_true rfl ?_
     refine V_seq ?_
     refine V_region ?_
     refine OI_static 2 [(16, nt 0), (17, nt 1)] (by kernel_rfl) ?_
     refine OI_end rfl ?_
     refine X_then ?_
     refine V_ret ?_
     refine X_ret_block ?_
     refine X_ret_then ?_
     have hE19 : subE xs cs s ts rs who of after = 1 := subE1 (.inr <| .inr <| .inr <| .inl hg18)
     obtain ⟨h119, h219, h319⟩ := sub_no hE19 (by decide)
     exact X_return (.tuple #[nt 0, nt 1]) rfl ⟨by rw [hE19]; rfl, ⟨H, F, G, (by rw [h319]; exact hR), (by rw [h219]; exact hV), (by rw [h119]; exact hl), hHr, hFr, hGr, hHF, hHG, hFG⟩, hK0⟩
    ·
     refine OI_eq [(0, pt r), (1, pt l), (2, pt v), (3, nt who), (4, nt of), (6, nt after), (7, nt now), (13, pt b1), (51, .bool false)] (by first | simp [hg18] | rfl) ?_
     refine OI_static 27 [(0, pt r), (1, pt l), (2, pt v), (3, nt who), (4, nt of), (6, nt after), (7, nt now), (13, pt b1), (28, .bool (decide (after > 1000)))] (by kernel_rfl) ?_
     refine OI_end rfl ?_
     refine X_then ?_
     refine V_if (after > 1000) (by kernel_rfl) (fun hc20 => ?_) (fun hc20 => ?_)
     ·
      refine V_seq ?_
      refine V_region ?_
      refine OI_static 2 [(16, nt 0), (17, nt 1)] (by kernel_rfl) ?_
      refine OI_end rfl ?_
      refine X_then ?_
      refine V_ret ?_
      refine X_ret_block ?_
      refine X_ret_then ?_
      have hE21 : subE xs cs s ts rs who of after = 1 := subE1 (.inr <| .inr <| .inr <| .inr <| hc20)
      obtain ⟨h121, h221, h321⟩ := sub_no hE21 (by decide)
      exact X_return (.tuple #[nt 0, nt 1]) rfl ⟨by rw [hE21]; rfl, ⟨H, F, G, (by rw [h321]; exact hR), (by rw [h221]; exact hV), (by rw [h121]; exact hl), hHr, hFr, hGr, hHF, hHG, hFG⟩, hK0⟩
     ·
      refine V_seq ?_
      refine V_region ?_
      refine OI_static 3 [(0, pt r), (1, pt l), (2, pt v), (3, nt who), (4, nt of), (6, nt after), (7, nt now), (13, pt b1), (58, .pointer (some ⟨r, 1, none⟩))] (by kernel_rfl) ?_
      refine OI_cell 95 (.tmp 58) 1 (pt g) (some 59) (by kernel_rfl) (by kernel_rfl) hr (m := 1) (by kernel_rfl) rfl ?_
      refine OI_call { callee := (Callee.value (Operand.func 41)), args := #[(Operand.tmp 59)], argTypes := #[95] } 41 #[pt g] (some 60) (by kernel_rfl) (by kernel_rfl) (by kernel_rfl) (qlen_spec H r g ts rs _ hR) ?_
      rintro _ w8 ⟨rfl, rfl⟩
      refine ⟨_, rfl, ?_⟩
      refine OI_static 7 [(0, pt r), (1, pt l), (2, pt v), (3, nt who), (4, nt of), (6, nt after), (7, nt now), (13, pt b1), (55, .bool (decide (((rs.length : Nat) : Int) ≥ 12)))] (by kernel_rfl) ?_
      refine OI_end rfl ?_
      refine X_then ?_
      refine V_if (((rs.length : Nat) : Int) ≥ 12) (by kernel_rfl) (fun hc25 => ?_) (fun hc25 => ?_)
      ·
       refine V_seq ?_
       refine V_region ?_
       refine OI_static 2 [(16, nt 0), (17, nt 3)] (by kernel_rfl) ?_
       refine OI_end rfl ?_
       refine X_then ?_
       refine V_ret ?_
       refine X_ret_block ?_
       refine X_ret_then ?_
       have hE26 : subE xs cs s ts rs who of after = 3 := by
         rw [subEx (who := who) (of := of) (after := after) (ts := ts) (by simpa using hg13) (by omega)]
         rw [if_pos (by omega)]
       obtain ⟨h126, h226, h326⟩ := sub_no hE26 (by decide)
       exact X_return (.tuple #[nt 0, nt 3]) rfl ⟨by rw [hE26]; rfl, ⟨H, F, G, (by rw [h326]; exact hR), (by rw [h226]; exact hV), (by rw [h126]; exact hl), hHr, hFr, hGr, hHF, hHG, hFG⟩, hK0⟩
      ·
       refine V_skip ?_
       refine X_block ?_
       refine X_then ?_
       refine V_seq ?_
       refine V_region ?_
       refine OI_static 3 [(0, pt r), (1, pt l), (2, pt v), (3, nt who), (4, nt of), (6, nt after), (7, nt now), (13, pt b1), (64, .pointer (some ⟨r, 1, none⟩))] (by kernel_rfl) ?_
       refine OI_cell 95 (.tmp 64) 1 (pt g) (some 65) (by kernel_rfl) (by kernel_rfl) hr (m := 1) (by kernel_rfl) rfl ?_
       refine OI_call { callee := (Callee.value (Operand.func 41)), args := #[(Operand.tmp 65)], argTypes := #[95] } 41 #[pt g] (some 66) (by kernel_rfl) (by kernel_rfl) (by kernel_rfl) (qlen_spec H r g ts rs _ hR) ?_
       rintro _ w8 ⟨rfl, rfl⟩
       refine ⟨_, rfl, ?_⟩
       refine OI_static 6 [(0, pt r), (1, pt l), (2, pt v), (3, nt who), (4, nt of), (6, nt after), (7, nt now), (13, pt b1), (20, nt ((rs.length : Nat) : Int))] (by kernel_rfl) ?_
       refine OI_end rfl ?_
       refine X_then ?_
       refine V_seq ?_
       refine V_seq ?_
       refine V_region ?_
       refine OI_static 3 [(0, pt r), (1, pt l), (2, pt v), (3, nt who), (4, nt of), (6, nt after), (7, nt now), (13, pt b1), (20, nt ((rs.length : Nat) : Int)), (67, pt v), (68, nt ((rs.length : Nat) : Int)), (69, nt now)] (by kernel_rfl) ?_
       refine OI_call { callee := (Callee.value (Operand.func 42)), args := #[(Operand.tmp 67), (Operand.tmp 68), (Operand.const (Value.int IntKind.i64 0)), (Operand.tmp 69)], argTypes := #[33, 3, 3, 3] } 42 #[pt v, nt ((rs.length : Nat) : Int), nt 0, nt now] (some 70) (by kernel_rfl) (by kernel_rfl) (by kernel_rfl) (close_specT F v s ((rs.length : Nat) : Int) 0 now _ hV) ?_
       rintro _ w32 ⟨rfl, ⟨F34, ho35, hfr36⟩, hk33⟩
       refine ⟨_, rfl, ?_⟩
       have hsz37 := Keep.size hk33
       replace hr := hr.keep hk33 (fun hs => by have h1 := hVr _ hs; have h2 := hFlt _ hs; omega)
       replace hb1 := hb1.keep hk33 (fun hs => by have h1 := hVr _ hs; have h2 := hFlt _ hs; omega)
       replace hb6_11 := hb6_11.keep hk33 (fun hs => by have h1 := hVr _ hs; have h2 := hFlt _ hs; omega)
       replace hA := SlT.keep hA hk33 (fun q hq hs => (fun q h1 h2 => hHF q (hAo q h2).1 h1) q hs hq)
       replace hR := Rfr.keep hR hk33 (fun q hq hs => (fun q h1 h2 => hHF q h2 h1) q hs hq)
       replace hl := Led.keep hl hk33 (fun q hq hs => hFG q hs hq)
       replace hK0 := Keep.fresh hK0 hk33 (fun i hi hs => by rcases hFr i hs with h | h; exact .inr <| .inl h; (exfalso; omega))
       have own39 : ∀ q, F34 q → q ≠ r ∧ q ≠ r ∧ q ≠ b1 ∧ q ≠ b6 := fun q hq => by rcases hfr36 q hq with h | h; (have h1 := hVr q h; have h2 := hFlt q h; omega); omega
       have lt38 := VotT.lt ho35
       have rel40 : ∀ q, F34 q → F q ∨ w.heap.size ≤ q := fun q hq => by rcases hfr36 q hq with h | h; exact hFr q h; exact .inr (by omega)
       have dis41 : ∀ q, F34 q → ¬ inA A q := fun q h1 h2 => by rcases hfr36 q h1 with h | h; exact (fun q h1 h2 => hHF q (hAo q h2).1 h1) q h h2; (have h4 := hAlt q h2; omega)
       have dis42 : ∀ q, F34 q → ¬ H q := fun q h1 h2 => by rcases hfr36 q h1 with h | h; exact (fun q h1 h2 => hHF q h2 h1) q h h2; (have h4 := hHlt q h2; omega)
       have dis43 : ∀ q, F34 q → ¬ G q := fun q h1 h2 => by rcases hfr36 q h1 with h | h; exact hFG q h h2; (have h4 := hGlt q h2; omega)
       rw [closeS0] at ho35
       refine OI_static 5 [(0, pt r), (1, pt l), (2, pt v), (3, nt who), (4, nt of), (6, nt after), (7, nt now), (13, pt b1), (20, nt ((rs.length : Nat) : Int)), (71, .bool (!(decide (closeE s ((rs.length : Nat) : Int) 0 = 4))))] (by kernel_rfl) ?_
       refine OI_end rfl ?_
       refine X_then ?_
       refine V_not (closeE s ((rs.length : Nat) : Int) 0 = 4) (by kernel_rfl) (fun hc44 => ?_) (fun hc44 => ?_)
       ·
        refine V_seq ?_
        refine V_region ?_
        refine OI_static 2 [(16, nt 0), (17, nt 5)] (by kernel_rfl) ?_
        refine OI_end rfl ?_
        refine X_then ?_
        refine V_ret ?_
        refine X_ret_then ?_
        have hE45 : subE xs cs s ts rs who of after = 5 := by
          rw [subEx (who := who) (of := of) (after := after) (ts := ts) (by simpa using hg13) (by omega)]
          rw [if_neg (by omega)]
          exact if_pos (by cases h9 : (pollAt s rs.length).isSome; exact absurd (closeE4.2 h9) hc44; rfl)
        obtain ⟨h145, h245, h345⟩ := sub_no hE45 (by decide)
        exact X_return (.tuple #[nt 0, nt 5]) rfl ⟨by rw [hE45]; rfl, ⟨H, F34, G, (by rw [h345]; exact hR), (by rw [h245]; exact ho35), (by rw [h145]; exact hl), hHr, rel40, hGr, (fun q h1 h2 => dis42 q h2 h1), hHG, dis43⟩, hK0⟩
       ·
        refine V_skip ?_
        refine X_then ?_
        refine V_seq ?_
        refine V_seq ?_
        refine V_region ?_
        refine OI_static 2 [(0, pt r), (2, pt v), (3, nt who), (4, nt of), (6, nt after), (7, nt now), (13, pt b1), (20, nt ((rs.length : Nat) : Int)), (72, pt l), (73, nt who)] (by kernel_rfl) ?_
        refine OI_call { callee := (Callee.value (Operand.func 43)), args := #[(Operand.tmp 72), (Operand.tmp 73), (Operand.const (Value.int IntKind.i64 10))], argTypes := #[32, 3, 3] } 43 #[pt l, nt who, nt 10] (some 74) (by kernel_rfl) (by kernel_rfl) (by kernel_rfl) (reserve_spec G l xs cs who 10 _ hl) ?_
        rintro _ w48 ⟨rfl, ⟨F50, ho51, hfr52⟩, hk49⟩
        refine ⟨_, rfl, ?_⟩
        have hsz53 := Keep.size hk49
        replace hr := hr.keep hk49 (fun hs => by have h1 := hlr _ hs; have h2 := hGlt _ hs; omega)
        replace hb1 := hb1.keep hk49 (fun hs => by have h1 := hlr _ hs; have h2 := hGlt _ hs; omega)
        replace hb6_11 := hb6_11.keep hk49 (fun hs => by have h1 := hlr _ hs; have h2 := hGlt _ hs; omega)
        replace hA := SlT.keep hA hk49 (fun q hq hs => (fun q h1 h2 => hHG q (hAo q h2).1 h1) q hs hq)
        replace hR := Rfr.keep hR hk49 (fun q hq hs => (fun q h1 h2 => hHG q h2 h1) q hs hq)
        replace hK0 := Keep.fresh hK0 hk49 (fun i hi hs => by rcases hGr i hs with h | h; exact .inr <| .inr <| h; (exfalso; omega))
        replace ho35 := VotT.keep ho35 hk49 (fun q hq hs => (fun q h1 h2 => dis43 q h2 h1) q hs hq)
        have own55 : ∀ q, F50 q → q ≠ r ∧ q ≠ r ∧ q ≠ b1 ∧ q ≠ b6 := fun q hq => by rcases hfr52 q hq with h | h; (have h1 := hlr q h; have h2 := hGlt q h; omega); omega
        have lt54 := Led.lt ho51
        have rel56 : ∀ q, F50 q → G q ∨ w.heap.size ≤ q := fun q hq => by rcases hfr52 q hq with h | h; exact hGr q h; exact .inr (by omega)
        have dis57 : ∀ q, F50 q → ¬ inA A q := fun q h1 h2 => by rcases hfr52 q h1 with h | h; exact (fun q h1 h2 => hHG q (hAo q h2).1 h1) q h h2; (have h4 := hAlt q h2; omega)
        have dis58 : ∀ q, F50 q → ¬ H q := fun q h1 h2 => by rcases hfr52 q h1 with h | h; exact (fun q h1 h2 => hHG q h2 h1) q h h2; (have h4 := hHlt q h2; omega)
        have dis59 : ∀ q, F50 q → ¬ F34 q := fun q h1 h2 => by rcases hfr52 q h1 with h | h; exact (fun q h1 h2 => dis43 q h2 h1) q h h2; (have h4 := lt38 q h2; omega)
        refine OI_static 4 [(0, pt r), (2, pt v), (3, nt who), (4, nt of), (6, nt after), (7, nt now), (13, pt b1), (20, nt ((rs.length : Nat) : Int)), (21, nt (spendsE xs cs who 10))] (by kernel_rfl) ?_
        refine OI_end rfl ?_
        refine X_then ?_
        refine V_seq ?_
        refine V_region ?_
        refine OI_static 2 [(0, pt r), (2, pt v), (3, nt who), (4, nt of), (6, nt after), (7, nt now), (13, pt b1), (20, nt ((rs.length : Nat) : Int)), (21, nt (spendsE xs cs who 10)), (76, .bool (!(decide (spendsE xs cs who 10 = 0))))] (by kernel_rfl) ?_
        refine OI_end rfl ?_
        refine X_then ?_
        refine V_not (spendsE xs cs who 10 = 0) (by kernel_rfl) (fun hc60 => ?_) (fun hc60 => ?_)
        ·
         refine V_seq ?_
         refine V_region ?_
         refine OI_static 3 [(16, nt 0), (17, nt (spendsE xs cs who 10))] (by kernel_rfl) ?_
         refine OI_end rfl ?_
         refine X_then ?_
         refine V_ret ?_
         refine X_ret_then ?_
         have hE61 : subE xs cs s ts rs who of after = (spendsE xs cs who 10) := by
           rw [subEx (who := who) (of := of) (after := after) (ts := ts) (by simpa using hg13) (by omega)]
           rw [if_neg (by omega)]
           rw [if_neg (by rw [closeE4.1 hc44]; decide)]
         obtain ⟨h161, h261, h361⟩ := sub_no hE61 (hc60)
         exact X_return (.tuple #[nt 0, nt (spendsE xs cs who 10)]) rfl ⟨by rw [hE61]; rw [if_neg (hc60)], ⟨H, F34, F50, (by rw [h361]; exact hR), (by rw [h261]; exact ho35), (by rw [show subX xs cs s ts rs who of after = resX xs cs who 10 from h161.trans (by unfold resX; rw [if_neg (hc60)])]; exact ho51), hHr, rel40, rel56, (fun q h1 h2 => dis42 q h2 h1), (fun q h1 h2 => dis58 q h2 h1), (fun q h1 h2 => dis59 q h2 h1)⟩, hK0⟩
        ·
         refine V_skip ?_
         refine X_then ?_
         refine V_seq ?_
         refine V_region ?_
         refine OI_static 3 [(0, pt r), (3, nt who), (4, nt of), (6, nt after), (7, nt now), (13, pt b1), (20, nt ((rs.length : Nat) : Int)), (78, pt v), (79, nt ((rs.length : Nat) : Int)), (80, nt of)] (by kernel_rfl) ?_
         refine OI_call { callee := (Callee.value (Operand.func 44)), args := #[(Operand.tmp 78), (Operand.tmp 79), (Operand.tmp 80)], argTypes := #[33, 3, 3] } 44 #[pt v, nt ((rs.length : Nat) : Int), nt of] (some 81) (by kernel_rfl) (by kernel_rfl) (by kernel_rfl) (open_specT F34 v s ((rs.length : Nat) : Int) of _ ho35) ?_
         rintro _ w64 ⟨rfl, ⟨F66, ho67, hfr68⟩, hk65⟩
         refine ⟨_, rfl, ?_⟩
         have hsz69 := Keep.size hk65
         replace hr := hr.keep hk65 (fun hs => by have h1 := own39 _ hs; have h2 := lt38 _ hs; omega)
         replace hb1 := hb1.keep hk65 (fun hs => by have h1 := own39 _ hs; have h2 := lt38 _ hs; omega)
         replace hb6_11 := hb6_11.keep hk65 (fun hs => by have h1 := own39 _ hs; have h2 := lt38 _ hs; omega)
         replace hA := SlT.keep hA hk65 (fun q hq hs => dis41 q hs hq)
         replace hR := Rfr.keep hR hk65 (fun q hq hs => dis42 q hs hq)
         replace hK0 := Keep.fresh hK0 hk65 (fun i hi hs => by rcases rel40 i hs with h | h; exact .inr <| .inl h; (exfalso; omega))
         replace ho51 := Led.keep ho51 hk65 (fun q hq hs => (fun q h1 h2 => dis59 q h2 h1) q hs hq)
         have own71 : ∀ q, F66 q → q ≠ r ∧ q ≠ r ∧ q ≠ b1 ∧ q ≠ b6 := fun q hq => by rcases hfr68 q hq with h | h; (have h1 := own39 q h; have h2 := lt38 q h; omega); omega
         have lt70 := VotT.lt ho67
         have rel72 : ∀ q, F66 q → F q ∨ w.heap.size ≤ q := fun q hq => by rcases hfr68 q hq with h | h; exact rel40 q h; exact .inr (by omega)
         have dis73 : ∀ q, F66 q → ¬ inA A q := fun q h1 h2 => by rcases hfr68 q h1 with h | h; exact dis41 q h h2; (have h4 := hAlt q h2; omega)
         have dis74 : ∀ q, F66 q → ¬ H q := fun q h1 h2 => by rcases hfr68 q h1 with h | h; exact dis42 q h h2; (have h4 := hHlt q h2; omega)
         have dis75 : ∀ q, F66 q → ¬ F50 q := fun q h1 h2 => by rcases hfr68 q h1 with h | h; exact (fun q h1 h2 => dis59 q h2 h1) q h h2; (have h4 := lt54 q h2; omega)
         refine OI_end rfl ?_
         refine X_then ?_
         refine V_seq ?_
         refine V_draws (acts [11]) (fun q => q = g) [[0, 1, 2, 3, 4, 5, 6, 7, 8, 9, 10, 11]] (by kernel_rfl) (by repeat first | exact sure_body (by rintro _ _ ⟨h, _⟩; exact ⟨_, h⟩) | refine sure_then ?_ | refine sure_block ?_ | refine sure_join ?_) (by kernel_rfl) ?_
         intro w77 hk76 he78 L hL79
         have hsz80 := Keep.size hk76
         replace hr := hr.keep hk76 (fun f => f)
         replace hb1 := hb1.keep hk76 (fun f => f)
         replace hb6_11 := hb6_11.keep hk76 (fun f => f)
         replace hA := SlT.keep0 hA hk76
         replace hR := Rfr.keep hR hk76 (fun _ _ f => f)
         replace hK0 := Keep.tr hK0 (Keep.ofNone hk76)
         replace ho51 := Led.keep ho51 hk76 (fun _ _ f => f)
         replace ho67 := VotT.keep ho67 hk76 (fun _ _ f => f)
         have qhr := hr
         have qhb1 := hb1
         have qhb6_11 := hb6_11
         have K81 : Keep (fun q => q = g) w77 w77 := Keep.refl _ _
         obtain rfl := List.mem_singleton.1 hL79
         refine GI_static [3, 4, 5, 6, 7, 8, 9, 10, 11] [(3, nt who), (4, nt of), (6, nt after), (7, nt now), (13, pt b1), (20, nt ((rs.length : Nat) : Int)), (84, .pointer (some ⟨r, 1, none⟩))] (by kernel_rfl) ?_
         refine GI_cell 95 (.tmp 84) 1 (pt g) (some 85) (by kernel_rfl) (by kernel_rfl) (by kernel_rfl) qhr (by show ¬ (r = g); omega) (m := 1) (by kernel_rfl) rfl ?_
         refine GI_static [6, 7, 8, 9, 10, 11] [(3, nt who), (6, nt after), (7, nt now), (13, pt b1), (20, nt ((rs.length : Nat) : Int)), (85, pt g), (86, nt ((rs.length : Nat) : Int)), (87, nt of)] (by kernel_rfl) ?_
         refine GI_agg 42 (.tmp 13) 0 (hshc sum) (some 88) (by kernel_rfl) (by kernel_rfl) (by kernel_rfl) qhb1 (by show ¬ (b1 = g); omega) (m := 32) (by kernel_rfl) (take_all (hshc_len _)) (hshc_len _) ?_
         refine GI_static [11] [(20, nt ((rs.length : Nat) : Int)), (85, pt g), (86, nt ((rs.length : Nat) : Int)), (92, .agg (Rfm.cells (newR of sum after now who)).toArray)] (by kernel_rfl) ?_
         refine GI_final 11 (by kernel_rfl) (by kernel_rfl) ?_
         refine OI_call { callee := (Callee.value (Operand.func 45)), args := #[(Operand.tmp 85), (Operand.const (Value.int IntKind.i64 0)), (Operand.tmp 86), (Operand.tmp 92)], argTypes := #[95, 3, 3, 57] } 45 #[pt g, nt 0, nt ((rs.length : Nat) : Int), .agg (Rfm.cells (newR of sum after now who)).toArray] (some 93) (by kernel_rfl) (by kernel_rfl) (by kernel_rfl) (rnew_spec H r g ts rs (newR of sum after now who) _ hR (by omega) (show 0 ≤ of ∧ of < (ts.length : Int) from trk_some (by simpa using hg13))) ?_
         rintro _ w84 ⟨rfl, ⟨H86, hR87, hfr88⟩, hk85⟩
         refine ⟨_, rfl, ?_⟩
         have hsz89 := Keep.size hk85
         replace hr := hr.keep hk85 (fun hs => by have h1 := hgo _ hs; have h2 := hgl _ hs; omega)
         replace hb1 := hb1.keep hk85 (fun hs => by have h1 := hgo _ hs; have h2 := hgl _ hs; omega)
         replace hb6_11 := hb6_11.keep hk85 (fun hs => by have h1 := hgo _ hs; have h2 := hgl _ hs; omega)
         replace hA := SlT.keep hA hk85 (fun q hq hs => (fun q h1 h2 => (hAo q h2).2.2 h1) q hs hq)
         replace hK0 := Keep.fresh hK0 hk85 (by intro i hi hs; first | exact hs | (exfalso; have h1 := hgo i hs; have h2 := hgl i hs; omega) | (have h1 := hgo i hs; have h2 := hgl i hs; show _ ∨ _; omega))
         replace ho51 := Led.keep ho51 hk85 (fun q hq hs => (fun q h1 h2 => (fun q h1 h2 => dis58 q h2 h1) q (by rw [show q = g from h1]; exact hgH) h2) q hs hq)
         replace ho67 := VotT.keep ho67 hk85 (fun q hq hs => (fun q h1 h2 => (fun q h1 h2 => dis74 q h2 h1) q (by rw [show q = g from h1]; exact hgH) h2) q hs hq)
         have own91 : ∀ q, H86 q → 0 ≤ q ∧ q ≠ b1 ∧ q ≠ b6 := fun q hq => by rcases hfr88 q hq with h | h; (have h1 := hHo q h; have h2 := hHlt q h; omega); omega
         have lt90 := Rfr.lt hR87
         have rel92 : ∀ q, H86 q → H q ∨ w.heap.size ≤ q := fun q hq => by rcases hfr88 q hq with h | h; exact hHr q h; exact .inr (by omega)
         have dis93 : ∀ q, H86 q → ¬ F50 q := fun q h1 h2 => by rcases hfr88 q h1 with h | h; exact (fun q h1 h2 => dis58 q h2 h1) q h h2; (have h4 := lt54 q h2; omega)
         have dis94 : ∀ q, H86 q → ¬ F66 q := fun q h1 h2 => by rcases hfr88 q h1 with h | h; exact (fun q h1 h2 => dis74 q h2 h1) q h h2; (have h4 := lt70 q h2; omega)
         refine OI_end rfl ?_
         refine X_then ?_
         refine V_seq ?_
         refine V_region ?_
         refine OI_static 3 [(16, nt ((rs.length : Nat) : Int)), (17, nt 0)] (by kernel_rfl) ?_
         refine OI_end rfl ?_
         refine X_then ?_
         refine V_ret ?_
         have hE95 : subE xs cs s ts rs who of after = 0 := by
           rw [subEx (who := who) (of := of) (after := after) (ts := ts) (by simpa using hg13) (by omega)]
           rw [if_neg (by omega)]
           rw [if_neg (by rw [closeE4.1 hc44]; decide)]
           exact hc60
         obtain ⟨h195, h295, h395⟩ := sub_go hE95
         exact X_return (.tuple #[nt ((rs.length : Nat) : Int), nt 0]) rfl ⟨by rw [hE95]; rfl, ⟨H86, F66, F50, (by rw [h395]; exact hR87), (by rw [h295]; exact ho67), (by rw [h195]; exact ho51), rel92, rel72, rel56, dis94, dis93, dis75⟩, hK0⟩
 ·
  refine OI_eq [(0, pt r), (1, pt l), (2, pt v), (3, nt who), (4, nt of), (6, nt after), (7, nt now), (13, pt b1), (31, .bool true)] (by first | rfl | rw [hg13]) ?_
  refine OI_static 27 [(0, pt r), (1, pt l), (2, pt v), (3, nt who), (4, nt of), (6, nt after), (7, nt now), (13, pt b1), (28, .bool true)] (by kernel_rfl) ?_
  refine OI_end rfl ?_
  refine X_then ?_
  refine V_true rfl ?_
  refine V_seq ?_
  refine V_region ?_
  refine OI_static 2 [(16, nt 0), (17, nt 1)] (by kernel_rfl) ?_
  refine OI_end rfl ?_
  refine X_then ?_
  refine V_ret ?_
  refine X_ret_block ?_
  refine X_ret_then ?_
  have hE96 : subE xs cs s ts rs who of after = 1 := subE1 (.inl (by simpa using hg13))
  obtain ⟨h196, h296, h396⟩ := sub_no hE96 (by decide)
  exact X_return (.tuple #[nt 0, nt 1]) rfl ⟨by rw [hE96]; rfl, ⟨H, F, G, (by rw [h396]; exact hR), (by rw [h296]; exact hV), (by rw [h196]; exact hl), hHr, hFr, hGr, hHF, hHG, hFG⟩, hK0⟩
end Go.Al


namespace Go.Al
open Go Go.RowKit Go.Proofs
section
variable {xs : List Acc} {cs : List Ci} {s : VS} {ts : List Trk} {rs : List Rfm} {who of after ref now : Int}
theorem getR_at (h : (getR rs ref).isSome = true) : getR rs ref = some (getA rs ref) := by
  unfold getA
  cases hx : getR rs ref with
  | none => rw [hx] at h; cases h
  | some x => rfl
theorem getA_at (hin : RfIn ts rs) (h : getR rs ref = some (getA rs ref)) : (0 ≤ ref ∧ ref < rs.length) ∧ (0 ≤ (getA rs ref).track ∧ (getA rs ref).track < ts.length) ∧ rs[ref.toNat]? = some (getA rs ref) := by
  obtain ⟨h1, h2, h3, _⟩ := getA_in hin h
  exact ⟨h1, h2, h3⟩
end

end Go.Al


namespace Go.Al
open Go Go.RowKit Go.Proofs
theorem SlT.take {α : Type} {w : World} {sz cap : Nat} {f : α → List Value} {A : Option Addr} {xs : List α} (h : SlT w sz f A cap xs) (n : Nat) : SlT w sz f A cap (xs.take n) := by
  rcases h with ⟨h1, h2, h3⟩ | ⟨b, o, L, T, h1, h2, h3, h4, h5, h6⟩
  · refine .inl ⟨h1, h2, ?_⟩
    rw [List.map_take, h3, List.take_nil]
  · refine .inr ⟨b, o, L, T, h1, h2, ?_, h4, ?_, fun e he => h6 e ?_⟩
    · rw [List.length_map, List.length_take]; rw [List.length_map] at h3; omega
    · rw [List.map_take, ← flatten_take h6 n, ← h5, List.take_take, List.length_take]
      congr 1
      rcases Nat.le_total n (xs.map f).length with hn | hn
      · rw [Nat.min_eq_left hn, Nat.min_eq_left (Nat.mul_le_mul_right _ hn)]
      · rw [Nat.min_eq_right hn, Nat.min_eq_right (Nat.mul_le_mul_right _ hn)]
    · rw [List.map_take] at he; exact List.mem_of_mem_take he
section
variable {ts : List Trk} {rs : List Rfm} {now : Int} {s : VS}
theorem setN_len (rs : List Rfm) (ref : Int) : (setN now rs ref).length = rs.length := by unfold setN; rw [List.length_set]
theorem setsN_len : ∀ (l : List Int) (rs : List Rfm), (l.foldl (setN now) rs).length = rs.length
  | [], _ => rfl
  | x :: l, rs => by rw [List.foldl_cons, setsN_len l, setN_len]
theorem setsN_step {l : List Int} {i : Nat} {x : Int} (h : l[i]? = some x) : (l.take (i + 1)).foldl (setN now) rs = setN now ((l.take i).foldl (setN now) rs) x := by
  obtain ⟨h1, rfl⟩ := List.getElem?_eq_some_iff.1 h
  rw [List.take_succ_eq_append_getElem h1, List.foldl_append]; rfl
theorem begN (ts : List Trk) (rs : List Rfm) (j : Nat) (now : Int) : ∃ n : Nat, imin (((waitL ts (j : Int) now 0 rs).length : Nat) : Int) (imax ((trkA ts (j : Int)).most - decN (j : Int) rs) 0) = n ∧ n ≤ (waitL ts (j : Int) now 0 rs).length := by
  refine ⟨(imin (((waitL ts (j : Int) now 0 rs).length : Nat) : Int) (imax ((trkA ts (j : Int)).most - decN (j : Int) rs) 0)).toNat, ?_, ?_⟩ <;> unfold imin imax <;> split <;> split <;> omega
theorem getA_len {i : Int} (hr : 0 ≤ i ∧ i < rs.length) : getR rs i = some (getA rs i) := by
  refine getR_at ?_
  unfold getR
  rw [if_pos hr, List.getElem?_eq_getElem (by omega)]; rfl
end

set_option maxRecDepth 10000 in
set_option maxHeartbeats 2000000 in
theorem begins_spec (H : Nat → Prop) (r g : Nat) (ts : List Trk) (rs : List Rfm) (F : Nat → Prop) (v : Nat) (s : VS) (j : Nat) (now : Int) (w : World) (hR : Rfr H w r g ts rs) (hV : VotT F w v s) (hHF : ∀ q, H q → ¬ F q) (hj : j < ts.length) : Calls Tryz.prog 49 #[.pointer (some ⟨r, 0, none⟩), .pointer (some ⟨v, 0, none⟩), .int .i64 (j : Int), .int .i64 now] w fun e w' => e = .returned (.tuple #[]) ∧ (∃ H', Rfr H' w' r g ts (begR ts s now rs (j : Int)) ∧ (∀ q, H' q → H q ∨ w.heap.size ≤ q)) ∧ Keep (only g) w w' := by
 have hHlt := Rfr.lt hR
 have hrH := Rfr.at_ hR
 have hgH := Rfr.atg hR
 have hrlt := hHlt _ hrH
 have hglt := hHlt _ hgH
 have hin := Rfr.inn hR
 obtain ⟨A, cap, hr, hA, hAo, hrg⟩ := Rfr.parts hR
 have hAlt := SlT.lt hA
 have hAr : ∀ q, inA A q → q ≠ r ∧ q ≠ g ∧ q < w.heap.size := fun q hq => ⟨(hAo q hq).2.1, (hAo q hq).2.2, hAlt q hq⟩
 have hgo : ∀ q, only g q → q ≠ r ∧ q = g := fun q hq => ⟨fun e => hrg (e.symm.trans hq), hq⟩
 have hgl : ∀ q, only g q → q < w.heap.size := fun q hq => by rw [show q = g from hq]; exact hglt
 have hHo : ∀ q, H q → 0 ≤ q := fun q _ => Nat.zero_le q
 have htl := hin.tl
 have hrl := hin.rl
 have hFlt := VotT.lt hV
 have hvlt := hFlt _ (VotT.at_ hV)
 have hVr : ∀ q, F q → q ≠ r := fun q hq e => hHF r hrH (e ▸ hq)
 have hHr : ∀ q, H q → H q ∨ w.heap.size ≤ q := fun _ h => .inl h
 obtain ⟨j9, hjj, _, htk, htm⟩ := trkA_at (ts := ts) (i := (j : Int)) (by omega)
 rw [show j9 = j by omega] at htk
 have hokt := hin.tok _ htm
 have hmost := hokt.1
 have hK0 : Keep (only g) w w := Keep.refl _ _
 have hzhK0 := Keep.size hK0
 refine enterV Tryz.func49 rfl [pt r, pt v, nt ((j : Nat) : Int), nt now] 59 rfl rfl rfl ?_
 refine V_pick [(0, pt r), (1, pt v), (2, nt ((j : Nat) : Int)), (3, nt now)] rfl ?_
 refine V_seq ?_
 refine V_region ?_
 refine OI_static 4 [(0, pt r), (2, nt ((j : Nat) : Int)), (3, nt now), (15, pt r), (16, pt v), (17, nt ((j : Nat) : Int)), (18, nt now)] (by kernel_rfl) ?_
 refine OI_call { callee := (Callee.value (Operand.func 103)), args := #[(Operand.tmp 15), (Operand.tmp 16), (Operand.tmp 17), (Operand.tmp 18)], argTypes := #[34, 33, 3, 3] } 103 #[pt r, pt v, nt ((j : Nat) : Int), nt now] (some 19) (by kernel_rfl) (by kernel_rfl) (by kernel_rfl) (waits_spec H r g ts rs F v s j now _ hR hV hHF hj) ?_
 rintro _ w1 ⟨A3, cap3, rfl, hA3, ow3, hk2⟩
 refine ⟨_, rfl, ?_⟩
 have hsz4 := Keep.size hk2
 replace hr := hr.keep hk2 (fun f => f)
 replace hA := SlT.keep0 hA hk2
 replace hR := Rfr.keep hR hk2 (fun _ _ f => f)
 replace hK0 := Keep.tr hK0 (Keep.ofNone hk2)
 have hwl9 := waitL_len (ts := ts) (of := (j : Int)) (now := now) rs 0
 have hdn9 := decN_bnd (of := (j : Int)) rs
 have hsl9 := sortD_len (fun r => (tallyT s r).a) (waitL ts (j : Int) now 0 rs)
 obtain ⟨nb9, hnb9, hnl9⟩ := begN ts rs j now
 have hcp9 := SlT.cap_le hA3
 replace hA3 := SlT.take hA3 nb9
 have ltA3 := SlT.lt hA3
 have htl9 : ((sortD (fun r => (tallyT s r).a) (waitL ts (j : Int) now 0 rs)).take nb9).length = nb9 := by rw [List.length_take, hsl9]; omega
 generalize hls9 : (sortD (fun r => (tallyT s r).a) (waitL ts (j : Int) now 0 rs)).take nb9 = ls at hA3 htl9
 refine OI_static 10 [(0, pt r), (2, nt ((j : Nat) : Int)), (3, nt now), (8, .slice A3 ((waitL ts (j : Int) now 0 rs).length) cap3), (9, nt (decN (j : Int) rs))] (by kernel_rfl) ?_
 refine OI_end rfl ?_
 refine X_then ?_
 refine V_seq ?_
 refine V_region ?_
 refine OI_static 6 [(0, pt r), (2, nt ((j : Nat) : Int)), (3, nt now), (9, nt (decN (j : Int) rs)), (22, .slice A3 ((waitL ts (j : Int) now 0 rs).length) cap3), (24, nt (((waitL ts (j : Int) now 0 rs).length : Nat) : Int)), (27, pt r)] (by kernel_rfl) ?_
 refine OI_cell 29 (.tmp 27) 0 (.slice A ts.length cap) (some 28) (by kernel_rfl) (by kernel_rfl) hr (m := 1) (by kernel_rfl) rfl ?_
 refine OI_static 8 [(0, pt r), (3, nt now), (9, nt (decN (j : Int) rs)), (22, .slice A3 ((waitL ts (j : Int) now 0 rs).length) cap3), (24, nt (((waitL ts (j : Int) now 0 rs).length : Nat) : Int)), (28, .slice A ts.length cap), (29, nt ((j : Nat) : Int))] (by kernel_rfl) ?_
 obtain ⟨b5, o5, L5, T5, rfl, hat5⟩ := SlT.open_ hA (by first | omega | (simp only [List.length_map]; omega) | (simp; done) | (simp; omega))
 have hb5lt := hat5.blk.lt
 have hob6 := hAr b5 ⟨_, rfl, rfl⟩
 have hob7 := hAlt b5 ⟨_, rfl, rfl⟩
 refine OI_pure (some 30) (.indexAddr 29 (.tmp 28) (.tmp 29)) (by kernel_rfl) (pure_idxN (b := b5) (o := o5) (len := ts.length) (cap := cap) (kd := .i64) (j := j) (E := 27) (sz := 18) (by_ := 144) (by kernel_rfl) (by kernel_rfl) (by kernel_rfl) (by omega)) ?_
 refine OI_static 10 [(0, pt r), (3, nt now), (9, nt (decN (j : Int) rs)), (22, .slice A3 ((waitL ts (j : Int) now 0 rs).length) cap3), (24, nt (((waitL ts (j : Int) now 0 rs).length : Nat) : Int)), (31, .pointer (some ⟨b5, o5 + j * 18, none⟩))] (by kernel_rfl) ?_
 refine OI_cell 3 (.tmp 31) (o5 + j * 18) (nt ((trkA ts ((j : Nat) : Int)).most)) (some 32) (by kernel_rfl) (by kernel_rfl) hat5.blk (m := 1) (by kernel_rfl) (At.cell0 hat5 (es_at htk) rfl) ?_
 have hw8 : IntKind.i64.wrap (((trkA ts ((j : Nat) : Int)).most) - (decN (j : Int) rs)) = ((trkA ts ((j : Nat) : Int)).most) - (decN (j : Int) rs) := (wrap64_id (by omega) (by omega)).trans (by omega)
 refine OI_static 13 [(0, pt r), (3, nt now), (22, .slice A3 ((waitL ts (j : Int) now 0 rs).length) cap3), (24, nt (((waitL ts (j : Int) now 0 rs).length : Nat) : Int)), (34, nt (IntKind.i64.wrap (((trkA ts ((j : Nat) : Int)).most) - (decN (j : Int) rs))))] (by kernel_rfl) ?_
 refine OI_eq [(0, pt r), (3, nt now), (22, .slice A3 ((waitL ts (j : Int) now 0 rs).length) cap3), (24, nt (((waitL ts (j : Int) now 0 rs).length : Nat) : Int)), (34, nt (((trkA ts ((j : Nat) : Int)).most) - (decN (j : Int) rs)))] (by rw [hw8]) ?_
 refine OI_static 15 [(0, pt r), (3, nt now), (22, .slice A3 ((waitL ts (j : Int) now 0 rs).length) cap3), (36, nt (imin (((waitL ts (j : Int) now 0 rs).length : Nat) : Int) (imax (((trkA ts ((j : Nat) : Int)).most) - (decN (j : Int) rs)) 0)))] (by kernel_rfl) ?_
 refine OI_pick [(0, pt r), (3, nt now), (22, .slice A3 ((waitL ts (j : Int) now 0 rs).length) cap3), (36, nt (imin (((waitL ts (j : Int) now 0 rs).length : Nat) : Int) (imax (((trkA ts ((j : Nat) : Int)).most) - (decN (j : Int) rs)) 0)))] (by kernel_rfl) ?_
 refine OI_eq [(0, pt r), (3, nt now), (22, .slice A3 ((waitL ts (j : Int) now 0 rs).length) cap3), (36, nt ((nb9 : Nat) : Int))] (by rw [show imin (((waitL ts (j : Int) now 0 rs).length : Nat) : Int) (imax (((trkA ts ((j : Nat) : Int)).most) - (decN (j : Int) rs)) 0) = ((nb9 : Nat) : Int) from hnb9]) ?_
 refine OI_pure (some 37) ((Op.slice 72 (Operand.tmp 22) none (some (Operand.tmp 36)) none)) (by kernel_rfl) (pure_sliceTo (E := 3) (sz := 1) (by_ := 8) (base := A3) (len := (waitL ts (j : Int) now 0 rs).length) (cap := cap3) (h := nb9) (kd := .i64) (by kernel_rfl) (by kernel_rfl) (by kernel_rfl) (by omega)) ?_
 refine OI_static 18 [(0, pt r), (3, nt now), (37, .slice A3 nb9 cap3), (38, nt ((nb9 : Nat) : Int)), (39, nt 0)] (by kernel_rfl) ?_
 refine OI_end rfl ?_
 refine X_then ?_
 refine V_block ?_
 refine V_pick [(0, pt r), (3, nt now), (37, .slice A3 nb9 cap3), (38, nt ((nb9 : Nat) : Int)), (39, nt 0)] rfl ?_
 refine V_loop (fun k wI e => ∃ i : Nat, ∃ Hi : Nat → Prop, (k + i = nb9) ∧ (Rfr Hi wI r g ts ((ls.take i).foldl (setN now) rs)) ∧ (∀ q, Hi q → 0 ≤ q) ∧ (∀ q, Hi q → H q ∨ w.heap.size ≤ q) ∧ Keep (only g) w1 wI ∧ e = [(0, pt r), (3, nt now), (37, .slice A3 nb9 cap3), (38, nt ((nb9 : Nat) : Int)), (39, nt ((i : Nat) : Int))]) nb9 ⟨0, H, by omega, hR, (fun q _ => Nat.zero_le q), hHr, Keep.refl _ _, rfl⟩ ?_
 rintro k10 w9 _ ⟨i, Hi, hki, hRi, hHio, hHifr, hk11, rfl⟩
 have hsz12 := Keep.size hk11
 replace hr := hr.keep hk11 (fun hs => by have h1 := hgo _ hs; have h2 := hgl _ hs; omega)
 replace hat5 := hat5.keep hk11 (fun hs => by have h1 := hgo _ hs; have h2 := hgl _ hs; omega)
 replace hA3 := SlT.keep hA3 hk11 (fun q hq hs => by have g0 := ow3 q hq; have g1 := ltA3 q hq; have h1 := hgo q hs; have h2 := hgl q hs; omega)
 replace hK0 := Keep.fresh hK0 hk11 (by intro i hi hs; first | exact hs | (exfalso; have h1 := hgo i hs; have h2 := hgl i hs; omega) | (have h1 := hgo i hs; have h2 := hgl i hs; show _ ∨ _; omega))
 have hzhk11 := Keep.size hk11
 have lt13 := Rfr.lt hRi
 have hsn := setsN_len (now := now) (ls.take i) rs
 refine V_seq ?_
 refine V_region ?_
 refine OI_static 1 [(0, pt r), (3, nt now), (37, .slice A3 nb9 cap3), (38, nt ((nb9 : Nat) : Int)), (39, nt ((i : Nat) : Int)), (40, .bool (decide (((i : Nat) : Int) < ((nb9 : Nat) : Int))))] (by kernel_rfl) ?_
 refine OI_end rfl ?_
 refine X_then ?_
 refine V_seq ?_
 refine V_if (((i : Nat) : Int) < ((nb9 : Nat) : Int)) (by kernel_rfl) (fun hc14 => ?_) (fun hc14 => ?_)
 ·
  refine V_skip ?_
  refine X_then ?_
  refine V_seq ?_
  refine V_block ?_
  refine V_seq ?_
  refine V_region ?_
  obtain ⟨b15, o15, L15, T15, rfl, hat15⟩ := SlT.open_ hA3 (by first | omega | (simp only [List.length_map]; omega) | (simp; done) | (simp; omega))
  have hb15lt := hat15.blk.lt
  have hob16 := ow3 b15 ⟨_, rfl, rfl⟩
  have hob17 := ltA3 b15 ⟨_, rfl, rfl⟩
  refine OI_pure (some 41) (.indexAddr 72 (.tmp 37) (.tmp 39)) (by kernel_rfl) (pure_idxN (b := b15) (o := o15) (len := nb9) (cap := cap3) (kd := .i64) (j := i) (E := 3) (sz := 1) (by_ := 8) (by kernel_rfl) (by kernel_rfl) (by kernel_rfl) (by omega)) ?_
  obtain ⟨x18, hx19⟩ : ∃ x, ls[i]? = some x := ⟨_, List.getElem?_eq_getElem (by first | omega | (simp only [List.length_map]; omega))⟩
  have hmx : 0 ≤ x18 ∧ x18 < (rs.length : Int) := by have h1 := List.mem_of_getElem? hx19; rw [← hls9] at h1; have h2 := waitL_mem (sortD_mem (List.mem_of_mem_take h1)); omega
  have hmg := getA_len (rs := (ls.take i).foldl (setN now) rs) (i := x18) (by omega)
  have hmt := (getA_at (Rfr.inn hRi) hmg).2.1
  refine OI_cell 3 (.tmp 41) (o15 + i * 1) (nt x18) (some 42) (by kernel_rfl) (by kernel_rfl) hat15.blk (m := 1) (by kernel_rfl) (At.cell0 hat15 (es_at hx19) rfl) ?_
  refine OI_static 3 [(0, pt r), (3, nt now), (11, nt x18), (37, .slice (some ⟨b15, o15, none⟩) nb9 cap3), (38, nt ((nb9 : Nat) : Int)), (39, nt ((i : Nat) : Int))] (by kernel_rfl) ?_
  refine OI_end rfl ?_
  refine X_then ?_
  refine V_seq ?_
  refine V_region ?_
  refine OI_static 2 [(0, pt r), (3, nt now), (11, nt x18), (37, .slice (some ⟨b15, o15, none⟩) nb9 cap3), (38, nt ((nb9 : Nat) : Int)), (39, nt ((i : Nat) : Int)), (44, pt r), (45, nt x18)] (by kernel_rfl) ?_
  refine OI_call { callee := (Callee.value (Operand.func 23)), args := #[(Operand.tmp 44), (Operand.tmp 45)], argTypes := #[34, 3] } 23 #[pt r, nt x18] (some 46) (by kernel_rfl) (by kernel_rfl) (by kernel_rfl) (rget_spec Hi r g ts ((ls.take i).foldl (setN now) rs) x18 _ hRi) ?_
  rintro _ w22 ⟨rfl, hk23⟩
  refine ⟨_, rfl, ?_⟩
  have hsz24 := Keep.size hk23
  replace hr := hr.keep hk23 (fun f => f)
  replace hat5 := hat5.keep hk23 (fun f => f)
  replace hat15 := hat15.keep hk23 (fun f => f)
  replace hK0 := Keep.tr hK0 (Keep.ofNone hk23)
  replace hk11 := Keep.tr hk11 (Keep.ofNone hk23)
  replace hRi := Rfr.keep hRi hk23 (fun _ _ f => f)
  refine OI_static 6 [(0, pt r), (3, nt now), (11, nt x18), (37, .slice (some ⟨b15, o15, none⟩) nb9 cap3), (38, nt ((nb9 : Nat) : Int)), (39, nt ((i : Nat) : Int)), (47, .agg (Rfm.cells (getA ((ls.take i).foldl (setN now) rs) x18)).toArray), (48, .bool ((getR ((ls.take i).foldl (setN now) rs) x18).isSome))] (by kernel_rfl) ?_
  refine OI_alloc 57 (.agg (Rfm.cells Rfm.zero).toArray) (Rfm.cells Rfm.zero) (some 12) (by kernel_rfl) (by kernel_rfl) (by kernel_rfl) ?_
  intro b25 w25 e25 hb25 k25 z25
  have hsz26 := Keep.size k25
  replace hr := hr.keep k25 (fun f => f)
  replace hat5 := hat5.keep k25 (fun f => f)
  replace hat15 := hat15.keep k25 (fun f => f)
  replace hK0 := Keep.tr hK0 (Keep.ofNone k25)
  replace hk11 := Keep.tr hk11 (Keep.ofNone k25)
  replace hRi := Rfr.keep hRi k25 (fun _ _ f => f)
  have hb25lt := hb25.lt
  refine OI_set (m := 45) (kd := true) 57 (.tmp 12) (.tmp 47) 0 (.agg (Rfm.cells (getA ((ls.take i).foldl (setN now) rs) x18)).toArray) (Rfm.cells (getA ((ls.take i).foldl (setN now) rs) x18)) none (by kernel_rfl) (by kernel_rfl) (by kernel_rfl) hb25 (by kernel_rfl) rfl (Rfm.len _) (Nat.le_of_ble_eq_true (by kernel_rfl)) (Rfm.one _) ?_
  intro w27 hb25_30 hk28 hz29
  replace hb25_30 : Blk w27 b25 (Rfm.cells (getA ((ls.take i).foldl (setN now) rs) x18)) 57 := (Blk.eqL (Rfm.over _ _) hb25_30)
  have hsz31 := Keep.size hk28
  replace hr := hr.keep hk28 (by show ¬ (_ = _); omega)
  replace hat5 := hat5.keep hk28 (by show ¬ (_ = _); omega)
  replace hat15 := hat15.keep hk28 (by show ¬ (_ = _); omega)
  replace hK0 := Keep.fresh hK0 hk28 (by intro i hi hs; first | exact hs | exact Or.inl hs | exact Or.inr hs | (exfalso; have hs2 : i = b25 := hs; omega))
  replace hk11 := Keep.fresh hk11 hk28 (by intro i hi hs; first | exact hs | exact Or.inl hs | exact Or.inr hs | (exfalso; have hs2 : i = b25 := hs; omega))
  replace hRi := Rfr.keep hRi hk28 (fun q hq hs => by have hs : q = b25 := hs; have g0 := hHio q hq; have g1 := lt13 q hq; omega)
  refine OI_static 9 [(0, pt r), (3, nt now), (11, nt x18), (12, pt b25), (37, .slice (some ⟨b15, o15, none⟩) nb9 cap3), (38, nt ((nb9 : Nat) : Int)), (39, nt ((i : Nat) : Int))] (by kernel_rfl) ?_
  refine OI_end rfl ?_
  refine X_then ?_
  refine V_seq ?_
  refine V_region ?_
  refine OI_static 2 [(0, pt r), (3, nt now), (11, nt x18), (12, pt b25), (37, .slice (some ⟨b15, o15, none⟩) nb9 cap3), (38, nt ((nb9 : Nat) : Int)), (39, nt ((i : Nat) : Int)), (49, nt now), (50, .pointer (some ⟨b25, 39, none⟩))] (by kernel_rfl) ?_
  refine OI_set (m := 1) (kd := false) 3 (.tmp 50) (.tmp 49) 39 (nt now) [nt now] none (by kernel_rfl) (by kernel_rfl) (by kernel_rfl) hb25_30 (by kernel_rfl) (by kernel_rfl) (by kernel_rfl) (Nat.le_of_ble_eq_true (by kernel_rfl)) (by simp [Value.oneCell']) ?_
  intro w32 hb25_35 hk33 hz34
  replace hb25_35 : Blk w32 b25 (Rfm.cells { (getA ((ls.take i).foldl (setN now) rs) x18) with since := now }) 57 := (Blk.eqL (by kernel_rfl) hb25_35)
  have hsz36 := Keep.size hk33
  replace hr := hr.keep hk33 (by show ¬ (_ = _); omega)
  replace hat5 := hat5.keep hk33 (by show ¬ (_ = _); omega)
  replace hat15 := hat15.keep hk33 (by show ¬ (_ = _); omega)
  replace hK0 := Keep.fresh hK0 hk33 (by intro i hi hs; first | exact hs | exact Or.inl hs | exact Or.inr hs | (exfalso; have hs2 : i = b25 := hs; omega))
  replace hk11 := Keep.fresh hk11 hk33 (by intro i hi hs; first | exact hs | exact Or.inl hs | exact Or.inr hs | (exfalso; have hs2 : i = b25 := hs; omega))
  replace hRi := Rfr.keep hRi hk33 (fun q hq hs => by have hs : q = b25 := hs; have g0 := hHio q hq; have g1 := lt13 q hq; omega)
  refine OI_end rfl ?_
  refine X_then ?_
  refine V_draws (acts [6]) none_ [[0, 1, 2, 3, 4, 5, 6]] (by kernel_rfl) (by repeat first | exact (by first | exact sure_body (by rintro _ _ ⟨_, _, h, _⟩; exact ⟨_, h⟩) | exact sure_body (by rintro _ _ ⟨h, _⟩; exact ⟨_, h⟩)) | refine sure_then ?_ | refine sure_block ?_ | refine sure_join ?_) (by kernel_rfl) ?_
  intro w38 hk37 he39 L hL40
  have hsz41 := Keep.size hk37
  replace hr := hr.keep hk37 (fun f => f)
  replace hb25_35 := hb25_35.keep hk37 (fun f => f)
  replace hat5 := hat5.keep hk37 (fun f => f)
  replace hat15 := hat15.keep hk37 (fun f => f)
  replace hK0 := Keep.tr hK0 (Keep.ofNone hk37)
  replace hk11 := Keep.tr hk11 (Keep.ofNone hk37)
  replace hRi := Rfr.keep hRi hk37 (fun _ _ f => f)
  have qhr := hr
  have qhb25_35 := hb25_35
  have qhat5 := hat5
  have qhat15 := hat15
  have K42 : Keep none_ w38 w38 := Keep.refl _ _
  obtain rfl := List.mem_singleton.1 hL40
  refine GI_static [3, 4, 5, 6] [(0, pt r), (3, nt now), (11, nt x18), (12, pt b25), (37, .slice (some ⟨b15, o15, none⟩) nb9 cap3), (38, nt ((nb9 : Nat) : Int)), (39, nt ((i : Nat) : Int)), (53, .pointer (some ⟨r, 1, none⟩))] (by kernel_rfl) ?_
  refine GI_cell 95 (.tmp 53) 1 (pt g) (some 54) (by kernel_rfl) (by kernel_rfl) (by kernel_rfl) qhr (fun f => f) (m := 1) (by kernel_rfl) rfl ?_
  refine GI_static [5, 6] [(0, pt r), (3, nt now), (12, pt b25), (37, .slice (some ⟨b15, o15, none⟩) nb9 cap3), (38, nt ((nb9 : Nat) : Int)), (39, nt ((i : Nat) : Int)), (54, pt g), (55, nt x18)] (by kernel_rfl) ?_
  refine GI_agg 57 (.tmp 12) 0 (Rfm.cells { (getA ((ls.take i).foldl (setN now) rs) x18) with since := now }) (some 56) (by kernel_rfl) (by kernel_rfl) (by kernel_rfl) qhb25_35 (fun f => f) (m := 45) (by kernel_rfl) (take_all (Rfm.len _)) (Rfm.len _) ?_
  refine GI_final 6 (by kernel_rfl) (by kernel_rfl) ?_
  refine OI_call { callee := (Callee.value (Operand.func 45)), args := #[(Operand.tmp 54), (Operand.const (Value.int IntKind.i64 0)), (Operand.tmp 55), (Operand.tmp 56)], argTypes := #[95, 3, 3, 57] } 45 #[pt g, nt 0, nt x18, .agg (Rfm.cells { (getA ((ls.take i).foldl (setN now) rs) x18) with since := now }).toArray] (some 57) (by kernel_rfl) (by kernel_rfl) (by kernel_rfl) (rset_spec Hi r g ts ((ls.take i).foldl (setN now) rs) x18 ({ (getA ((ls.take i).foldl (setN now) rs) x18) with since := now }) _ hRi (by omega) hmt) ?_
  rintro _ w47 ⟨rfl, ⟨H49, hR50, hfr51⟩, hk48⟩
  refine ⟨_, rfl, ?_⟩
  have hsz52 := Keep.size hk48
  replace hr := hr.keep hk48 (fun hs => by have h1 := hgo _ hs; have h2 := hgl _ hs; omega)
  replace hb25_35 := hb25_35.keep hk48 (fun hs => by have h1 := hgo _ hs; have h2 := hgl _ hs; omega)
  replace hat5 := hat5.keep hk48 (fun hs => by have h1 := hgo _ hs; have h2 := hgl _ hs; omega)
  replace hat15 := hat15.keep hk48 (fun hs => by have h1 := hgo _ hs; have h2 := hgl _ hs; omega)
  replace hK0 := Keep.fresh hK0 hk48 (by intro i hi hs; first | exact hs | (exfalso; have h1 := hgo i hs; have h2 := hgl i hs; omega) | (have h1 := hgo i hs; have h2 := hgl i hs; show _ ∨ _; omega))
  replace hk11 := Keep.fresh hk11 hk48 (by intro i hi hs; first | exact hs | (exfalso; have h1 := hgo i hs; have h2 := hgl i hs; omega) | (have h1 := hgo i hs; have h2 := hgl i hs; show _ ∨ _; omega))
  have own54 : ∀ q, H49 q → 0 ≤ q ∧ q ≠ b25 := fun q hq => by rcases hfr51 q hq with h | h; (have h1 := hHio q h; have h2 := lt13 q h; omega); omega
  have lt53 := Rfr.lt hR50
  have rel55 : ∀ q, H49 q → H q ∨ w.heap.size ≤ q := fun q hq => by rcases hfr51 q hq with h | h; exact hHifr q h; exact .inr (by omega)
  refine OI_end rfl ?_
  refine X_block ?_
  refine X_then ?_
  refine V_region ?_
  have hw56 : IntKind.i64.wrap (((i : Nat) : Int) + 1) = ((i + 1 : Nat) : Int) := (wrap64_id (by omega) (by omega)).trans (by omega)
  refine OI_static 1 [(0, pt r), (3, nt now), (37, .slice (some ⟨b15, o15, none⟩) nb9 cap3), (38, nt ((nb9 : Nat) : Int)), (58, nt (IntKind.i64.wrap (((i : Nat) : Int) + 1)))] (by kernel_rfl) ?_
  refine OI_eq [(0, pt r), (3, nt now), (37, .slice (some ⟨b15, o15, none⟩) nb9 cap3), (38, nt ((nb9 : Nat) : Int)), (58, nt ((i + 1 : Nat) : Int))] (by rw [hw56]) ?_
  refine OI_static 2 [(0, pt r), (3, nt now), (37, .slice (some ⟨b15, o15, none⟩) nb9 cap3), (38, nt ((nb9 : Nat) : Int)), (39, nt ((i + 1 : Nat) : Int))] (by kernel_rfl) ?_
  refine OI_end rfl ?_
  exact V_again (k10 - 1) (by omega) [(0, pt r), (3, nt now), (37, .slice (some ⟨b15, o15, none⟩) nb9 cap3), (38, nt ((nb9 : Nat) : Int)), (39, nt ((i + 1 : Nat) : Int))] rfl ⟨i + 1, H49, by omega, by rw [setsN_step hx19]; exact hR50, (fun q hq => by have h1 := own54 q hq; omega), rel55, hk11, rfl⟩
 ·
  refine V_exit ?_
  refine X_exit_then ?_
  refine X_exit_then ?_
  refine X_exit_here ?_
  have hie : i = nb9 := by omega
  have hfin : begR ts s now rs (j : Int) = (ls.take i).foldl (setN now) rs := by unfold begR begL; rw [hnb9, Int.toNat_natCast, hls9, hie, List.take_of_length_le (by omega)]
  exact X_end _ rfl ⟨rfl, ⟨Hi, (by rw [hfin]; exact hRi), hHifr⟩, hK0⟩
end Go.Al


namespace Go.Al
open Go Go.RowKit Go.Proofs
set_option maxRecDepth 10000 in
set_option maxHeartbeats 1000000 in
theorem decides_spec (H : Nat → Prop) (r g : Nat) (ts : List Trk) (rs : List Rfm) (x : Rfm) (y : Tly) (iss now : Int) (w : World) (hR : Rfr H w r g ts rs) (htr : 0 ≤ x.track ∧ x.track < ts.length) : Calls Tryz.prog 50 #[.pointer (some ⟨r, 0, none⟩), .agg x.cells.toArray, .agg y.cells.toArray, .int .i64 iss, .int .i64 now] w fun e w' => e = .returned (.tuple #[.agg (decY ts x y iss now).cells.toArray, .int .i64 (decE ts x y iss now)]) ∧ Keep none_ w w' := by
 have hHlt := Rfr.lt hR
 have hrH := Rfr.at_ hR
 have hgH := Rfr.atg hR
 have hrlt := hHlt _ hrH
 have hglt := hHlt _ hgH
 have hin := Rfr.inn hR
 obtain ⟨A, cap, hr, hA, hAo, hrg⟩ := Rfr.parts hR
 have hAlt := SlT.lt hA
 have hAr : ∀ q, inA A q → q ≠ r ∧ q ≠ g ∧ q < w.heap.size := fun q hq => ⟨(hAo q hq).2.1, (hAo q hq).2.2, hAlt q hq⟩
 have hgo : ∀ q, only g q → q ≠ r ∧ q = g := fun q hq => ⟨fun e => hrg (e.symm.trans hq), hq⟩
 have hgl : ∀ q, only g q → q < w.heap.size := fun q hq => by rw [show q = g from hq]; exact hglt
 have hHo : ∀ q, H q → 0 ≤ q := fun q _ => Nat.zero_le q
 have htl := hin.tl
 have hrl := hin.rl
 obtain ⟨jt, hjt, hjl, htk, htm⟩ := trkA_at htr
 have hokt := hin.tok _ htm
 have hK0 : Keep none_ w w := Keep.refl _ _
 have hzhK0 := Keep.size hK0
 refine enterM Tryz.func50 rfl [pt r, .agg (Rfm.cells x).toArray, .agg (Tly.cells y).toArray, nt iss, nt now] 77 rfl rfl rfl ?_
 refine V_pick [(0, pt r), (1, .agg (Rfm.cells x).toArray), (2, .agg (Tly.cells y).toArray), (3, nt iss), (4, nt now)] rfl ?_
 refine V_seq ?_
 refine V_region ?_
 refine OI_box 57 (.tmp 1) (.agg (Rfm.cells x).toArray) (Rfm.cells x) (some 6) (by kernel_rfl) (by kernel_rfl) rfl ?_
 intro b1 w1 e1 hb1 k1 z1
 have hsz2 := Keep.size k1
 replace hr := hr.keep k1 (fun f => f)
 replace hA := SlT.keep0 hA k1
 replace hR := Rfr.keep hR k1 (fun _ _ f => f)
 replace hK0 := Keep.tr hK0 (Keep.ofNone k1)
 have hb1lt := hb1.lt
 refine OI_box 55 (.tmp 2) (.agg (Tly.cells y).toArray) (Tly.cells y) (some 7) (by kernel_rfl) (by kernel_rfl) rfl ?_
 intro b3 w3 e3 hb3 k3 z3
 have hsz4 := Keep.size k3
 replace hr := hr.keep k3 (fun f => f)
 replace hb1 := hb1.keep k3 (fun f => f)
 replace hA := SlT.keep0 hA k3
 replace hR := Rfr.keep hR k3 (fun _ _ f => f)
 replace hK0 := Keep.tr hK0 (Keep.ofNone k3)
 have hb3lt := hb3.lt
 refine OI_alloc 57 (.agg (Rfm.cells Rfm.zero).toArray) (Rfm.cells Rfm.zero) (some 10) (by kernel_rfl) (by kernel_rfl) (by kernel_rfl) ?_
 intro b5 w5 e5 hb5 k5 z5
 have hsz6 := Keep.size k5
 replace hr := hr.keep k5 (fun f => f)
 replace hb1 := hb1.keep k5 (fun f => f)
 replace hb3 := hb3.keep k5 (fun f => f)
 replace hA := SlT.keep0 hA k5
 replace hR := Rfr.keep hR k5 (fun _ _ f => f)
 replace hK0 := Keep.tr hK0 (Keep.ofNone k5)
 have hb5lt := hb5.lt
 refine OI_static 4 [(0, pt r), (3, nt iss), (4, nt now), (6, pt b1), (7, pt b3), (10, pt b5)] (by kernel_rfl) ?_
 refine OI_end rfl ?_
 refine X_then ?_
 refine V_seq ?_
 refine V_seq ?_
 refine V_region ?_
 refine OI_static 1 [(0, pt r), (3, nt iss), (4, nt now), (6, pt b1), (7, pt b3), (10, pt b5), (13, .pointer (some ⟨b1, 39, none⟩))] (by kernel_rfl) ?_
 refine OI_cell 3 (.tmp 13) 39 (nt x.since) (some 14) (by kernel_rfl) (by kernel_rfl) hb1 (m := 1) (by kernel_rfl) rfl ?_
 refine OI_static 3 [(0, pt r), (3, nt iss), (4, nt now), (6, pt b1), (7, pt b3), (10, pt b5), (15, .bool (decide (x.since = -1)))] (by kernel_rfl) ?_
 refine OI_end rfl ?_
 refine X_then ?_
 refine V_if (x.since = -1) (by kernel_rfl) (fun hc7 => ?_) (fun hc7 => ?_)
 ·
  refine V_seq ?_
  refine V_seq ?_
  refine V_region ?_
  refine OI_static 2 [(6, pt b1), (10, pt b5), (16, nt now), (17, .pointer (some ⟨b1, 35, none⟩))] (by kernel_rfl) ?_
  refine OI_cell 3 (.tmp 17) 35 (nt x.sub) (some 18) (by kernel_rfl) (by kernel_rfl) hb1 (m := 1) (by kernel_rfl) rfl ?_
  refine OI_static 5 [(6, pt b1), (10, pt b5), (20, .bool (decide (IntKind.i64.wrap (now - x.sub) ≥ 30)))] (by kernel_rfl) ?_
  refine OI_end rfl ?_
  refine X_then ?_
  refine V_if (IntKind.i64.wrap (now - x.sub) ≥ 30) (by kernel_rfl) (fun hc8 => ?_) (fun hc8 => ?_)
  ·
   refine V_seq ?_
   refine V_region ?_
   refine OI_agg 57 (.tmp 6) 0 (Rfm.cells x) (some 21) (by kernel_rfl) (by kernel_rfl) hb1 (m := 45) (by kernel_rfl) (take_all (Rfm.len _)) (Rfm.len _) ?_
   refine OI_set (m := 45) (kd := true) 57 (.tmp 10) (.tmp 21) 0 (.agg (Rfm.cells x).toArray) (Rfm.cells x) none (by kernel_rfl) (by kernel_rfl) (by kernel_rfl) hb5 (by kernel_rfl) rfl (Rfm.len _) (Nat.le_of_ble_eq_true (by kernel_rfl)) (Rfm.one _) ?_
   intro w9 hb5_12 hk10 hz11
   replace hb5_12 : Blk w9 b5 (Rfm.cells x) 57 := (Blk.eqL (Rfm.over _ _) hb5_12)
   have hsz13 := Keep.size hk10
   replace hr := hr.keep hk10 (by show ¬ (_ = _); omega)
   replace hb1 := hb1.keep hk10 (by show ¬ (_ = _); omega)
   replace hb3 := hb3.keep hk10 (by show ¬ (_ = _); omega)
   replace hA := SlT.keep hA hk10 (fun q hq hs => by have hs : q = b5 := hs; have g0 := hAr q hq; have g1 := hAlt q hq; omega)
   replace hR := Rfr.keep hR hk10 (fun q hq hs => by have hs : q = b5 := hs; have g0 := hHo q hq; have g1 := hHlt q hq; omega)
   replace hK0 := Keep.fresh hK0 hk10 (by intro i hi hs; first | exact hs | exact Or.inl hs | exact Or.inr hs | (exfalso; have hs2 : i = b5 := hs; omega))
   refine OI_static 3 [(10, pt b5), (11, nt 4)] (by kernel_rfl) ?_
   refine OI_end rfl ?_
   refine X_then ?_
   refine V_ret ?_
   refine X_ret_then ?_
   refine X_ret_then ?_
   have hY : decY ts x y iss now = x := by unfold decY; rw [if_pos hc7]
   have hE : decE ts x y iss now = 4 := by unfold decE; rw [if_pos hc7, if_pos hc8]
   exact leave0 (.tuple #[.agg (Rfm.cells x).toArray, .int .i64 4]) (.inl rfl) (res_agg_tmp (m := 45) rfl rfl rfl (by kernel_rfl) hb5_12 rfl) ⟨by rw [hY, hE] <;> rfl, hK0⟩
  ·
   refine V_skip ?_
   refine X_then ?_
   refine V_seq ?_
   refine V_region ?_
   refine OI_agg 57 (.tmp 6) 0 (Rfm.cells x) (some 22) (by kernel_rfl) (by kernel_rfl) hb1 (m := 45) (by kernel_rfl) (take_all (Rfm.len _)) (Rfm.len _) ?_
   refine OI_set (m := 45) (kd := true) 57 (.tmp 10) (.tmp 22) 0 (.agg (Rfm.cells x).toArray) (Rfm.cells x) none (by kernel_rfl) (by kernel_rfl) (by kernel_rfl) hb5 (by kernel_rfl) rfl (Rfm.len _) (Nat.le_of_ble_eq_true (by kernel_rfl)) (Rfm.one _) ?_
   intro w14 hb5_17 hk15 hz16
   replace hb5_17 : Blk w14 b5 (Rfm.cells x) 57 := (Blk.eqL (Rfm.over _ _) hb5_17)
   have hsz18 := Keep.size hk15
   replace hr := hr.keep hk15 (by show ¬ (_ = _); omega)
   replace hb1 := hb1.keep hk15 (by show ¬ (_ = _); omega)
   replace hb3 := hb3.keep hk15 (by show ¬ (_ = _); omega)
   replace hA := SlT.keep hA hk15 (fun q hq hs => by have hs : q = b5 := hs; have g0 := hAr q hq; have g1 := hAlt q hq; omega)
   replace hR := Rfr.keep hR hk15 (fun q hq hs => by have hs : q = b5 := hs; have g0 := hHo q hq; have g1 := hHlt q hq; omega)
   replace hK0 := Keep.fresh hK0 hk15 (by intro i hi hs; first | exact hs | exact Or.inl hs | exact Or.inr hs | (exfalso; have hs2 : i = b5 := hs; omega))
   refine OI_static 3 [(10, pt b5), (11, nt 0)] (by kernel_rfl) ?_
   refine OI_end rfl ?_
   refine X_then ?_
   refine V_ret ?_
   refine X_ret_then ?_
   have hY : decY ts x y iss now = x := by unfold decY; rw [if_pos hc7]
   have hE : decE ts x y iss now = 0 := by unfold decE; rw [if_pos hc7, if_neg hc8]
   exact leave0 (.tuple #[.agg (Rfm.cells x).toArray, .int .i64 0]) (.inl rfl) (res_agg_tmp (m := 45) rfl rfl rfl (by kernel_rfl) hb5_17 rfl) ⟨by rw [hY, hE] <;> rfl, hK0⟩
 ·
  refine V_skip ?_
  refine X_then ?_
  refine V_seq ?_
  refine V_draws (acts [8, 9]) none_ [[8, 0, 1, 2, 3, 4, 5, 6, 7, 9]] (by kernel_rfl) (by repeat first | exact (by first | exact sure_postM | exact sure_rQ2 | exact sure_no) | refine sure_then ?_ | refine sure_block ?_ | refine sure_join ?_) (by kernel_rfl) ?_
  intro w20 hk19 he21 L hL22
  have hsz23 := Keep.size hk19
  replace hr := hr.keep hk19 (fun f => f)
  replace hb1 := hb1.keep hk19 (fun f => f)
  replace hb3 := hb3.keep hk19 (fun f => f)
  replace hb5 := hb5.keep hk19 (fun f => f)
  replace hA := SlT.keep0 hA hk19
  replace hR := Rfr.keep hR hk19 (fun _ _ f => f)
  replace hK0 := Keep.tr hK0 (Keep.ofNone hk19)
  have qhr := hr
  have qhb1 := hb1
  have qhb3 := hb3
  have qhb5 := hb5
  have qhA := hA
  have K24 : Keep none_ w20 w20 := Keep.refl _ _
  obtain rfl := List.mem_singleton.1 hL22
  refine GI_alloc 27 (.agg (Trk.cells Trk.zero).toArray) (Trk.cells Trk.zero) (some 12) (by kernel_rfl) (by kernel_rfl) K24 (by kernel_rfl) (by kernel_rfl) ?_
  intro b25 w25 e25 hb25 k25 z25 K26
  have hsz27 := Keep.size k25
  replace hr := hr.keep k25 (fun f => f)
  replace hb1 := hb1.keep k25 (fun f => f)
  replace hb3 := hb3.keep k25 (fun f => f)
  replace hb5 := hb5.keep k25 (fun f => f)
  replace hA := SlT.keep0 hA k25
  replace hR := Rfr.keep hR k25 (fun _ _ f => f)
  replace hK0 := Keep.tr hK0 (Keep.ofNone k25)
  have hb25lt := hb25.lt
  refine GI_static [3, 4, 5, 6, 7, 9] [(3, nt iss), (4, nt now), (6, pt b1), (7, pt b3), (10, pt b5), (12, pt b25), (25, pt r)] (by kernel_rfl) ?_
  refine GI_cell 29 (.tmp 25) 0 (.slice A ts.length cap) (some 26) (by kernel_rfl) (by kernel_rfl) (by kernel_rfl) qhr (fun f => f) (m := 1) (by kernel_rfl) rfl ?_
  refine GI_static [5, 6, 7, 9] [(3, nt iss), (4, nt now), (6, pt b1), (7, pt b3), (10, pt b5), (12, pt b25), (26, .slice A ts.length cap), (27, .pointer (some ⟨b1, 1, none⟩))] (by kernel_rfl) ?_
  refine GI_cell 3 (.tmp 27) 1 (nt x.track) (some 28) (by kernel_rfl) (by kernel_rfl) (by kernel_rfl) qhb1 (fun f => f) (m := 1) (by kernel_rfl) rfl ?_
  obtain ⟨b28, o28, L28, T28, rfl, hat28⟩ := SlT.open_ hA (by first | omega | (simp only [List.length_map]; omega) | (simp; done) | (simp; omega))
  have hb28lt := hat28.blk.lt
  have hob29 := hAr b28 ⟨_, rfl, rfl⟩
  have hob30 := hAlt b28 ⟨_, rfl, rfl⟩
  obtain ⟨qL28, qT28, qhat28⟩ := SlT.openA qhA (by first | omega | (simp; done) | (simp; omega))
  refine GI_pick [(3, nt iss), (4, nt now), (6, pt b1), (7, pt b3), (10, pt b5), (12, pt b25), (26, .slice (some ⟨b28, o28, none⟩) ts.length cap), (28, nt x.track)] (by kernel_rfl) ?_
  refine GI_eq [(3, nt iss), (4, nt now), (6, pt b1), (7, pt b3), (10, pt b5), (12, pt b25), (26, .slice (some ⟨b28, o28, none⟩) ts.length cap), (28, nt ((jt : Nat) : Int))] (by rw [hjt]) ?_
  refine GI_pure (some 29) (.indexAddr 29 (.tmp 26) (.tmp 28)) (by kernel_rfl) (by kernel_rfl) (pure_idxN (b := b28) (o := o28) (len := ts.length) (cap := cap) (kd := .i64) (j := jt) (E := 27) (sz := 18) (by_ := 144) (by kernel_rfl) (by kernel_rfl) (by kernel_rfl) (by omega)) ?_
  refine GI_agg 27 (.tmp 29) (o28 + jt * 18) (Trk.cells (trkA ts x.track)) (some 30) (by kernel_rfl) (by kernel_rfl) (by kernel_rfl) qhat28.blk (fun f => f) (m := 18) (by kernel_rfl) (At.elem' qhat28 (es_at htk)) (At.len qhat28 (es_at htk)) ?_
  refine GI_final 9 (by kernel_rfl) (by kernel_rfl) ?_
  refine OI_set (m := 18) (kd := true) 27 (.tmp 12) (.tmp 30) 0 (.agg (Trk.cells (trkA ts x.track)).toArray) (Trk.cells (trkA ts x.track)) none (by kernel_rfl) (by kernel_rfl) (by kernel_rfl) hb25 (by kernel_rfl) rfl (Trk.len _) (Nat.le_of_ble_eq_true (by kernel_rfl)) (Trk.one _) ?_
  intro w31 hb25_34 hk32 hz33
  replace hb25_34 : Blk w31 b25 (Trk.cells (trkA ts x.track)) 27 := (Blk.eqL (Trk.over _ _) hb25_34)
  have hsz35 := Keep.size hk32
  replace hr := hr.keep hk32 (by show ¬ (_ = _); omega)
  replace hb1 := hb1.keep hk32 (by show ¬ (_ = _); omega)
  replace hb3 := hb3.keep hk32 (by show ¬ (_ = _); omega)
  replace hb5 := hb5.keep hk32 (by show ¬ (_ = _); omega)
  replace hat28 := hat28.keep hk32 (by show ¬ (_ = _); omega)
  replace hR := Rfr.keep hR hk32 (fun q hq hs => by have hs : q = b25 := hs; have g0 := hHo q hq; have g1 := hHlt q hq; omega)
  replace hK0 := Keep.fresh hK0 hk32 (by intro i hi hs; first | exact hs | exact Or.inl hs | exact Or.inr hs | (exfalso; have hs2 : i = b25 := hs; omega))
  refine OI_end rfl ?_
  refine X_then ?_
  refine V_seq ?_
  refine V_block ?_
  refine V_seq ?_
  refine V_region ?_
  refine OI_agg 27 (.tmp 12) 0 (Trk.cells (trkA ts x.track)) (some 32) (by kernel_rfl) (by kernel_rfl) hb25_34 (m := 18) (by kernel_rfl) (take_all (Trk.len _)) (Trk.len _) ?_
  refine OI_agg 55 (.tmp 7) 0 (Tly.cells y) (some 33) (by kernel_rfl) (by kernel_rfl) hb3 (m := 3) (by kernel_rfl) (take_all (Tly.len _)) (Tly.len _) ?_
  refine OI_static 5 [(4, nt now), (6, pt b1), (10, pt b5), (12, pt b25), (32, .agg (Trk.cells (trkA ts x.track)).toArray), (33, .agg (Tly.cells y).toArray), (34, nt iss), (35, nt now), (36, .pointer (some ⟨b1, 39, none⟩))] (by kernel_rfl) ?_
  refine OI_cell 3 (.tmp 36) 39 (nt x.since) (some 37) (by kernel_rfl) (by kernel_rfl) hb1 (m := 1) (by kernel_rfl) rfl ?_
  refine OI_static 7 [(4, nt now), (6, pt b1), (10, pt b5), (12, pt b25), (32, .agg (Trk.cells (trkA ts x.track)).toArray), (33, .agg (Tly.cells y).toArray), (34, nt iss), (38, nt (IntKind.i64.wrap (now - x.since)))] (by kernel_rfl) ?_
  refine OI_call { callee := (Callee.value (Operand.func 104)), args := #[(Operand.tmp 32), (Operand.tmp 33), (Operand.tmp 34), (Operand.tmp 38)], argTypes := #[27, 55, 3, 3] } 104 #[.agg (Trk.cells (trkA ts x.track)).toArray, .agg (Tly.cells y).toArray, nt iss, nt (IntKind.i64.wrap (now - x.since))] (some 39) (by kernel_rfl) (by kernel_rfl) (by kernel_rfl) (passing_spec (trkA ts x.track) y iss (IntKind.i64.wrap (now - x.since)) _ (hokt.2.2.2.2.2.2.2.1) (hokt.2.2.2.2.2.2.2.2.1)) ?_
  rintro _ w36 ⟨rfl, hk37⟩
  refine ⟨_, rfl, ?_⟩
  have hsz38 := Keep.size hk37
  replace hr := hr.keep hk37 (fun f => f)
  replace hb1 := hb1.keep hk37 (fun f => f)
  replace hb3 := hb3.keep hk37 (fun f => f)
  replace hb5 := hb5.keep hk37 (fun f => f)
  replace hb25_34 := hb25_34.keep hk37 (fun f => f)
  replace hat28 := hat28.keep hk37 (fun f => f)
  replace hR := Rfr.keep hR hk37 (fun _ _ f => f)
  replace hK0 := Keep.tr hK0 (Keep.ofNone hk37)
  refine OI_static 10 [(4, nt now), (6, pt b1), (10, pt b5), (12, pt b25), (31, .bool (!(passB (trkA ts x.track) y iss (IntKind.i64.wrap (now - x.since)))))] (by kernel_rfl) ?_
  refine OI_end rfl ?_
  refine X_then ?_
  refine V_ifb (!(passB (trkA ts x.track) y iss (IntKind.i64.wrap (now - x.since)))) (by kernel_rfl) (fun hc39 => ?_) (fun hc39 => ?_)
  ·
   refine V_region ?_
   refine OI_static 1 [(4, nt now), (6, pt b1), (10, pt b5), (12, pt b25), (41, .pointer (some ⟨b1, 40, none⟩))] (by kernel_rfl) ?_
   refine OI_set (m := 1) (kd := false) 3 (.tmp 41) (.const (Value.int IntKind.i64 (-1))) 40 (nt (-1)) [nt (-1)] none (by kernel_rfl) (by kernel_rfl) (by kernel_rfl) hb1 (by kernel_rfl) (by kernel_rfl) (by kernel_rfl) (Nat.le_of_ble_eq_true (by kernel_rfl)) (by simp [Value.oneCell']) ?_
   intro w40 hb1_43 hk41 hz42
   replace hb1_43 : Blk w40 b1 (Rfm.cells { x with till := -1 }) 57 := (Blk.eqL (by kernel_rfl) hb1_43)
   have hsz44 := Keep.size hk41
   replace hr := hr.keep hk41 (by show ¬ (_ = _); omega)
   replace hb3 := hb3.keep hk41 (by show ¬ (_ = _); omega)
   replace hb5 := hb5.keep hk41 (by show ¬ (_ = _); omega)
   replace hb25_34 := hb25_34.keep hk41 (by show ¬ (_ = _); omega)
   replace hat28 := hat28.keep hk41 (by show ¬ (_ = _); omega)
   replace hR := Rfr.keep hR hk41 (fun q hq hs => by have hs : q = b1 := hs; have g0 := hHo q hq; have g1 := hHlt q hq; omega)
   replace hK0 := Keep.fresh hK0 hk41 (by intro i hi hs; first | exact hs | exact Or.inl hs | exact Or.inr hs | (exfalso; have hs2 : i = b1 := hs; omega))
   refine OI_end rfl ?_
   refine X_block ?_
   refine X_then ?_
   refine V_seq ?_
   refine V_block ?_
   refine V_seq ?_
   refine V_region ?_
   refine OI_static 1 [(4, nt now), (6, pt b1), (10, pt b5), (12, pt b25), (52, .pointer (some ⟨b1, 40, none⟩))] (by kernel_rfl) ?_
   refine OI_cell 3 (.tmp 52) 40 (nt (-1)) (some 53) (by kernel_rfl) (by kernel_rfl) hb1_43 (m := 1) (by kernel_rfl) rfl ?_
   refine OI_static 10 [(4, nt now), (6, pt b1), (10, pt b5), (12, pt b25), (51, .bool false)] (by kernel_rfl) ?_
   refine OI_end rfl ?_
   refine X_then ?_
   refine V_false rfl ?_
   refine V_seq ?_
   refine V_region ?_
   refine OI_static 1 [(4, nt now), (6, pt b1), (10, pt b5), (12, pt b25), (63, .pointer (some ⟨b1, 40, none⟩))] (by kernel_rfl) ?_
   refine OI_cell 3 (.tmp 63) 40 (nt (-1)) (some 64) (by kernel_rfl) (by kernel_rfl) hb1_43 (m := 1) (by kernel_rfl) rfl ?_
   refine OI_static 6 [(6, pt b1), (10, pt b5), (12, pt b25), (66, .bool true), (67, nt now), (68, .pointer (some ⟨b1, 39, none⟩))] (by kernel_rfl) ?_
   refine OI_cell 3 (.tmp 68) 39 (nt x.since) (some 69) (by kernel_rfl) (by kernel_rfl) hb1_43 (m := 1) (by kernel_rfl) rfl ?_
   refine OI_static 9 [(6, pt b1), (10, pt b5), (66, .bool true), (70, nt (IntKind.i64.wrap (now - x.since))), (71, .pointer (some ⟨b25, 3, none⟩))] (by kernel_rfl) ?_
   refine OI_cell 3 (.tmp 71) 3 (nt ((trkA ts x.track).decision)) (some 72) (by kernel_rfl) (by kernel_rfl) hb25_34 (m := 1) (by kernel_rfl) rfl ?_
   refine OI_static 13 [(6, pt b1), (10, pt b5), (62, .bool (decide (IntKind.i64.wrap (now - x.since) ≥ (trkA ts x.track).decision)))] (by kernel_rfl) ?_
   refine OI_end rfl ?_
   refine X_then ?_
   refine V_if (IntKind.i64.wrap (now - x.since) ≥ (trkA ts x.track).decision) (by kernel_rfl) (fun hc45 => ?_) (fun hc45 => ?_)
   ·
    refine V_seq ?_
    refine V_region ?_
    refine OI_agg 57 (.tmp 6) 0 (Rfm.cells { x with till := -1 }) (some 75) (by kernel_rfl) (by kernel_rfl) hb1_43 (m := 45) (by kernel_rfl) (take_all (Rfm.len _)) (Rfm.len _) ?_
    refine OI_set (m := 45) (kd := true) 57 (.tmp 10) (.tmp 75) 0 (.agg (Rfm.cells { x with till := -1 }).toArray) (Rfm.cells { x with till := -1 }) none (by kernel_rfl) (by kernel_rfl) (by kernel_rfl) hb5 (by kernel_rfl) rfl (Rfm.len _) (Nat.le_of_ble_eq_true (by kernel_rfl)) (Rfm.one _) ?_
    intro w46 hb5_49 hk47 hz48
    replace hb5_49 : Blk w46 b5 (Rfm.cells ({ x with till := -1 })) 57 := (Blk.eqL (Rfm.over _ _) hb5_49)
    have hsz50 := Keep.size hk47
    replace hr := hr.keep hk47 (by show ¬ (_ = _); omega)
    replace hb1_43 := hb1_43.keep hk47 (by show ¬ (_ = _); omega)
    replace hb3 := hb3.keep hk47 (by show ¬ (_ = _); omega)
    replace hb25_34 := hb25_34.keep hk47 (by show ¬ (_ = _); omega)
    replace hat28 := hat28.keep hk47 (by show ¬ (_ = _); omega)
    replace hR := Rfr.keep hR hk47 (fun q hq hs => by have hs : q = b5 := hs; have g0 := hHo q hq; have g1 := hHlt q hq; omega)
    replace hK0 := Keep.fresh hK0 hk47 (by intro i hi hs; first | exact hs | exact Or.inl hs | exact Or.inr hs | (exfalso; have hs2 : i = b5 := hs; omega))
    refine OI_static 3 [(10, pt b5), (11, nt 3)] (by kernel_rfl) ?_
    refine OI_end rfl ?_
    refine X_then ?_
    refine V_ret ?_
    refine X_ret_block ?_
    refine X_ret_then ?_
    have hu : tillI ts x y iss now = -1 := by unfold tillI; rw [if_pos (by simpa using hc39)]
    have hw1 : w64 (now - x.since) = IntKind.i64.wrap (now - x.since) := rfl
    have hw2 : w64 (now + (trkA ts x.track).confirm) = IntKind.i64.wrap (now + (trkA ts x.track).confirm) := rfl
    have hY : decY ts x y iss now = { x with till := -1 } := by unfold decY; rw [if_neg hc7, hu]
    have hE : decE ts x y iss now = 3 := by unfold decE; rw [if_neg hc7, hu]; (repeat' split) <;> first | rfl | (exfalso; omega)
    exact leave0 (.tuple #[.agg (Rfm.cells ({ x with till := -1 })).toArray, .int .i64 3]) (.inl rfl) (res_agg_tmp (m := 45) rfl rfl rfl (by kernel_rfl) hb5_49 rfl) ⟨by rw [hY, hE] <;> rfl, hK0⟩
   ·
    refine V_skip ?_
    refine X_block ?_
    refine X_then ?_
    refine V_seq ?_
    refine V_region ?_
    refine OI_agg 57 (.tmp 6) 0 (Rfm.cells { x with till := -1 }) (some 76) (by kernel_rfl) (by kernel_rfl) hb1_43 (m := 45) (by kernel_rfl) (take_all (Rfm.len _)) (Rfm.len _) ?_
    refine OI_set (m := 45) (kd := true) 57 (.tmp 10) (.tmp 76) 0 (.agg (Rfm.cells { x with till := -1 }).toArray) (Rfm.cells { x with till := -1 }) none (by kernel_rfl) (by kernel_rfl) (by kernel_rfl) hb5 (by kernel_rfl) rfl (Rfm.len _) (Nat.le_of_ble_eq_true (by kernel_rfl)) (Rfm.one _) ?_
    intro w51 hb5_54 hk52 hz53
    replace hb5_54 : Blk w51 b5 (Rfm.cells ({ x with till := -1 })) 57 := (Blk.eqL (Rfm.over _ _) hb5_54)
    have hsz55 := Keep.size hk52
    replace hr := hr.keep hk52 (by show ¬ (_ = _); omega)
    replace hb1_43 := hb1_43.keep hk52 (by show ¬ (_ = _); omega)
    replace hb3 := hb3.keep hk52 (by show ¬ (_ = _); omega)
    replace hb25_34 := hb25_34.keep hk52 (by show ¬ (_ = _); omega)
    replace hat28 := hat28.keep hk52 (by show ¬ (_ = _); omega)
    replace hR := Rfr.keep hR hk52 (fun q hq hs => by have hs : q = b5 := hs; have g0 := hHo q hq; have g1 := hHlt q hq; omega)
    replace hK0 := Keep.fresh hK0 hk52 (by intro i hi hs; first | exact hs | exact Or.inl hs | exact Or.inr hs | (exfalso; have hs2 : i = b5 := hs; omega))
    refine OI_static 3 [(10, pt b5), (11, nt 0)] (by kernel_rfl) ?_
    refine OI_end rfl ?_
    refine X_then ?_
    refine V_ret ?_
    have hu : tillI ts x y iss now = -1 := by unfold tillI; rw [if_pos (by simpa using hc39)]
    have hw1 : w64 (now - x.since) = IntKind.i64.wrap (now - x.since) := rfl
    have hw2 : w64 (now + (trkA ts x.track).confirm) = IntKind.i64.wrap (now + (trkA ts x.track).confirm) := rfl
    have hY : decY ts x y iss now = { x with till := -1 } := by unfold decY; rw [if_neg hc7, hu]
    have hE : decE ts x y iss now = 0 := by unfold decE; rw [if_neg hc7, hu]; (repeat' split) <;> first | rfl | (exfalso; omega)
    exact leave0 (.tuple #[.agg (Rfm.cells ({ x with till := -1 })).toArray, .int .i64 0]) (.inl rfl) (res_agg_tmp (m := 45) rfl rfl rfl (by kernel_rfl) hb5_54 rfl) ⟨by rw [hY, hE] <;> rfl, hK0⟩
  ·
   refine V_seq ?_
   refine V_region ?_
   refine OI_static 1 [(4, nt now), (6, pt b1), (10, pt b5), (12, pt b25), (43, .pointer (some ⟨b1, 40, none⟩))] (by kernel_rfl) ?_
   refine OI_cell 3 (.tmp 43) 40 (nt x.till) (some 44) (by kernel_rfl) (by kernel_rfl) hb1 (m := 1) (by kernel_rfl) rfl ?_
   refine OI_static 4 [(4, nt now), (6, pt b1), (10, pt b5), (12, pt b25), (42, .bool (decide (x.till = -1)))] (by kernel_rfl) ?_
   refine OI_end rfl ?_
   refine X_then ?_
   refine V_if (x.till = -1) (by kernel_rfl) (fun hc56 => ?_) (fun hc56 => ?_)
   ·
    refine V_region ?_
    refine OI_static 2 [(4, nt now), (6, pt b1), (10, pt b5), (12, pt b25), (46, nt now), (47, .pointer (some ⟨b25, 4, none⟩))] (by kernel_rfl) ?_
    refine OI_cell 3 (.tmp 47) 4 (nt ((trkA ts x.track).confirm)) (some 48) (by kernel_rfl) (by kernel_rfl) hb25_34 (m := 1) (by kernel_rfl) rfl ?_
    refine OI_static 5 [(4, nt now), (6, pt b1), (10, pt b5), (12, pt b25), (49, nt (IntKind.i64.wrap (now + ((trkA ts x.track).confirm)))), (50, .pointer (some ⟨b1, 40, none⟩))] (by kernel_rfl) ?_
    refine OI_set (m := 1) (kd := false) 3 (.tmp 50) (.tmp 49) 40 (nt (IntKind.i64.wrap (now + ((trkA ts x.track).confirm)))) [nt (IntKind.i64.wrap (now + ((trkA ts x.track).confirm)))] none (by kernel_rfl) (by kernel_rfl) (by kernel_rfl) hb1 (by kernel_rfl) (by kernel_rfl) (by kernel_rfl) (Nat.le_of_ble_eq_true (by kernel_rfl)) (by simp [Value.oneCell']) ?_
    intro w57 hb1_60 hk58 hz59
    replace hb1_60 : Blk w57 b1 (Rfm.cells { x with till := IntKind.i64.wrap (now + ((trkA ts x.track).confirm)) }) 57 := (Blk.eqL (by kernel_rfl) hb1_60)
    have hsz61 := Keep.size hk58
    replace hr := hr.keep hk58 (by show ¬ (_ = _); omega)
    replace hb3 := hb3.keep hk58 (by show ¬ (_ = _); omega)
    replace hb5 := hb5.keep hk58 (by show ¬ (_ = _); omega)
    replace hb25_34 := hb25_34.keep hk58 (by show ¬ (_ = _); omega)
    replace hat28 := hat28.keep hk58 (by show ¬ (_ = _); omega)
    replace hR := Rfr.keep hR hk58 (fun q hq hs => by have hs : q = b1 := hs; have g0 := hHo q hq; have g1 := hHlt q hq; omega)
    replace hK0 := Keep.fresh hK0 hk58 (by intro i hi hs; first | exact hs | exact Or.inl hs | exact Or.inr hs | (exfalso; have hs2 : i = b1 := hs; omega))
    refine OI_end rfl ?_
    refine X_block ?_
    refine X_then ?_
    refine V_seq ?_
    refine V_block ?_
    refine V_seq ?_
    refine V_region ?_
    refine OI_static 1 [(4, nt now), (6, pt b1), (10, pt b5), (12, pt b25), (52, .pointer (some ⟨b1, 40, none⟩))] (by kernel_rfl) ?_
    refine OI_cell 3 (.tmp 52) 40 (nt (IntKind.i64.wrap (now + ((trkA ts x.track).confirm)))) (some 53) (by kernel_rfl) (by kernel_rfl) hb1_60 (m := 1) (by kernel_rfl) rfl ?_
    refine OI_static 4 [(4, nt now), (6, pt b1), (10, pt b5), (12, pt b25), (55, .bool (!(decide (IntKind.i64.wrap (now + ((trkA ts x.track).confirm)) = -1))))] (by kernel_rfl) ?_
    by_cases hg62 : IntKind.i64.wrap (now + ((trkA ts x.track).confirm)) = -1
    ·
     refine OI_eq [(4, nt now), (6, pt b1), (10, pt b5), (12, pt b25), (55, .bool false)] (by first | simp [hg62] | rfl) ?_
     refine OI_static 10 [(4, nt now), (6, pt b1), (10, pt b5), (12, pt b25), (51, .bool false)] (by kernel_rfl) ?_
     refine OI_end rfl ?_
     refine X_then ?_
     refine V_false rfl ?_
     refine V_seq ?_
     refine V_region ?_
     refine OI_static 1 [(4, nt now), (6, pt b1), (10, pt b5), (12, pt b25), (63, .pointer (some ⟨b1, 40, none⟩))] (by kernel_rfl) ?_
     refine OI_cell 3 (.tmp 63) 40 (nt (IntKind.i64.wrap (now + ((trkA ts x.track).confirm)))) (some 64) (by kernel_rfl) (by kernel_rfl) hb1_60 (m := 1) (by kernel_rfl) rfl ?_
     refine OI_static 4 [(4, nt now), (6, pt b1), (10, pt b5), (12, pt b25), (66, .bool (decide (IntKind.i64.wrap (now + ((trkA ts x.track).confirm)) = -1)))] (by kernel_rfl) ?_
     refine OI_eq [(4, nt now), (6, pt b1), (10, pt b5), (12, pt b25), (66, .bool true)] (by rw [decide_eq_true hg62]) ?_
     refine OI_static 6 [(6, pt b1), (10, pt b5), (12, pt b25), (66, .bool true), (67, nt now), (68, .pointer (some ⟨b1, 39, none⟩))] (by kernel_rfl) ?_
     refine OI_cell 3 (.tmp 68) 39 (nt x.since) (some 69) (by kernel_rfl) (by kernel_rfl) hb1_60 (m := 1) (by kernel_rfl) rfl ?_
     refine OI_static 9 [(6, pt b1), (10, pt b5), (66, .bool true), (70, nt (IntKind.i64.wrap (now - x.since))), (71, .pointer (some ⟨b25, 3, none⟩))] (by kernel_rfl) ?_
     refine OI_cell 3 (.tmp 71) 3 (nt ((trkA ts x.track).decision)) (some 72) (by kernel_rfl) (by kernel_rfl) hb25_34 (m := 1) (by kernel_rfl) rfl ?_
     refine OI_static 13 [(6, pt b1), (10, pt b5), (62, .bool (decide (IntKind.i64.wrap (now - x.since) ≥ (trkA ts x.track).decision)))] (by kernel_rfl) ?_
     refine OI_end rfl ?_
     refine X_then ?_
     refine V_if (IntKind.i64.wrap (now - x.since) ≥ (trkA ts x.track).decision) (by kernel_rfl) (fun hc64 => ?_) (fun hc64 => ?_)
     ·
      refine V_seq ?_
      refine V_region ?_
      refine OI_agg 57 (.tmp 6) 0 (Rfm.cells { x with till := IntKind.i64.wrap (now + ((trkA ts x.track).confirm)) }) (some 75) (by kernel_rfl) (by kernel_rfl) hb1_60 (m := 45) (by kernel_rfl) (take_all (Rfm.len _)) (Rfm.len _) ?_
      refine OI_set (m := 45) (kd := true) 57 (.tmp 10) (.tmp 75) 0 (.agg (Rfm.cells { x with till := IntKind.i64.wrap (now + ((trkA ts x.track).confirm)) }).toArray) (Rfm.cells { x with till := IntKind.i64.wrap (now + ((trkA ts x.track).confirm)) }) none (by kernel_rfl) (by kernel_rfl) (by kernel_rfl) hb5 (by kernel_rfl) rfl (Rfm.len _) (Nat.le_of_ble_eq_true (by kernel_rfl)) (Rfm.one _) ?_
      intro w65 hb5_68 hk66 hz67
      replace hb5_68 : Blk w65 b5 (Rfm.cells ({ x with till := IntKind.i64.wrap (now + ((trkA ts x.track).confirm)) })) 57 := (Blk.eqL (Rfm.over _ _) hb5_68)
      have hsz69 := Keep.size hk66
      replace hr := hr.keep hk66 (by show ¬ (_ = _); omega)
      replace hb1_60 := hb1_60.keep hk66 (by show ¬ (_ = _); omega)
      replace hb3 := hb3.keep hk66 (by show ¬ (_ = _); omega)
      replace hb25_34 := hb25_34.keep hk66 (by show ¬ (_ = _); omega)
      replace hat28 := hat28.keep hk66 (by show ¬ (_ = _); omega)
      replace hR := Rfr.keep hR hk66 (fun q hq hs => by have hs : q = b5 := hs; have g0 := hHo q hq; have g1 := hHlt q hq; omega)
      replace hK0 := Keep.fresh hK0 hk66 (by intro i hi hs; first | exact hs | exact Or.inl hs | exact Or.inr hs | (exfalso; have hs2 : i = b5 := hs; omega))
      refine OI_static 3 [(10, pt b5), (11, nt 3)] (by kernel_rfl) ?_
      refine OI_end rfl ?_
      refine X_then ?_
      refine V_ret ?_
      refine X_ret_block ?_
      refine X_ret_then ?_
      have hpb : ¬ passB (trkA ts x.track) y iss (w64 (now - x.since)) = false := by simpa using hc39
      have hu : tillI ts x y iss now = w64 (now + (trkA ts x.track).confirm) := by unfold tillI; rw [if_neg hpb, if_pos hc56]
      have hw1 : w64 (now - x.since) = IntKind.i64.wrap (now - x.since) := rfl
      have hw2 : w64 (now + (trkA ts x.track).confirm) = IntKind.i64.wrap (now + (trkA ts x.track).confirm) := rfl
      have hY : decY ts x y iss now = { x with till := w64 (now + (trkA ts x.track).confirm) } := by unfold decY; rw [if_neg hc7, hu]
      have hE : decE ts x y iss now = 3 := by unfold decE; rw [if_neg hc7, hu]; (repeat' split) <;> first | rfl | (exfalso; omega)
      exact leave0 (.tuple #[.agg (Rfm.cells ({ x with till := IntKind.i64.wrap (now + ((trkA ts x.track).confirm)) })).toArray, .int .i64 3]) (.inl rfl) (res_agg_tmp (m := 45) rfl rfl rfl (by kernel_rfl) hb5_68 rfl) ⟨by rw [hY, hE] <;> rfl, hK0⟩
     ·
      refine V_skip ?_
      refine X_block ?_
      refine X_then ?_
      refine V_seq ?_
      refine V_region ?_
      refine OI_agg 57 (.tmp 6) 0 (Rfm.cells { x with till := IntKind.i64.wrap (now + ((trkA ts x.track).confirm)) }) (some 76) (by kernel_rfl) (by kernel_rfl) hb1_60 (m := 45) (by kernel_rfl) (take_all (Rfm.len _)) (Rfm.len _) ?_
      refine OI_set (m := 45) (kd := true) 57 (.tmp 10) (.tmp 76) 0 (.agg (Rfm.cells { x with till := IntKind.i64.wrap (now + ((trkA ts x.track).confirm)) }).toArray) (Rfm.cells { x with till := IntKind.i64.wrap (now + ((trkA ts x.track).confirm)) }) none (by kernel_rfl) (by kernel_rfl) (by kernel_rfl) hb5 (by kernel_rfl) rfl (Rfm.len _) (Nat.le_of_ble_eq_true (by kernel_rfl)) (Rfm.one _) ?_
      intro w70 hb5_73 hk71 hz72
      replace hb5_73 : Blk w70 b5 (Rfm.cells ({ x with till := IntKind.i64.wrap (now + ((trkA ts x.track).confirm)) })) 57 := (Blk.eqL (Rfm.over _ _) hb5_73)
      have hsz74 := Keep.size hk71
      replace hr := hr.keep hk71 (by show ¬ (_ = _); omega)
      replace hb1_60 := hb1_60.keep hk71 (by show ¬ (_ = _); omega)
      replace hb3 := hb3.keep hk71 (by show ¬ (_ = _); omega)
      replace hb25_34 := hb25_34.keep hk71 (by show ¬ (_ = _); omega)
      replace hat28 := hat28.keep hk71 (by show ¬ (_ = _); omega)
      replace hR := Rfr.keep hR hk71 (fun q hq hs => by have hs : q = b5 := hs; have g0 := hHo q hq; have g1 := hHlt q hq; omega)
      replace hK0 := Keep.fresh hK0 hk71 (by intro i hi hs; first | exact hs | exact Or.inl hs | exact Or.inr hs | (exfalso; have hs2 : i = b5 := hs; omega))
      refine OI_static 3 [(10, pt b5), (11, nt 0)] (by kernel_rfl) ?_
      refine OI_end rfl ?_
      refine X_then ?_
      refine V_ret ?_
      have hpb : ¬ passB (trkA ts x.track) y iss (w64 (now - x.since)) = false := by simpa using hc39
      have hu : tillI ts x y iss now = w64 (now + (trkA ts x.track).confirm) := by unfold tillI; rw [if_neg hpb, if_pos hc56]
      have hw1 : w64 (now - x.since) = IntKind.i64.wrap (now - x.since) := rfl
      have hw2 : w64 (now + (trkA ts x.track).confirm) = IntKind.i64.wrap (now + (trkA ts x.track).confirm) := rfl
      have hY : decY ts x y iss now = { x with till := w64 (now + (trkA ts x.track).confirm) } := by unfold decY; rw [if_neg hc7, hu]
      have hE : decE ts x y iss now = 0 := by unfold decE; rw [if_neg hc7, hu]; (repeat' split) <;> first | rfl | (exfalso; omega)
      exact leave0 (.tuple #[.agg (Rfm.cells ({ x with till := IntKind.i64.wrap (now + ((trkA ts x.track).confirm)) })).toArray, .int .i64 0]) (.inl rfl) (res_agg_tmp (m := 45) rfl rfl rfl (by kernel_rfl) hb5_73 rfl) ⟨by rw [hY, hE] <;> rfl, hK0⟩
    ·
     refine OI_eq [(4, nt now), (6, pt b1), (10, pt b5), (12, pt b25), (55, .bool true)] (by first | simp [hg62] | rfl) ?_
     refine OI_static 5 [(4, nt now), (6, pt b1), (10, pt b5), (12, pt b25), (55, .bool true), (56, .pointer (some ⟨b1, 40, none⟩))] (by kernel_rfl) ?_
     refine OI_cell 3 (.tmp 56) 40 (nt (IntKind.i64.wrap (now + ((trkA ts x.track).confirm)))) (some 57) (by kernel_rfl) (by kernel_rfl) hb1_60 (m := 1) (by kernel_rfl) rfl ?_
     refine OI_static 10 [(4, nt now), (6, pt b1), (10, pt b5), (12, pt b25), (51, .bool (decide (IntKind.i64.wrap (now + ((trkA ts x.track).confirm)) ≤ now)))] (by kernel_rfl) ?_
     refine OI_end rfl ?_
     refine X_then ?_
     refine V_if (IntKind.i64.wrap (now + ((trkA ts x.track).confirm)) ≤ now) (by kernel_rfl) (fun hc75 => ?_) (fun hc75 => ?_)
     ·
      refine V_seq ?_
      refine V_region ?_
      refine OI_agg 57 (.tmp 6) 0 (Rfm.cells { x with till := IntKind.i64.wrap (now + ((trkA ts x.track).confirm)) }) (some 61) (by kernel_rfl) (by kernel_rfl) hb1_60 (m := 45) (by kernel_rfl) (take_all (Rfm.len _)) (Rfm.len _) ?_
      refine OI_set (m := 45) (kd := true) 57 (.tmp 10) (.tmp 61) 0 (.agg (Rfm.cells { x with till := IntKind.i64.wrap (now + ((trkA ts x.track).confirm)) }).toArray) (Rfm.cells { x with till := IntKind.i64.wrap (now + ((trkA ts x.track).confirm)) }) none (by kernel_rfl) (by kernel_rfl) (by kernel_rfl) hb5 (by kernel_rfl) rfl (Rfm.len _) (Nat.le_of_ble_eq_true (by kernel_rfl)) (Rfm.one _) ?_
      intro w76 hb5_79 hk77 hz78
      replace hb5_79 : Blk w76 b5 (Rfm.cells ({ x with till := IntKind.i64.wrap (now + ((trkA ts x.track).confirm)) })) 57 := (Blk.eqL (Rfm.over _ _) hb5_79)
      have hsz80 := Keep.size hk77
      replace hr := hr.keep hk77 (by show ¬ (_ = _); omega)
      replace hb1_60 := hb1_60.keep hk77 (by show ¬ (_ = _); omega)
      replace hb3 := hb3.keep hk77 (by show ¬ (_ = _); omega)
      replace hb25_34 := hb25_34.keep hk77 (by show ¬ (_ = _); omega)
      replace hat28 := hat28.keep hk77 (by show ¬ (_ = _); omega)
      replace hR := Rfr.keep hR hk77 (fun q hq hs => by have hs : q = b5 := hs; have g0 := hHo q hq; have g1 := hHlt q hq; omega)
      replace hK0 := Keep.fresh hK0 hk77 (by intro i hi hs; first | exact hs | exact Or.inl hs | exact Or.inr hs | (exfalso; have hs2 : i = b5 := hs; omega))
      refine OI_static 3 [(10, pt b5), (11, nt 2)] (by kernel_rfl) ?_
      refine OI_end rfl ?_
      refine X_then ?_
      refine V_ret ?_
      refine X_ret_block ?_
      refine X_ret_then ?_
      have hpb : ¬ passB (trkA ts x.track) y iss (w64 (now - x.since)) = false := by simpa using hc39
      have hu : tillI ts x y iss now = w64 (now + (trkA ts x.track).confirm) := by unfold tillI; rw [if_neg hpb, if_pos hc56]
      have hw1 : w64 (now - x.since) = IntKind.i64.wrap (now - x.since) := rfl
      have hw2 : w64 (now + (trkA ts x.track).confirm) = IntKind.i64.wrap (now + (trkA ts x.track).confirm) := rfl
      have hY : decY ts x y iss now = { x with till := w64 (now + (trkA ts x.track).confirm) } := by unfold decY; rw [if_neg hc7, hu]
      have hE : decE ts x y iss now = 2 := by unfold decE; rw [if_neg hc7, hu]; (repeat' split) <;> first | rfl | (exfalso; omega)
      exact leave0 (.tuple #[.agg (Rfm.cells ({ x with till := IntKind.i64.wrap (now + ((trkA ts x.track).confirm)) })).toArray, .int .i64 2]) (.inl rfl) (res_agg_tmp (m := 45) rfl rfl rfl (by kernel_rfl) hb5_79 rfl) ⟨by rw [hY, hE] <;> rfl, hK0⟩
     ·
      refine V_seq ?_
      refine V_region ?_
      refine OI_static 1 [(4, nt now), (6, pt b1), (10, pt b5), (12, pt b25), (63, .pointer (some ⟨b1, 40, none⟩))] (by kernel_rfl) ?_
      refine OI_cell 3 (.tmp 63) 40 (nt (IntKind.i64.wrap (now + ((trkA ts x.track).confirm)))) (some 64) (by kernel_rfl) (by kernel_rfl) hb1_60 (m := 1) (by kernel_rfl) rfl ?_
      refine OI_static 4 [(4, nt now), (6, pt b1), (10, pt b5), (12, pt b25), (66, .bool (decide (IntKind.i64.wrap (now + ((trkA ts x.track).confirm)) = -1)))] (by kernel_rfl) ?_
      refine OI_eq [(4, nt now), (6, pt b1), (10, pt b5), (12, pt b25), (66, .bool false)] (by rw [decide_eq_false hg62]) ?_
      refine OI_static 13 [(6, pt b1), (10, pt b5), (62, .bool false)] (by kernel_rfl) ?_
      refine OI_end rfl ?_
      refine X_then ?_
      refine V_false rfl ?_
      refine V_skip ?_
      refine X_block ?_
      refine X_then ?_
      refine V_seq ?_
      refine V_region ?_
      refine OI_agg 57 (.tmp 6) 0 (Rfm.cells { x with till := IntKind.i64.wrap (now + ((trkA ts x.track).confirm)) }) (some 76) (by kernel_rfl) (by kernel_rfl) hb1_60 (m := 45) (by kernel_rfl) (take_all (Rfm.len _)) (Rfm.len _) ?_
      refine OI_set (m := 45) (kd := true) 57 (.tmp 10) (.tmp 76) 0 (.agg (Rfm.cells { x with till := IntKind.i64.wrap (now + ((trkA ts x.track).confirm)) }).toArray) (Rfm.cells { x with till := IntKind.i64.wrap (now + ((trkA ts x.track).confirm)) }) none (by kernel_rfl) (by kernel_rfl) (by kernel_rfl) hb5 (by kernel_rfl) rfl (Rfm.len _) (Nat.le_of_ble_eq_true (by kernel_rfl)) (Rfm.one _) ?_
      intro w82 hb5_85 hk83 hz84
      replace hb5_85 : Blk w82 b5 (Rfm.cells ({ x with till := IntKind.i64.wrap (now + ((trkA ts x.track).confirm)) })) 57 := (Blk.eqL (Rfm.over _ _) hb5_85)
      have hsz86 := Keep.size hk83
      replace hr := hr.keep hk83 (by show ¬ (_ = _); omega)
      replace hb1_60 := hb1_60.keep hk83 (by show ¬ (_ = _); omega)
      replace hb3 := hb3.keep hk83 (by show ¬ (_ = _); omega)
      replace hb25_34 := hb25_34.keep hk83 (by show ¬ (_ = _); omega)
      replace hat28 := hat28.keep hk83 (by show ¬ (_ = _); omega)
      replace hR := Rfr.keep hR hk83 (fun q hq hs => by have hs : q = b5 := hs; have g0 := hHo q hq; have g1 := hHlt q hq; omega)
      replace hK0 := Keep.fresh hK0 hk83 (by intro i hi hs; first | exact hs | exact Or.inl hs | exact Or.inr hs | (exfalso; have hs2 : i = b5 := hs; omega))
      refine OI_static 3 [(10, pt b5), (11, nt 0)] (by kernel_rfl) ?_
      refine OI_end rfl ?_
      refine X_then ?_
      refine V_ret ?_
      have hpb : ¬ passB (trkA ts x.track) y iss (w64 (now - x.since)) = false := by simpa using hc39
      have hu : tillI ts x y iss now = w64 (now + (trkA ts x.track).confirm) := by unfold tillI; rw [if_neg hpb, if_pos hc56]
      have hw1 : w64 (now - x.since) = IntKind.i64.wrap (now - x.since) := rfl
      have hw2 : w64 (now + (trkA ts x.track).confirm) = IntKind.i64.wrap (now + (trkA ts x.track).confirm) := rfl
      have hY : decY ts x y iss now = { x with till := w64 (now + (trkA ts x.track).confirm) } := by unfold decY; rw [if_neg hc7, hu]
      have hE : decE ts x y iss now = 0 := by unfold decE; rw [if_neg hc7, hu]; (repeat' split) <;> first | rfl | (exfalso; omega)
      exact leave0 (.tuple #[.agg (Rfm.cells ({ x with till := IntKind.i64.wrap (now + ((trkA ts x.track).confirm)) })).toArray, .int .i64 0]) (.inl rfl) (res_agg_tmp (m := 45) rfl rfl rfl (by kernel_rfl) hb5_85 rfl) ⟨by rw [hY, hE] <;> rfl, hK0⟩
   ·
    refine V_skip ?_
    refine X_block ?_
    refine X_then ?_
    refine V_seq ?_
    refine V_block ?_
    refine V_seq ?_
    refine V_region ?_
    refine OI_static 1 [(4, nt now), (6, pt b1), (10, pt b5), (12, pt b25), (52, .pointer (some ⟨b1, 40, none⟩))] (by kernel_rfl) ?_
    refine OI_cell 3 (.tmp 52) 40 (nt x.till) (some 53) (by kernel_rfl) (by kernel_rfl) hb1 (m := 1) (by kernel_rfl) rfl ?_
    refine OI_static 4 [(4, nt now), (6, pt b1), (10, pt b5), (12, pt b25), (55, .bool (!(decide (x.till = -1))))] (by kernel_rfl) ?_
    refine OI_eq [(4, nt now), (6, pt b1), (10, pt b5), (12, pt b25), (55, .bool true)] (by rw [decide_eq_false hc56]; rfl) ?_
    refine OI_static 5 [(4, nt now), (6, pt b1), (10, pt b5), (12, pt b25), (55, .bool true), (56, .pointer (some ⟨b1, 40, none⟩))] (by kernel_rfl) ?_
    refine OI_cell 3 (.tmp 56) 40 (nt x.till) (some 57) (by kernel_rfl) (by kernel_rfl) hb1 (m := 1) (by kernel_rfl) rfl ?_
    refine OI_static 10 [(4, nt now), (6, pt b1), (10, pt b5), (12, pt b25), (51, .bool (decide (x.till ≤ now)))] (by kernel_rfl) ?_
    refine OI_end rfl ?_
    refine X_then ?_
    refine V_if (x.till ≤ now) (by kernel_rfl) (fun hc88 => ?_) (fun hc88 => ?_)
    ·
     refine V_seq ?_
     refine V_region ?_
     refine OI_agg 57 (.tmp 6) 0 (Rfm.cells x) (some 61) (by kernel_rfl) (by kernel_rfl) hb1 (m := 45) (by kernel_rfl) (take_all (Rfm.len _)) (Rfm.len _) ?_
     refine OI_set (m := 45) (kd := true) 57 (.tmp 10) (.tmp 61) 0 (.agg (Rfm.cells x).toArray) (Rfm.cells x) none (by kernel_rfl) (by kernel_rfl) (by kernel_rfl) hb5 (by kernel_rfl) rfl (Rfm.len _) (Nat.le_of_ble_eq_true (by kernel_rfl)) (Rfm.one _) ?_
     intro w89 hb5_92 hk90 hz91
     replace hb5_92 : Blk w89 b5 (Rfm.cells x) 57 := (Blk.eqL (Rfm.over _ _) hb5_92)
     have hsz93 := Keep.size hk90
     replace hr := hr.keep hk90 (by show ¬ (_ = _); omega)
     replace hb1 := hb1.keep hk90 (by show ¬ (_ = _); omega)
     replace hb3 := hb3.keep hk90 (by show ¬ (_ = _); omega)
     replace hb25_34 := hb25_34.keep hk90 (by show ¬ (_ = _); omega)
     replace hat28 := hat28.keep hk90 (by show ¬ (_ = _); omega)
     replace hR := Rfr.keep hR hk90 (fun q hq hs => by have hs : q = b5 := hs; have g0 := hHo q hq; have g1 := hHlt q hq; omega)
     replace hK0 := Keep.fresh hK0 hk90 (by intro i hi hs; first | exact hs | exact Or.inl hs | exact Or.inr hs | (exfalso; have hs2 : i = b5 := hs; omega))
     refine OI_static 3 [(10, pt b5), (11, nt 2)] (by kernel_rfl) ?_
     refine OI_end rfl ?_
     refine X_then ?_
     refine V_ret ?_
     refine X_ret_block ?_
     refine X_ret_then ?_
     have hpb : ¬ passB (trkA ts x.track) y iss (w64 (now - x.since)) = false := by simpa using hc39
     have hu : tillI ts x y iss now = x.till := by unfold tillI; rw [if_neg hpb, if_neg hc56]
     have hw1 : w64 (now - x.since) = IntKind.i64.wrap (now - x.since) := rfl
     have hw2 : w64 (now + (trkA ts x.track).confirm) = IntKind.i64.wrap (now + (trkA ts x.track).confirm) := rfl
     have hY : decY ts x y iss now = { x with till := x.till } := by unfold decY; rw [if_neg hc7, hu]
     have hE : decE ts x y iss now = 2 := by unfold decE; rw [if_neg hc7, hu]; (repeat' split) <;> first | rfl | (exfalso; omega)
     exact leave0 (.tuple #[.agg (Rfm.cells x).toArray, .int .i64 2]) (.inl rfl) (res_agg_tmp (m := 45) rfl rfl rfl (by kernel_rfl) hb5_92 rfl) ⟨by rw [hY, hE] <;> rfl, hK0⟩
    ·
     refine V_seq ?_
     refine V_region ?_
     refine OI_static 1 [(4, nt now), (6, pt b1), (10, pt b5), (12, pt b25), (63, .pointer (some ⟨b1, 40, none⟩))] (by kernel_rfl) ?_
     refine OI_cell 3 (.tmp 63) 40 (nt x.till) (some 64) (by kernel_rfl) (by kernel_rfl) hb1 (m := 1) (by kernel_rfl) rfl ?_
     refine OI_static 4 [(4, nt now), (6, pt b1), (10, pt b5), (12, pt b25), (66, .bool (decide (x.till = -1)))] (by kernel_rfl) ?_
     refine OI_eq [(4, nt now), (6, pt b1), (10, pt b5), (12, pt b25), (66, .bool false)] (by rw [decide_eq_false hc56]) ?_
     refine OI_static 13 [(6, pt b1), (10, pt b5), (62, .bool false)] (by kernel_rfl) ?_
     refine OI_end rfl ?_
     refine X_then ?_
     refine V_false rfl ?_
     refine V_skip ?_
     refine X_block ?_
     refine X_then ?_
     refine V_seq ?_
     refine V_region ?_
     refine OI_agg 57 (.tmp 6) 0 (Rfm.cells x) (some 76) (by kernel_rfl) (by kernel_rfl) hb1 (m := 45) (by kernel_rfl) (take_all (Rfm.len _)) (Rfm.len _) ?_
     refine OI_set (m := 45) (kd := true) 57 (.tmp 10) (.tmp 76) 0 (.agg (Rfm.cells x).toArray) (Rfm.cells x) none (by kernel_rfl) (by kernel_rfl) (by kernel_rfl) hb5 (by kernel_rfl) rfl (Rfm.len _) (Nat.le_of_ble_eq_true (by kernel_rfl)) (Rfm.one _) ?_
     intro w95 hb5_98 hk96 hz97
     replace hb5_98 : Blk w95 b5 (Rfm.cells x) 57 := (Blk.eqL (Rfm.over _ _) hb5_98)
     have hsz99 := Keep.size hk96
     replace hr := hr.keep hk96 (by show ¬ (_ = _); omega)
     replace hb1 := hb1.keep hk96 (by show ¬ (_ = _); omega)
     replace hb3 := hb3.keep hk96 (by show ¬ (_ = _); omega)
     replace hb25_34 := hb25_34.keep hk96 (by show ¬ (_ = _); omega)
     replace hat28 := hat28.keep hk96 (by show ¬ (_ = _); omega)
     replace hR := Rfr.keep hR hk96 (fun q hq hs => by have hs : q = b5 := hs; have g0 := hHo q hq; have g1 := hHlt q hq; omega)
     replace hK0 := Keep.fresh hK0 hk96 (by intro i hi hs; first | exact hs | exact Or.inl hs | exact Or.inr hs | (exfalso; have hs2 : i = b5 := hs; omega))
     refine OI_static 3 [(10, pt b5), (11, nt 0)] (by kernel_rfl) ?_
     refine OI_end rfl ?_
     refine X_then ?_
     refine V_ret ?_
     have hpb : ¬ passB (trkA ts x.track) y iss (w64 (now - x.since)) = false := by simpa using hc39
     have hu : tillI ts x y iss now = x.till := by unfold tillI; rw [if_neg hpb, if_neg hc56]
     have hw1 : w64 (now - x.since) = IntKind.i64.wrap (now - x.since) := rfl
     have hw2 : w64 (now + (trkA ts x.track).confirm) = IntKind.i64.wrap (now + (trkA ts x.track).confirm) := rfl
     have hY : decY ts x y iss now = { x with till := x.till } := by unfold decY; rw [if_neg hc7, hu]
     have hE : decE ts x y iss now = 0 := by unfold decE; rw [if_neg hc7, hu]; (repeat' split) <;> first | rfl | (exfalso; omega)
     exact leave0 (.tuple #[.agg (Rfm.cells x).toArray, .int .i64 0]) (.inl rfl) (res_agg_tmp (m := 45) rfl rfl rfl (by kernel_rfl) hb5_98 rfl) ⟨by rw [hY, hE] <;> rfl, hK0⟩
end Go.Al


namespace Go.Al
open Go Go.RowKit Go.Proofs
section
variable {xs : List Acc} {cs : List Ci} {s : VS} {ts : List Trk} {rs : List Rfm} {who of after ref now st : Int}
end

set_option maxRecDepth 10000 in
set_option maxHeartbeats 1000000 in
theorem ends_spec (H : Nat → Prop) (r g : Nat) (ts : List Trk) (rs : List Rfm) (F : Nat → Prop) (v : Nat) (s : VS) (ref st now : Int) (w : World) (hR : Rfr H w r g ts rs) (hV : VotT F w v s) (hHF : ∀ q, H q → ¬ F q) (hx : getR rs ref = some (getA rs ref)) : Calls Tryz.prog 52 #[.pointer (some ⟨r, 0, none⟩), .pointer (some ⟨v, 0, none⟩), .int .i64 ref, .int .i64 st, .int .i64 now] w fun e w' => e = .returned (.agg (Evt.mk 1 ref st).cells.toArray) ∧ (∃ H' F', Rfr H' w' r g ts (endR s rs ref st now) ∧ VotT F' w' v (closeS s ref st now) ∧ (∀ q, H' q → H q ∨ w.heap.size ≤ q) ∧ (∀ q, F' q → F q ∨ w.heap.size ≤ q) ∧ (∀ q, H' q → ¬ F' q)) ∧ Keep (fun q => q = g ∨ F q) w w' := by
 have hHlt := Rfr.lt hR
 have hrH := Rfr.at_ hR
 have hgH := Rfr.atg hR
 have hrlt := hHlt _ hrH
 have hglt := hHlt _ hgH
 have hin := Rfr.inn hR
 obtain ⟨A, cap, hr, hA, hAo, hrg⟩ := Rfr.parts hR
 have hAlt := SlT.lt hA
 have hAr : ∀ q, inA A q → q ≠ r ∧ q ≠ g ∧ q < w.heap.size := fun q hq => ⟨(hAo q hq).2.1, (hAo q hq).2.2, hAlt q hq⟩
 have hgo : ∀ q, only g q → q ≠ r ∧ q = g := fun q hq => ⟨fun e => hrg (e.symm.trans hq), hq⟩
 have hgl : ∀ q, only g q → q < w.heap.size := fun q hq => by rw [show q = g from hq]; exact hglt
 have hHo : ∀ q, H q → 0 ≤ q := fun q _ => Nat.zero_le q
 have htl := hin.tl
 have hrl := hin.rl
 have hFlt := VotT.lt hV
 have hvlt := hFlt _ (VotT.at_ hV)
 have hVr : ∀ q, F q → q ≠ r := fun q hq e => hHF r hrH (e ▸ hq)
 have hHr : ∀ q, H q → H q ∨ w.heap.size ≤ q := fun _ h => .inl h
 have hFr : ∀ q, F q → F q ∨ w.heap.size ≤ q := fun _ h => .inl h
 obtain ⟨href, htr, hrat⟩ := getA_at hin hx
 obtain ⟨jt, hjt, hjl, htk, htm⟩ := trkA_at htr
 have hokt := hin.tok _ htm
 have hdep : 0 ≤ (trkA ts (getA rs ref).track).deposit ∧ (trkA ts (getA rs ref).track).deposit ≤ 1073741824 := hokt.2.1
 have hK0 : Keep (fun q => q = g ∨ F q) w w := Keep.refl _ _
 have hzhK0 := Keep.size hK0
 refine enterM Tryz.func52 rfl [pt r, pt v, nt ref, nt st, nt now] 42 rfl rfl rfl ?_
 refine V_pick [(0, pt r), (1, pt v), (2, nt ref), (3, nt st), (4, nt now)] rfl ?_
 refine V_seq ?_
 refine V_region ?_
 refine OI_alloc 53 (.agg #[nt 0, nt 0, nt 0]) [nt 0, nt 0, nt 0] (some 10) (by kernel_rfl) (by kernel_rfl) (by kernel_rfl) ?_
 intro b1 w1 e1 hb1 k1 z1
 have hsz2 := Keep.size k1
 replace hr := hr.keep k1 (fun f => f)
 replace hA := SlT.keep0 hA k1
 replace hR := Rfr.keep hR k1 (fun _ _ f => f)
 replace hV := VotT.keep hV k1 (fun _ _ f => f)
 replace hK0 := Keep.tr hK0 (Keep.ofNone k1)
 have hb1lt := hb1.lt
 refine OI_end rfl ?_
 refine X_then ?_
 refine V_seq ?_
 refine V_region ?_
 refine OI_static 2 [(0, pt r), (1, pt v), (2, nt ref), (3, nt st), (4, nt now), (10, pt b1), (14, pt r), (15, nt ref)] (by kernel_rfl) ?_
 refine OI_call { callee := (Callee.value (Operand.func 23)), args := #[(Operand.tmp 14), (Operand.tmp 15)], argTypes := #[34, 3] } 23 #[pt r, nt ref] (some 16) (by kernel_rfl) (by kernel_rfl) (by kernel_rfl) (rget_spec H r g ts rs ref _ hR) ?_
 rintro _ w3 ⟨rfl, hk4⟩
 refine ⟨_, rfl, ?_⟩
 have hsz5 := Keep.size hk4
 replace hr := hr.keep hk4 (fun f => f)
 replace hb1 := hb1.keep hk4 (fun f => f)
 replace hA := SlT.keep0 hA hk4
 replace hR := Rfr.keep hR hk4 (fun _ _ f => f)
 replace hV := VotT.keep hV hk4 (fun _ _ f => f)
 replace hK0 := Keep.tr hK0 (Keep.ofNone hk4)
 refine OI_static 6 [(0, pt r), (1, pt v), (2, nt ref), (3, nt st), (4, nt now), (10, pt b1), (17, .agg (Rfm.cells (getA rs ref)).toArray), (18, .bool ((getR rs ref).isSome))] (by kernel_rfl) ?_
 refine OI_alloc 57 (.agg (Rfm.cells Rfm.zero).toArray) (Rfm.cells Rfm.zero) (some 11) (by kernel_rfl) (by kernel_rfl) (by kernel_rfl) ?_
 intro b6 w6 e6 hb6 k6 z6
 have hsz7 := Keep.size k6
 replace hr := hr.keep k6 (fun f => f)
 replace hb1 := hb1.keep k6 (fun f => f)
 replace hA := SlT.keep0 hA k6
 replace hR := Rfr.keep hR k6 (fun _ _ f => f)
 replace hV := VotT.keep hV k6 (fun _ _ f => f)
 replace hK0 := Keep.tr hK0 (Keep.ofNone k6)
 have hb6lt := hb6.lt
 refine OI_set (m := 45) (kd := true) 57 (.tmp 11) (.tmp 17) 0 (.agg (Rfm.cells (getA rs ref)).toArray) (Rfm.cells (getA rs ref)) none (by kernel_rfl) (by kernel_rfl) (by kernel_rfl) hb6 (by kernel_rfl) rfl (Rfm.len _) (Nat.le_of_ble_eq_true (by kernel_rfl)) (Rfm.one _) ?_
 intro w8 hb6_11 hk9 hz10
 replace hb6_11 : Blk w8 b6 (Rfm.cells (getA rs ref)) 57 := (Blk.eqL (Rfm.over _ _) hb6_11)
 have hsz12 := Keep.size hk9
 replace hr := hr.keep hk9 (by show ¬ (_ = _); omega)
 replace hb1 := hb1.keep hk9 (by show ¬ (_ = _); omega)
 replace hA := SlT.keep hA hk9 (fun q hq hs => by have hs : q = b6 := hs; have g0 := hAr q hq; have g1 := hAlt q hq; omega)
 replace hR := Rfr.keep hR hk9 (fun q hq hs => by have hs : q = b6 := hs; have g0 := hHo q hq; have g1 := hHlt q hq; omega)
 replace hV := VotT.keep hV hk9 (fun q hq hs => by have hs : q = b6 := hs; have g0 := hVr q hq; have g1 := hFlt q hq; omega)
 replace hK0 := Keep.fresh hK0 hk9 (by intro i hi hs; first | exact hs | exact Or.inl hs | exact Or.inr hs | (exfalso; have hs2 : i = b6 := hs; omega))
 refine OI_static 9 [(0, pt r), (1, pt v), (2, nt ref), (3, nt st), (4, nt now), (10, pt b1), (11, pt b6)] (by kernel_rfl) ?_
 refine OI_end rfl ?_
 refine X_then ?_
 refine V_seq ?_
 refine V_region ?_
 refine OI_static 4 [(0, pt r), (1, pt v), (2, nt ref), (3, nt st), (4, nt now), (10, pt b1), (11, pt b6), (19, nt st), (20, nt now), (21, pt v), (22, nt ref)] (by kernel_rfl) ?_
 refine OI_call { callee := (Callee.value (Operand.func 32)), args := #[(Operand.tmp 21), (Operand.tmp 22)], argTypes := #[33, 3] } 32 #[pt v, nt ref] (some 23) (by kernel_rfl) (by kernel_rfl) (by kernel_rfl) (tally_spec F v s ref _ (hV).1) ?_
 rintro _ w13 ⟨rfl, hk14⟩
 refine ⟨_, rfl, ?_⟩
 have hsz15 := Keep.size hk14
 replace hr := hr.keep hk14 (fun f => f)
 replace hb1 := hb1.keep hk14 (fun f => f)
 replace hb6_11 := hb6_11.keep hk14 (fun f => f)
 replace hA := SlT.keep0 hA hk14
 replace hR := Rfr.keep hR hk14 (fun _ _ f => f)
 replace hV := VotT.keep hV hk14 (fun _ _ f => f)
 replace hK0 := Keep.tr hK0 (Keep.ofNone hk14)
 refine OI_static 6 [(0, pt r), (1, pt v), (2, nt ref), (3, nt st), (4, nt now), (10, pt b1), (11, pt b6), (19, nt st), (20, nt now), (23, .agg (Tly.cells (tallyT s ref)).toArray), (24, pt b6)] (by kernel_rfl) ?_
 refine OI_set (m := 1) (kd := false) 3 (.tmp 24) (.tmp 19) 0 (nt st) [nt st] none (by kernel_rfl) (by kernel_rfl) (by kernel_rfl) hb6_11 (by kernel_rfl) (by kernel_rfl) (by kernel_rfl) (Nat.le_of_ble_eq_true (by kernel_rfl)) (by simp [Value.oneCell']) ?_
 intro w16 hb6_19 hk17 hz18
 replace hb6_19 : Blk w16 b6 (Rfm.cells { (getA rs ref) with state := st }) 57 := (Blk.eqL (by kernel_rfl) hb6_19)
 have hsz20 := Keep.size hk17
 replace hr := hr.keep hk17 (by show ¬ (_ = _); omega)
 replace hb1 := hb1.keep hk17 (by show ¬ (_ = _); omega)
 replace hA := SlT.keep hA hk17 (fun q hq hs => by have hs : q = b6 := hs; have g0 := hAr q hq; have g1 := hAlt q hq; omega)
 replace hR := Rfr.keep hR hk17 (fun q hq hs => by have hs : q = b6 := hs; have g0 := hHo q hq; have g1 := hHlt q hq; omega)
 replace hV := VotT.keep hV hk17 (fun q hq hs => by have hs : q = b6 := hs; have g0 := hVr q hq; have g1 := hFlt q hq; omega)
 replace hK0 := Keep.fresh hK0 hk17 (by intro i hi hs; first | exact hs | exact Or.inl hs | exact Or.inr hs | (exfalso; have hs2 : i = b6 := hs; omega))
 refine OI_static 8 [(0, pt r), (1, pt v), (2, nt ref), (3, nt st), (4, nt now), (10, pt b1), (11, pt b6), (20, nt now), (23, .agg (Tly.cells (tallyT s ref)).toArray), (25, .pointer (some ⟨b6, 41, none⟩))] (by kernel_rfl) ?_
 refine OI_set (m := 1) (kd := false) 3 (.tmp 25) (.tmp 20) 41 (nt now) [nt now] none (by kernel_rfl) (by kernel_rfl) (by kernel_rfl) hb6_19 (by kernel_rfl) (by kernel_rfl) (by kernel_rfl) (Nat.le_of_ble_eq_true (by kernel_rfl)) (by simp [Value.oneCell']) ?_
 intro w21 hb6_24 hk22 hz23
 replace hb6_24 : Blk w21 b6 (Rfm.cells { (getA rs ref) with state := st, stop := now }) 57 := (Blk.eqL (by kernel_rfl) hb6_24)
 have hsz25 := Keep.size hk22
 replace hr := hr.keep hk22 (by show ¬ (_ = _); omega)
 replace hb1 := hb1.keep hk22 (by show ¬ (_ = _); omega)
 replace hA := SlT.keep hA hk22 (fun q hq hs => by have hs : q = b6 := hs; have g0 := hAr q hq; have g1 := hAlt q hq; omega)
 replace hR := Rfr.keep hR hk22 (fun q hq hs => by have hs : q = b6 := hs; have g0 := hHo q hq; have g1 := hHlt q hq; omega)
 replace hV := VotT.keep hV hk22 (fun q hq hs => by have hs : q = b6 := hs; have g0 := hVr q hq; have g1 := hFlt q hq; omega)
 replace hK0 := Keep.fresh hK0 hk22 (by intro i hi hs; first | exact hs | exact Or.inl hs | exact Or.inr hs | (exfalso; have hs2 : i = b6 := hs; omega))
 refine OI_static 10 [(0, pt r), (1, pt v), (2, nt ref), (3, nt st), (4, nt now), (10, pt b1), (11, pt b6), (23, .agg (Tly.cells (tallyT s ref)).toArray), (26, .pointer (some ⟨b6, 42, none⟩))] (by kernel_rfl) ?_
 refine OI_set (m := 3) (kd := true) 55 (.tmp 26) (.tmp 23) 42 (.agg (Tly.cells (tallyT s ref)).toArray) (Tly.cells (tallyT s ref)) none (by kernel_rfl) (by kernel_rfl) (by kernel_rfl) hb6_24 (by kernel_rfl) rfl (Tly.len _) (Nat.le_of_ble_eq_true (by kernel_rfl)) (Tly.one _) ?_
 intro w26 hb6_29 hk27 hz28
 replace hb6_29 : Blk w26 b6 (Rfm.cells { (getA rs ref) with state := st, stop := now, t := (tallyT s ref) }) 57 := (Blk.eqL (by kernel_rfl) hb6_29)
 have hsz30 := Keep.size hk27
 replace hr := hr.keep hk27 (by show ¬ (_ = _); omega)
 replace hb1 := hb1.keep hk27 (by show ¬ (_ = _); omega)
 replace hA := SlT.keep hA hk27 (fun q hq hs => by have hs : q = b6 := hs; have g0 := hAr q hq; have g1 := hAlt q hq; omega)
 replace hR := Rfr.keep hR hk27 (fun q hq hs => by have hs : q = b6 := hs; have g0 := hHo q hq; have g1 := hHlt q hq; omega)
 replace hV := VotT.keep hV hk27 (fun q hq hs => by have hs : q = b6 := hs; have g0 := hVr q hq; have g1 := hFlt q hq; omega)
 replace hK0 := Keep.fresh hK0 hk27 (by intro i hi hs; first | exact hs | exact Or.inl hs | exact Or.inr hs | (exfalso; have hs2 : i = b6 := hs; omega))
 refine OI_end rfl ?_
 refine X_then ?_
 refine V_seq ?_
 refine V_draws (acts [6]) none_ [[0, 1, 2, 3, 4, 5, 6]] (by kernel_rfl) (by repeat first | exact (by first | exact sure_postM | exact sure_rQ2 | exact sure_no) | refine sure_then ?_ | refine sure_block ?_ | refine sure_join ?_) (by kernel_rfl) ?_
 intro w32 hk31 he33 L hL34
 have hsz35 := Keep.size hk31
 replace hr := hr.keep hk31 (fun f => f)
 replace hb1 := hb1.keep hk31 (fun f => f)
 replace hb6_29 := hb6_29.keep hk31 (fun f => f)
 replace hA := SlT.keep0 hA hk31
 replace hR := Rfr.keep hR hk31 (fun _ _ f => f)
 replace hV := VotT.keep hV hk31 (fun _ _ f => f)
 replace hK0 := Keep.tr hK0 (Keep.ofNone hk31)
 have qhr := hr
 have qhb1 := hb1
 have qhb6_29 := hb6_29
 have K36 : Keep none_ w32 w32 := Keep.refl _ _
 obtain rfl := List.mem_singleton.1 hL34
 refine GI_static [3, 4, 5, 6] [(1, pt v), (2, nt ref), (3, nt st), (4, nt now), (10, pt b1), (11, pt b6), (29, .pointer (some ⟨r, 1, none⟩))] (by kernel_rfl) ?_
 refine GI_cell 95 (.tmp 29) 1 (pt g) (some 30) (by kernel_rfl) (by kernel_rfl) (by kernel_rfl) qhr (fun f => f) (m := 1) (by kernel_rfl) rfl ?_
 refine GI_static [5, 6] [(1, pt v), (2, nt ref), (3, nt st), (4, nt now), (10, pt b1), (11, pt b6), (30, pt g), (31, nt ref)] (by kernel_rfl) ?_
 refine GI_agg 57 (.tmp 11) 0 (Rfm.cells { (getA rs ref) with state := st, stop := now, t := (tallyT s ref) }) (some 32) (by kernel_rfl) (by kernel_rfl) (by kernel_rfl) qhb6_29 (fun f => f) (m := 45) (by kernel_rfl) (take_all (Rfm.len _)) (Rfm.len _) ?_
 refine GI_final 6 (by kernel_rfl) (by kernel_rfl) ?_
 refine OI_call { callee := (Callee.value (Operand.func 45)), args := #[(Operand.tmp 30), (Operand.const (Value.int IntKind.i64 0)), (Operand.tmp 31), (Operand.tmp 32)], argTypes := #[95, 3, 3, 57] } 45 #[pt g, nt 0, nt ref, .agg (Rfm.cells { (getA rs ref) with state := st, stop := now, t := (tallyT s ref) }).toArray] (some 33) (by kernel_rfl) (by kernel_rfl) (by kernel_rfl) (rset_spec H r g ts rs ref ({ (getA rs ref) with state := st, stop := now, t := (tallyT s ref) }) _ hR href htr) ?_
 rintro _ w39 ⟨rfl, ⟨H41, hR42, hfr43⟩, hk40⟩
 refine ⟨_, rfl, ?_⟩
 have hsz44 := Keep.size hk40
 replace hr := hr.keep hk40 (fun hs => by have h1 := hgo _ hs; have h2 := hgl _ hs; omega)
 replace hb1 := hb1.keep hk40 (fun hs => by have h1 := hgo _ hs; have h2 := hgl _ hs; omega)
 replace hb6_29 := hb6_29.keep hk40 (fun hs => by have h1 := hgo _ hs; have h2 := hgl _ hs; omega)
 replace hA := SlT.keep hA hk40 (fun q hq hs => (fun q h1 h2 => (hAo q h2).2.2 h1) q hs hq)
 replace hV := VotT.keep hV hk40 (fun q hq hs => (fun q h1 h2 => hHF q (by rw [show q = g from h1]; exact hgH) h2) q hs hq)
 replace hK0 := Keep.fresh hK0 hk40 (by intro i hi hs; first | exact hs | (exfalso; have h1 := hgo i hs; have h2 := hgl i hs; omega) | (have h1 := hgo i hs; have h2 := hgl i hs; show _ ∨ _; omega))
 have own46 : ∀ q, H41 q → 0 ≤ q ∧ q ≠ b1 ∧ q ≠ b6 := fun q hq => by rcases hfr43 q hq with h | h; (have h1 := hHo q h; have h2 := hHlt q h; omega); omega
 have lt45 := Rfr.lt hR42
 have rel47 : ∀ q, H41 q → H q ∨ w.heap.size ≤ q := fun q hq => by rcases hfr43 q hq with h | h; exact hHr q h; exact .inr (by omega)
 have dis48 : ∀ q, H41 q → ¬ F q := fun q h1 h2 => by rcases hfr43 q h1 with h | h; exact hHF q h h2; (have h4 := hFlt q h2; omega)
 refine OI_end rfl ?_
 refine X_then ?_
 refine V_seq ?_
 refine V_region ?_
 refine OI_static 4 [(2, nt ref), (3, nt st), (10, pt b1), (34, pt v), (35, nt ref), (36, nt st), (37, nt now)] (by kernel_rfl) ?_
 refine OI_call { callee := (Callee.value (Operand.func 42)), args := #[(Operand.tmp 34), (Operand.tmp 35), (Operand.tmp 36), (Operand.tmp 37)], argTypes := #[33, 3, 3, 3] } 42 #[pt v, nt ref, nt st, nt now] (some 38) (by kernel_rfl) (by kernel_rfl) (by kernel_rfl) (close_specT F v s ref st now _ hV) ?_
 rintro _ w51 ⟨rfl, ⟨F53, ho54, hfr55⟩, hk52⟩
 refine ⟨_, rfl, ?_⟩
 have hsz56 := Keep.size hk52
 replace hr := hr.keep hk52 (fun hs => by have h1 := hVr _ hs; have h2 := hFlt _ hs; omega)
 replace hb1 := hb1.keep hk52 (fun hs => by have h1 := hVr _ hs; have h2 := hFlt _ hs; omega)
 replace hb6_29 := hb6_29.keep hk52 (fun hs => by have h1 := hVr _ hs; have h2 := hFlt _ hs; omega)
 replace hA := SlT.keep hA hk52 (fun q hq hs => (fun q h1 h2 => hHF q (hAo q h2).1 h1) q hs hq)
 replace hK0 := Keep.fresh hK0 hk52 (fun i hi hs => by rcases hFr i hs with h | h; exact .inr <| h; (exfalso; omega))
 replace hR42 := Rfr.keep hR42 hk52 (fun q hq hs => (fun q h1 h2 => dis48 q h2 h1) q hs hq)
 have own58 : ∀ q, F53 q → q ≠ r ∧ q ≠ r ∧ q ≠ b1 ∧ q ≠ b6 := fun q hq => by rcases hfr55 q hq with h | h; (have h1 := hVr q h; have h2 := hFlt q h; omega); omega
 have lt57 := VotT.lt ho54
 have rel59 : ∀ q, F53 q → F q ∨ w.heap.size ≤ q := fun q hq => by rcases hfr55 q hq with h | h; exact hFr q h; exact .inr (by omega)
 have dis60 : ∀ q, F53 q → ¬ inA A q := fun q h1 h2 => by rcases hfr55 q h1 with h | h; exact (fun q h1 h2 => hHF q (hAo q h2).1 h1) q h h2; (have h4 := hAlt q h2; omega)
 have dis61 : ∀ q, F53 q → ¬ H41 q := fun q h1 h2 => by rcases hfr55 q h1 with h | h; exact (fun q h1 h2 => dis48 q h2 h1) q h h2; (have h4 := lt45 q h2; omega)
 refine OI_end rfl ?_
 refine X_then ?_
 refine V_seq ?_
 refine V_region ?_
 refine OI_static 3 [(10, pt b1), (41, .agg #[nt 1, nt ref, nt st])] (by kernel_rfl) ?_
 refine OI_set (m := 3) (kd := true) 53 (.tmp 10) (.tmp 41) 0 (.agg #[nt 1, nt ref, nt st]) [nt 1, nt ref, nt st] none (by kernel_rfl) (by kernel_rfl) (by kernel_rfl) hb1 (by kernel_rfl) (by kernel_rfl) (by kernel_rfl) (Nat.le_of_ble_eq_true (by kernel_rfl)) (by simp [Value.oneCell']) ?_
 intro w62 hb1_65 hk63 hz64
 replace hb1_65 : Blk w62 b1 [nt 1, nt ref, nt st] 53 := hb1_65
 have hsz66 := Keep.size hk63
 replace hr := hr.keep hk63 (by show ¬ (_ = _); omega)
 replace hb6_29 := hb6_29.keep hk63 (by show ¬ (_ = _); omega)
 replace hA := SlT.keep hA hk63 (fun q hq hs => by have hs : q = b1 := hs; have g0 := hAr q hq; have g1 := hAlt q hq; omega)
 replace hK0 := Keep.fresh hK0 hk63 (by intro i hi hs; first | exact hs | exact Or.inl hs | exact Or.inr hs | (exfalso; have hs2 : i = b1 := hs; omega))
 replace hR42 := Rfr.keep hR42 hk63 (fun q hq hs => by have hs : q = b1 := hs; have g0 := own46 q hq; have g1 := lt45 q hq; omega)
 replace ho54 := VotT.keep ho54 hk63 (fun q hq hs => by have hs : q = b1 := hs; have g0 := own58 q hq; have g1 := lt57 q hq; omega)
 refine OI_end rfl ?_
 refine X_then ?_
 refine V_ret ?_
 exact leave0 (.agg [nt 1, nt ref, nt st].toArray) (.inl rfl) (res_agg1 (m := 3) rfl rfl (by kernel_rfl) hb1_65 rfl) ⟨rfl, ⟨H41, F53, hR42, ho54, rel47, rel59, (fun q h1 h2 => dis61 q h2 h1)⟩, hK0⟩

end Go.Al

