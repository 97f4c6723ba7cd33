/-
  Put together out of 2 texts: Walks of the laws of act: what is done, in both. ActDoes, whatever it is given.
-/
import Derived.Test.YtcaiibbhnalffaaGreatActDoesB7
open Go.IntKind (i64)
set_option maxRecDepth 10000
namespace Go.Al
open Go Go.RowKit Go.Proofs
theorem doD_len {ts : List Trk} {of now : Int} {c : CA} {u : RW} : (doD ts of now c u).1.length ≤ 300 := by
  unfold doD
  split
  · simp
  · rename_i h
    exact doC_len 3 (by omega) c u (by
      cases hb : okCA 3 c
      · exact (h (.inr hb)).elim
      · rfl)
set_option maxHeartbeats 4000000 in
theorem walk_ActDoes (A L T : Option Addr) (cA cL cT : Nat) (fs : List Int) (refs : Int) (ac : List CA) (tk : List Int) (w : World) (hA0 : ArgT w 1 intc A cA fs) (hL0 : ArgT w 4 CA.cells L cL ac) (hT0 : ArgT w 1 intc T cT tk) (hcok : ∀ x ∈ ac, CAok x) (hreps : ∀ x ∈ ac, RepIn (Bel w) w x) (hn1 : fs.length ≤ 9223372036854775807) (hn2 : ac.length ≤ 9223372036854775807) (hn3 : tk.length ≤ 9223372036854775807) : Calls Tryz.prog 7 #[.slice A fs.length cA, nt refs, .slice L ac.length cL, .slice T tk.length cT] w (rk_ w (.bool true)) := by
 have hA := hA0
 have hL := hL0
 have hT := hT0
 have hK0 := Keep.refl none_ w
 refine eV ?_
 refine Vr <| On 1 [0, 1, 2, 3] <| Oe <| V_seq <| Vr <| On 4 [0, 1, 2, 3, 19] ?_
 by_cases hg1 : (ac.length : Int) > 20
 ·
  exact Oq (u := .bool (decide ((ac.length : Int) > 20))) (v := .bool true) 19 (by first | (rw [decide_eq_true hg1]; done) | (rw [decide_eq_true hg1]; rfl) | simp [hg1] | rfl) <| Oen [0, 1, 2, 3, 30] <| Vo <| Vn [8] <| Rt <| Xr (.bool true) ⟨rfl, hK0⟩
 refine Oq (u := .bool (decide ((ac.length : Int) > 20))) (v := .bool false) 19 (by first | (rw [decide_eq_false hg1]; done) | (rw [decide_eq_false hg1]; rfl) | simp [hg1] | rfl) <| On 11 [0, 1, 2, 3, 26] ?_
 by_cases hg2 : (tk.length : Int) < (ac.length : Int)
 ·
  exact Oq (u := .bool (decide ((tk.length : Int) < (ac.length : Int)))) (v := .bool true) 26 (by first | (rw [decide_eq_true hg2]; done) | (rw [decide_eq_true hg2]; rfl) | simp [hg2] | rfl) <| Oen [0, 1, 2, 3, 30] <| Vo <| Vn [8] <| Rt <| Xr (.bool true) ⟨rfl, hK0⟩
 refine Oq (u := .bool (decide ((tk.length : Int) < (ac.length : Int)))) (v := .bool false) 26 (by first | (rw [decide_eq_false hg2]; done) | (rw [decide_eq_false hg2]; rfl) | simp [hg2] | rfl) <| Oen [0, 1, 2, 3, 30] <| Vi ((fs.length : Int) > 1000) (fun hc3 => ?_) (fun hc3 => ?_)
 ·
  exact Vn [8] <| Rt <| Xr (.bool true) ⟨rfl, hK0⟩
 refine Vsk <| Vr <| On 2 [2, 3, 31, 32] <| Kg (begin_ac A cA fs refs _ hA (by omega)) ?_
 rintro _ w6 ⟨b8, B9, rfl, ho10, hk7, hge11⟩
 refine ⟨_, rfl, ?_⟩
 have hsz12 := Keep.size hk7
 replace hL := ArgT.keep0 hL hk7
 replace hT := ArgT.keep0 hT hk7
 replace hreps := fun x9 hx9 => RepIn.keep (hreps x9 hx9) hk7 nk
 replace hK0 := hK0.tn hk7
 replace ho10 : Pr B9 w6 b8 actTs (sbQ fs (nRef refs)) := ho10
 have own13 : ∀ q, B9 q → w.heap.size ≤ q := fun q hq => by have h1 := hge11 q hq; omega
 have lt14 := Pr.lt ho10
 have hb8lt : b8 < w6.heap.size := Pr.lt ho10 _ (Pr.at_ ho10)
 refine On 4 [2, 3, 9] <| Oe <| V_seq <| Vn [2, 3, 9, 35] <| Vf <| Vsk <| V_seq <| Vn [2, 3, 9, 10] <| V_block <| Vp [(2, .slice L ac.length cL),(3, .slice T tk.length cT),(9, pt b8),(10, nt 0)] <| V_loop (fun k wI e => ∃ i : Nat, ∃ q : RW, ∃ F15 : Nat → Prop, (k + i = ac.length) ∧ (i ≤ 20) ∧ (Pr F15 wI b8 actTs q) ∧ (∀ q, F15 q → w.heap.size ≤ q) ∧ (∀ q, F15 q → B9 q ∨ w6.heap.size ≤ q) ∧ Keep B9 w6 wI ∧ e = [(2, .slice L ac.length cL),(3, .slice T tk.length cT),(9, pt b8),(10, nt (i : Int))]) ac.length ⟨0, sbQ fs (nRef refs), B9, by omega, by omega, ho10, (fun q hq => by have h1 := own13 q hq; have h2 := lt14 q hq; omega), fun q h => .inl h, Keep.refl _ _, rfl⟩ ?_
 rintro k20 w19 _ ⟨i, q, F15, hki, hi9, ho16, own17, rel18, hk21, rfl⟩
 have hsz22 := Keep.size hk21
 replace hL := ArgT.keep hL hk21 hL0 (fun k hk hs => by have h1 := own13 k hs; have h2 := lt14 k hs; omega)
 replace hT := ArgT.keep hT hk21 hT0 (fun k hk hs => by have h1 := own13 k hs; have h2 := lt14 k hs; omega)
 replace hreps := fun x9 hx9 => RepIn.keep (hreps x9 hx9) hk21 (fun k hk hs => by have g1 : k < w.heap.size := hk; have h1 := own13 k hs; have h2 := lt14 k hs; omega)
 replace hK0 := Keep.fresh hK0 hk21 (by intro i hi hs; have h1 := own13 i hs; have h2 := lt14 i hs; omega)
 have hzhk21 := Keep.size hk21
 have lt23 := Pr.lt ho16
 have hb8lt : b8 < w19.heap.size := Pr.lt ho16 _ (Pr.at_ ho16)
 obtain ⟨hBlt8, hBb8, H8, F8, G8, X8, Y8, Z8, r8, g8, v8, l8, x8, y8, z8, hpr8⟩ := ho16
 have hb8 := hpr8.blk
 have hb8lt := hb8.lt
 have hb8ow := own17 _ hBb8
 have hr8 := hpr8.hr
 have owH8 : ∀ q, H8 q → (w.heap.size ≤ q) ∧ q ≠ b8 := fun q hq => by have h1 := own17 q (hpr8.inH q hq).1; have h2 := (hpr8.inH q hq).2; omega
 have ltH8 := Rfr.lt hr8
 have hr8lt := ltH8 _ (Rfr.at_ hr8)
 have hr8ow := owH8 _ (Rfr.at_ hr8)
 have rlH80 : ∀ q, H8 q → B9 q ∨ w6.heap.size ≤ q := fun q hq => rel18 q (hpr8.inH q hq).1
 have rbH8 : ∀ q, H8 q → F15 q ∨ w19.heap.size ≤ q := fun q hq => .inl (hpr8.inH q hq).1
 have hv8 := hpr8.hv
 have owF8 : ∀ q, F8 q → (w.heap.size ≤ q) ∧ q ≠ b8 := fun q hq => by have h1 := own17 q (hpr8.inF q hq).1; have h2 := (hpr8.inF q hq).2; omega
 have ltF8 := VotT.lt hv8
 have hv8lt := ltF8 _ (VotT.at_ hv8)
 have hv8ow := owF8 _ (VotT.at_ hv8)
 have rlF80 : ∀ q, F8 q → B9 q ∨ w6.heap.size ≤ q := fun q hq => rel18 q (hpr8.inF q hq).1
 have rbF8 : ∀ q, F8 q → F15 q ∨ w19.heap.size ≤ q := fun q hq => .inl (hpr8.inF q hq).1
 have hl8 := hpr8.hl
 have owG8 : ∀ q, G8 q → (w.heap.size ≤ q) ∧ q ≠ b8 := fun q hq => by have h1 := own17 q (hpr8.inG q hq).1; have h2 := (hpr8.inG q hq).2; omega
 have ltG8 := Led.lt hl8
 have hl8lt := ltG8 _ (Led.at_ hl8)
 have hl8ow := owG8 _ (Led.at_ hl8)
 have rlG80 : ∀ q, G8 q → B9 q ∨ w6.heap.size ≤ q := fun q hq => rel18 q (hpr8.inG q hq).1
 have rbG8 : ∀ q, G8 q → F15 q ∨ w19.heap.size ≤ q := fun q hq => .inl (hpr8.inG q hq).1
 have hx8 := hpr8.hx
 have owX8 : ∀ q, X8 q → (w.heap.size ≤ q) ∧ q ≠ b8 := fun q hq => by have h1 := own17 q (hpr8.inX q hq).1; have h2 := (hpr8.inX q hq).2; omega
 have ltX8 := DLd.lt hx8
 have hx8lt := ltX8 _ (DLd.at_ hx8)
 have hx8ow := owX8 _ (DLd.at_ hx8)
 have rlX80 : ∀ q, X8 q → B9 q ∨ w6.heap.size ≤ q := fun q hq => rel18 q (hpr8.inX q hq).1
 have rbX8 : ∀ q, X8 q → F15 q ∨ w19.heap.size ≤ q := fun q hq => .inl (hpr8.inX q hq).1
 have hy8 := hpr8.hy
 have owY8 : ∀ q, Y8 q → (w.heap.size ≤ q) ∧ q ≠ b8 := fun q hq => by have h1 := own17 q (hpr8.inY q hq).1; have h2 := (hpr8.inY q hq).2; omega
 have ltY8 := DVt.lt hy8
 have hy8lt := ltY8 _ (DVt.at_ hy8)
 have hy8ow := owY8 _ (DVt.at_ hy8)
 have rlY80 : ∀ q, Y8 q → B9 q ∨ w6.heap.size ≤ q := fun q hq => rel18 q (hpr8.inY q hq).1
 have rbY8 : ∀ q, Y8 q → F15 q ∨ w19.heap.size ≤ q := fun q hq => .inl (hpr8.inY q hq).1
 have hz8 := hpr8.hz
 have owZ8 : ∀ q, Z8 q → (w.heap.size ≤ q) ∧ q ≠ b8 := fun q hq => by have h1 := own17 q (hpr8.inZ q hq).1; have h2 := (hpr8.inZ q hq).2; omega
 have ltZ8 := DRf.lt hz8
 have hz8lt := ltZ8 _ (DRf.at_ hz8)
 have hz8ow := owZ8 _ (DRf.at_ hz8)
 have rlZ80 : ∀ q, Z8 q → B9 q ∨ w6.heap.size ≤ q := fun q hq => rel18 q (hpr8.inZ q hq).1
 have rbZ8 : ∀ q, Z8 q → F15 q ∨ w19.heap.size ≤ q := fun q hq => .inl (hpr8.inZ q hq).1
 refine V_seq <| Vn [2, 3, 9, 10, 39] <| Vi ((i : Int) < (ac.length : Int)) (fun hc24 => ?_) (fun hc24 => ?_)
 ·
  refine Vsk <| V_seq <| V_block <| V_seq <| Vr <| On 2 [2, 3, 9, 10, 42, 43] ?_
  obtain ⟨b25, o25, L25, rfl, hat25⟩ := ArgT.open_ hL (by first | omega | (simp only [List.length_map]; omega) | (simp; done) | (simp; omega))
  have hb25lt0 := ArgT.lt hL0 (by first | omega | (simp only [List.length_map]; omega) | (simp; done) | (simp; omega))
  have hb25lt := hat25.blk.lt
  refine Oi (b := b25) (o := o25) (len := ac.length) (cap := cL) (j := i) (some 44) 24 (.tmp 42) (.tmp 43) 26 4 48 .i64 ?_
  obtain ⟨x26, hx27⟩ := exAt (xs := ac) (i := i)
  refine OI_aggR 26 (.tmp 44) (o25 + i * 4) (CA.cells x26) (some 45) (by kernel_rfl) (by kernel_rfl) hat25.blk (m := 4) (by kernel_rfl) (AtR.elem' hat25 _ _ (es_at hx27)) (AtR.len hat25 (es_at hx27)) <| Kg (size_spec x26 (hcok x26 (List.mem_of_getElem? hx27)) (Bel w) _ (hreps x26 (List.mem_of_getElem? hx27))) ?_
  rintro _ w28 ⟨m30, rfl, hk29⟩
  refine ⟨_, rfl, ?_⟩
  have hsz31 := Keep.size hk29
  replace hb8 := hb8.k0 hk29
  replace hat25 := hat25.keep hk29 id
  replace hT := ArgT.keep0 hT hk29
  replace hreps := fun x9 hx9 => RepIn.keep (hreps x9 hx9) hk29 nk
  replace hK0 := hK0.tn hk29
  replace hk21 := hk21.tn hk29
  replace hr8 := hr8.keep hk29 nk
  replace hv8 := hv8.keep hk29 nk
  replace hl8 := hl8.keep hk29 nk
  replace hx8 := DLd.keep hx8 hk29 nk
  replace hy8 := DVt.keep hy8 hk29 nk
  replace hz8 := DRf.keep hz8 hk29 nk
  refine Oen [2, 3, 9, 10, 47] <| Vi (m30 ≥ 300) (fun hc32 => ?_) (fun hc32 => ?_)
  ·
   exact Vn [8] <| Rt <| X_ret_block <| X_ret_then <| X_ret_then <| X_ret_block <| X_ret_then <| Xr (.bool true) ⟨rfl, hK0⟩
  refine Vsk <| V_seq ?_
  have h10 : 0 < tk.length := by omega
  obtain ⟨b33, o33, L33, rfl, hat33⟩ := ArgT.open_ hT (by first | omega | (simp only [List.length_map]; omega) | (simp; done) | (simp; omega))
  have hb33lt0 := ArgT.lt hT0 (by first | omega | (simp only [List.length_map]; omega) | (simp; done) | (simp; omega))
  have hb33lt := hat33.blk.lt
  refine V_draws (acts [21]) (fun q => q ≠ b8 ∧ q ≠ b25 ∧ q ≠ b33) [[0, 1, 2, 3, 4, 5, 6, 7, 8, 9, 10, 11, 12, 13, 14, 15, 16, 17, 18, 19, 20, 21, 22, 23, 24, 25, 26]] (by kernel_rfl) (by repeat first | exact (by first | exact (by first | exact sure_body (by rintro _ _ ⟨_, _, h, _⟩; exact ⟨_, h⟩) | exact sure_body (by rintro _ _ ⟨_, _, h, _⟩; exact ⟨_, h⟩) | exact sure_body (by rintro _ _ ⟨h, _⟩; exact ⟨_, h⟩)) | exact sure_body (by rintro _ _ ⟨_, _, _, h, _⟩; exact ⟨_, h⟩) | exact sure_body (by rintro _ _ ⟨_, h, _⟩; exact ⟨_, h⟩)) | refine sure_then ?_ | refine sure_block ?_ | refine sure_join ?_) (by kernel_rfl) ?_
  intro w35 hk34 he36 L hL37
  have hsz38 := Keep.size hk34
  replace hb8 := hb8.k0 hk34
  replace hat25 := hat25.keep hk34 id
  replace hat33 := hat33.keep hk34 id
  replace hreps := fun x9 hx9 => RepIn.keep (hreps x9 hx9) hk34 nk
  replace hk21 := hk21.tn hk34
  replace hr8 := hr8.keep hk34 nk
  replace hv8 := hv8.keep hk34 nk
  replace hl8 := hl8.keep hk34 nk
  replace hx8 := DLd.keep hx8 hk34 nk
  replace hy8 := DVt.keep hy8 hk34 nk
  replace hz8 := DRf.keep hz8 hk34 nk
  have qhb8 := hb8
  have qhat25 := hat25
  have qhat33 := hat33
  have K39 : Keep (fun q => q ≠ b8 ∧ q ≠ b25 ∧ q ≠ b33) w35 w35 := Keep.refl _ _
  obtain rfl := List.mem_singleton.1 hL37
  refine Gn [3, 4, 5, 6, 7, 8, 9, 10, 11, 12, 13, 14, 15, 16, 17, 18, 19, 20, 21, 22, 23, 24, 25, 26] [2, 3, 9, 10, 51] <| Mc 0 (pt l8) qhb8 (by show ¬ (b8 ≠ b8 ∧ b8 ≠ b25 ∧ b8 ≠ b33); omega) rfl <| Gn [7, 8, 9, 10, 11, 12, 13, 14, 15, 16, 17, 18, 19, 20, 21, 22, 23, 24, 25, 26] [2, 3, 9, 10, 52, 55] <| Mc 1 (pt v8) qhb8 (by show ¬ (b8 ≠ b8 ∧ b8 ≠ b25 ∧ b8 ≠ b33); omega) rfl <| Gn [11, 12, 13, 14, 15, 16, 17, 18, 19, 20, 21, 22, 23, 24, 25, 26] [2, 3, 9, 10, 52, 56, 59] <| Mc 2 (pt r8) qhb8 (by show ¬ (b8 ≠ b8 ∧ b8 ≠ b25 ∧ b8 ≠ b33); omega) rfl <| Gs [14, 15, 16, 17, 18, 19, 20, 21, 22, 23, 24, 25, 26] [(2, sl_ b25 o25 ac.length cL),(3, sl_ b33 o33 tk.length cT),(9, pt b8),(10, nt (i : Int)),(52, pt l8),(56, pt v8),(60, pt r8),(61, sl_ b25 o25 ac.length cL),(62, nt (i : Int))] <| Gi (b := b25) (o := o25) (len := ac.length) (cap := cL) (j := i) 26 4 48 .i64 <| GI_aggR 26 (.tmp 63) (o25 + i * 4) (CA.cells x26) (some 64) (by kernel_rfl) (by kernel_rfl) (by kernel_rfl) qhat25.blk (by show ¬ (b25 ≠ b8 ∧ b25 ≠ b25 ∧ b25 ≠ b33); omega) (m := 4) (by kernel_rfl) (AtR.elem' qhat25 _ _ (es_at hx27)) (AtR.len qhat25 (es_at hx27)) <| Gs [18, 19, 20, 21, 22, 23, 24, 25, 26] [(2, sl_ b25 o25 ac.length cL),(3, sl_ b33 o33 tk.length cT),(9, pt b8),(10, nt (i : Int)),(52, pt l8),(56, pt v8),(60, pt r8),(64, .agg (CA.cells x26).toArray),(65, sl_ b33 o33 tk.length cT),(66, nt (i : Int))] <| Gi (b := b33) (o := o33) (len := tk.length) (cap := cT) (j := i) 3 1 8 .i64 ?_
  obtain ⟨x40, hx41⟩ := exAt (xs := tk) (i := i)
  refine GI_cellR 3 (.tmp 67) (o33 + i * 1) (nt x40) (some 68) (by kernel_rfl) (by kernel_rfl) (by kernel_rfl) qhat33.blk (by show ¬ (b33 ≠ b8 ∧ b33 ≠ b25 ∧ b33 ≠ b33); omega) (m := 1) (by kernel_rfl) (AtR.cell0 qhat33 (es_at hx41) rfl) <| Gn [21, 22, 23, 24, 25, 26] [2, 3, 9, 10, 52, 56, 60, 64, 68, 69] <| Jg (do_spec (Bel w) x26 r8 g8 actTs v8 l8 x40 (i : Int) H8 F8 G8 q _ (hreps x26 (List.mem_of_getElem? hx27)) hr8 hv8 hl8 hpr8.dHF hpr8.dHG hpr8.dFG (fun q hq => ⟨by have h1 : q < w.heap.size := hq; omega, fun h => by have h1 : q < w.heap.size := hq; have h2 := owH8 q h; omega, fun h => by have h1 : q < w.heap.size := hq; have h2 := owF8 q h; omega, fun h => by have h1 : q < w.heap.size := hq; have h2 := owG8 q h; omega⟩)) ?_
  rintro _ w46 ⟨A48, cap48, rfl, hA48, ow48, ⟨F49, F52, F55, ho50, ho53, ho56, hfr51, hfr54, hfr57, hdis58, hdis59, hdis60, dA61, dA62, dA63⟩, hk47⟩
  refine ⟨_, rfl, ?_⟩
  have hsz64 := Keep.size hk47
  replace hb8 := hb8.keep hk47 (fun hs => by rcases hs with hs | hs | hs; (have u9 : _ = g8 := hs; have u0 := owH8 _ (Rfr.atg hr8); have u1 := ltH8 _ (Rfr.atg hr8); omega); (have u0 := owF8 _ hs; have u1 := ltF8 _ hs; omega); (have u0 := owG8 _ hs; have u1 := ltG8 _ hs; omega))
  replace hat25 := hat25.keep hk47 (fun hs => by rcases hs with hs | hs | hs; (have u9 : _ = g8 := hs; have u0 := owH8 _ (Rfr.atg hr8); have u1 := ltH8 _ (Rfr.atg hr8); omega); (have u0 := owF8 _ hs; have u1 := ltF8 _ hs; omega); (have u0 := owG8 _ hs; have u1 := ltG8 _ hs; omega))
  replace hat33 := hat33.keep hk47 (fun hs => by rcases hs with hs | hs | hs; (have u9 : _ = g8 := hs; have u0 := owH8 _ (Rfr.atg hr8); have u1 := ltH8 _ (Rfr.atg hr8); omega); (have u0 := owF8 _ hs; have u1 := ltF8 _ hs; omega); (have u0 := owG8 _ hs; have u1 := ltG8 _ hs; omega))
  replace hreps := fun x9 hx9 => RepIn.keep (hreps x9 hx9) hk47 (fun k hk hs => by have g1 : k < w.heap.size := hk; rcases hs with hs | hs | hs; (have u9 : _ = g8 := hs; have u0 := owH8 _ (Rfr.atg hr8); have u1 := ltH8 _ (Rfr.atg hr8); omega); (have u0 := owF8 k hs; have u1 := ltF8 k hs; omega); (have u0 := owG8 k hs; have u1 := ltG8 k hs; omega))
  replace hk21 := Keep.fresh hk21 hk47 (fun i hi hs => by rcases hs with hs | hs | hs; (replace hs : H8 i := (by rw [show i = g8 from hs]; exact (Rfr.atg hr8)); rcases rlH80 i hs with h | h; exact h; (exfalso; omega)); (rcases rlF80 i hs with h | h; exact h; (exfalso; omega)); (rcases rlG80 i hs with h | h; exact h; (exfalso; omega)))
  replace hx8 := DLd.keep hx8 hk47 (fun q hq hs => by rcases hs with hs | hs | hs; exact hpr8.dHX q (by rw [show q = g8 from hs]; exact (Rfr.atg hr8)) hq; exact hpr8.dFX q hs hq; exact hpr8.dGX q hs hq)
  replace hy8 := DVt.keep hy8 hk47 (fun q hq hs => by rcases hs with hs | hs | hs; exact hpr8.dHY q (by rw [show q = g8 from hs]; exact (Rfr.atg hr8)) hq; exact hpr8.dFY q hs hq; exact hpr8.dGY q hs hq)
  replace hz8 := DRf.keep hz8 hk47 (fun q hq hs => by rcases hs with hs | hs | hs; exact hpr8.dHZ q (by rw [show q = g8 from hs]; exact (Rfr.atg hr8)) hq; exact hpr8.dFZ q hs hq; exact hpr8.dGZ q hs hq)
  have own66 : ∀ q, F49 q → w.heap.size ≤ q ∧ q ≠ b8 := fun q hq => by rcases hfr51 q hq with h | h; (have h1 := owH8 q h; have h2 := ltH8 q h; omega); omega
  have lt65 := Rfr.lt ho50
  have rel67 : ∀ q, F49 q → B9 q ∨ w6.heap.size ≤ q := fun q hq => by rcases hfr51 q hq with h | h; exact rlH80 q h; exact .inr (by omega)
  have rel68 : ∀ q, F49 q → F15 q ∨ w19.heap.size ≤ q := fun q hq => by rcases hfr51 q hq with h | h; exact rbH8 q h; exact .inr (by omega)
  have dis69 : ∀ q, F49 q → ¬ X8 q := fun q h1 h2 => by rcases hfr51 q h1 with h | h; exact hpr8.dHX q h h2; (have h4 := ltX8 q h2; omega)
  have dis70 : ∀ q, F49 q → ¬ Y8 q := fun q h1 h2 => by rcases hfr51 q h1 with h | h; exact hpr8.dHY q h h2; (have h4 := ltY8 q h2; omega)
  have dis71 : ∀ q, F49 q → ¬ Z8 q := fun q h1 h2 => by rcases hfr51 q h1 with h | h; exact hpr8.dHZ q h h2; (have h4 := ltZ8 q h2; omega)
  have own73 : ∀ q, F52 q → w.heap.size ≤ q ∧ q ≠ b8 := fun q hq => by rcases hfr54 q hq with h | h; (have h1 := owF8 q h; have h2 := ltF8 q h; omega); omega
  have lt72 := VotT.lt ho53
  have rel74 : ∀ q, F52 q → B9 q ∨ w6.heap.size ≤ q := fun q hq => by rcases hfr54 q hq with h | h; exact rlF80 q h; exact .inr (by omega)
  have rel75 : ∀ q, F52 q → F15 q ∨ w19.heap.size ≤ q := fun q hq => by rcases hfr54 q hq with h | h; exact rbF8 q h; exact .inr (by omega)
  have dis76 : ∀ q, F52 q → ¬ X8 q := fun q h1 h2 => by rcases hfr54 q h1 with h | h; exact hpr8.dFX q h h2; (have h4 := ltX8 q h2; omega)
  have dis77 : ∀ q, F52 q → ¬ Y8 q := fun q h1 h2 => by rcases hfr54 q h1 with h | h; exact hpr8.dFY q h h2; (have h4 := ltY8 q h2; omega)
  have dis78 : ∀ q, F52 q → ¬ Z8 q := fun q h1 h2 => by rcases hfr54 q h1 with h | h; exact hpr8.dFZ q h h2; (have h4 := ltZ8 q h2; omega)
  have own80 : ∀ q, F55 q → w.heap.size ≤ q ∧ q ≠ b8 := fun q hq => by rcases hfr57 q hq with h | h; (have h1 := owG8 q h; have h2 := ltG8 q h; omega); omega
  have lt79 := Led.lt ho56
  have rel81 : ∀ q, F55 q → B9 q ∨ w6.heap.size ≤ q := fun q hq => by rcases hfr57 q hq with h | h; exact rlG80 q h; exact .inr (by omega)
  have rel82 : ∀ q, F55 q → F15 q ∨ w19.heap.size ≤ q := fun q hq => by rcases hfr57 q hq with h | h; exact rbG8 q h; exact .inr (by omega)
  have dis83 : ∀ q, F55 q → ¬ X8 q := fun q h1 h2 => by rcases hfr57 q h1 with h | h; exact hpr8.dGX q h h2; (have h4 := ltX8 q h2; omega)
  have dis84 : ∀ q, F55 q → ¬ Y8 q := fun q h1 h2 => by rcases hfr57 q h1 with h | h; exact hpr8.dGY q h h2; (have h4 := ltY8 q h2; omega)
  have dis85 : ∀ q, F55 q → ¬ Z8 q := fun q h1 h2 => by rcases hfr57 q h1 with h | h; exact hpr8.dGZ q h h2; (have h4 := ltZ8 q h2; omega)
  have ltA48 := SlT.lt hA48
  have dis86 : ∀ q, inA A48 q → ¬ X8 q := fun q h1 h2 => by have h3 := ow48 q h1; have h4 := ltX8 q h2; omega
  have dis87 : ∀ q, inA A48 q → ¬ Y8 q := fun q h1 h2 => by have h3 := ow48 q h1; have h4 := ltY8 q h2; omega
  have dis88 : ∀ q, inA A48 q → ¬ Z8 q := fun q h1 h2 => by have h3 := ow48 q h1; have h4 := ltZ8 q h2; omega
  replace ho50 : Rfr F49 w46 r8 g8 actTs ((doD actTs x40 (i : Int) x26 q).2.2).rs := ho50
  replace ho53 : VotT F52 w46 v8 (((doD actTs x40 (i : Int) x26 q).2.2).s) := ho53
  replace ho56 : Led F55 w46 l8 ((doD actTs x40 (i : Int) x26 q).2.2).xs ((doD actTs x40 (i : Int) x26 q).2.2).cs := ho56
  refine Gn [] [2, 3, 9, 10, 11, 12] <| GI_end <| X_then <| V_seq <| V_draws (acts [21]) (fun q => q ≠ b8 ∧ q ≠ b25 ∧ q ≠ b33) [[0, 1, 2, 3, 4, 5, 6, 7, 8, 9, 10, 11, 12, 13, 14, 15, 16, 17, 18, 19, 20, 21, 22, 23, 24, 25, 26]] (by kernel_rfl) (by repeat first | exact (by first | exact (by first | exact sure_body (by rintro _ _ ⟨_, _, h, _⟩; exact ⟨_, h⟩) | exact sure_body (by rintro _ _ ⟨_, _, h, _⟩; exact ⟨_, h⟩) | exact sure_body (by rintro _ _ ⟨h, _⟩; exact ⟨_, h⟩)) | exact sure_body (by rintro _ _ ⟨_, _, _, h, _⟩; exact ⟨_, h⟩) | exact sure_body (by rintro _ _ ⟨_, h, _⟩; exact ⟨_, h⟩)) | refine sure_then ?_ | refine sure_block ?_ | refine sure_join ?_) (by kernel_rfl) ?_
  intro w90 hk89 he91 L hL92
  have hsz93 := Keep.size hk89
  replace hb8 := hb8.k0 hk89
  replace hat25 := hat25.keep hk89 id
  replace hat33 := hat33.keep hk89 id
  replace hA48 := hA48.keep0 hk89
  replace hreps := fun x9 hx9 => RepIn.keep (hreps x9 hx9) hk89 nk
  replace hk21 := hk21.tn hk89
  replace hx8 := DLd.keep hx8 hk89 nk
  replace hy8 := DVt.keep hy8 hk89 nk
  replace hz8 := DRf.keep hz8 hk89 nk
  replace ho50 := ho50.keep hk89 nk
  replace ho53 := ho53.keep hk89 nk
  replace ho56 := ho56.keep hk89 nk
  have qhb8 := hb8
  have qhat25 := hat25
  have qhat33 := hat33
  have qhA48 := hA48
  have K94 : Keep (fun q => q ≠ b8 ∧ q ≠ b25 ∧ q ≠ b33) w90 w90 := Keep.refl _ _
  obtain rfl := List.mem_singleton.1 hL92
  refine Gn [3, 4, 5, 6, 7, 8, 9, 10, 11, 12, 13, 14, 15, 16, 17, 18, 19, 20, 21, 22, 23, 24, 25, 26] [2, 3, 9, 10, 11, 12, 76] <| Mc 3 (pt x8) qhb8 (by show ¬ (b8 ≠ b8 ∧ b8 ≠ b25 ∧ b8 ≠ b33); omega) rfl <| Gn [7, 8, 9, 10, 11, 12, 13, 14, 15, 16, 17, 18, 19, 20, 21, 22, 23, 24, 25, 26] [2, 3, 9, 10, 11, 12, 77, 80] <| Mc 4 (pt y8) qhb8 (by show ¬ (b8 ≠ b8 ∧ b8 ≠ b25 ∧ b8 ≠ b33); omega) rfl <| Gn [11, 12, 13, 14, 15, 16, 17, 18, 19, 20, 21, 22, 23, 24, 25, 26] [2, 3, 9, 10, 11, 12, 77, 81, 84] <| Mc 5 (pt z8) qhb8 (by show ¬ (b8 ≠ b8 ∧ b8 ≠ b25 ∧ b8 ≠ b33); omega) rfl <| Gs [14, 15, 16, 17, 18, 19, 20, 21, 22, 23, 24, 25, 26] [(2, sl_ b25 o25 ac.length cL),(3, sl_ b33 o33 tk.length cT),(9, pt b8),(10, nt (i : Int)),(11, .slice A48 (((doD actTs x40 (i : Int) x26 q).1).length) cap48),(12, nt ((doD actTs x40 (i : Int) x26 q).2.1)),(77, pt x8),(81, pt y8),(85, pt z8),(86, sl_ b25 o25 ac.length cL),(87, nt (i : Int))] <| Gi (b := b25) (o := o25) (len := ac.length) (cap := cL) (j := i) 26 4 48 .i64 <| GI_aggR 26 (.tmp 88) (o25 + i * 4) (CA.cells x26) (some 89) (by kernel_rfl) (by kernel_rfl) (by kernel_rfl) qhat25.blk (by show ¬ (b25 ≠ b8 ∧ b25 ≠ b25 ∧ b25 ≠ b33); omega) (m := 4) (by kernel_rfl) (AtR.elem' qhat25 _ _ (es_at hx27)) (AtR.len qhat25 (es_at hx27)) <| Gs [18, 19, 20, 21, 22, 23, 24, 25, 26] [(2, sl_ b25 o25 ac.length cL),(3, sl_ b33 o33 tk.length cT),(9, pt b8),(10, nt (i : Int)),(11, .slice A48 (((doD actTs x40 (i : Int) x26 q).1).length) cap48),(12, nt ((doD actTs x40 (i : Int) x26 q).2.1)),(77, pt x8),(81, pt y8),(85, pt z8),(89, .agg (CA.cells x26).toArray),(90, sl_ b33 o33 tk.length cT),(91, nt (i : Int))] <| Gi (b := b33) (o := o33) (len := tk.length) (cap := cT) (j := i) 3 1 8 .i64 <| GI_cellR 3 (.tmp 92) (o33 + i * 1) (nt x40) (some 93) (by kernel_rfl) (by kernel_rfl) (by kernel_rfl) qhat33.blk (by show ¬ (b33 ≠ b8 ∧ b33 ≠ b25 ∧ b33 ≠ b33); omega) (m := 1) (by kernel_rfl) (AtR.cell0 qhat33 (es_at hx41) rfl) <| Gn [21, 22, 23, 24, 25, 26] [2, 3, 9, 10, 11, 12, 77, 81, 85, 89, 93, 94] <| Jg (ddo_all z8 y8 x8 actTs x40 (i : Int) x26 (hcok x26 (List.mem_of_getElem? hx27)) (Bel w) Z8 Y8 X8 q _ (hreps x26 (List.mem_of_getElem? hx27)) hz8 hy8 hx8 (fun q h1 h2 => hpr8.dYZ q h2 h1) (fun q h1 h2 => hpr8.dXZ q h2 h1) (fun q h1 h2 => hpr8.dXY q h2 h1) (fun q hq => ⟨by have h1 : q < w.heap.size := hq; omega, fun h => by have h1 : q < w.heap.size := hq; have h2 := owZ8 q h; omega, fun h => by have h1 : q < w.heap.size := hq; have h2 := owY8 q h; omega, fun h => by have h1 : q < w.heap.size := hq; have h2 := owX8 q h; omega⟩)) ?_
  rintro _ w97 ⟨A99, cap99, rfl, hA99, ow99, ⟨F100, F103, F106, ho101, ho104, ho107, hfr102, hfr105, hfr108, hdis109, hdis110, hdis111, dA112, dA113, dA114⟩, hk98⟩
  refine ⟨_, rfl, ?_⟩
  have hsz115 := Keep.size hk98
  replace hb8 := hb8.keep hk98 (fun hs => by rcases hs with hs | hs | hs; (have u0 := owZ8 _ hs; have u1 := ltZ8 _ hs; omega); (have u0 := owY8 _ hs; have u1 := ltY8 _ hs; omega); (have u0 := owX8 _ hs; have u1 := ltX8 _ hs; omega))
  replace hA48 := hA48.keep hk98 (fun q hq hs => by rcases hs with hs | hs | hs; exact dis88 q hq hs; exact dis87 q hq hs; exact dis86 q hq hs)
  replace hk21 := Keep.fresh hk21 hk98 (fun i hi hs => by rcases hs with hs | hs | hs; (rcases rlZ80 i hs with h | h; exact h; (exfalso; omega)); (rcases rlY80 i hs with h | h; exact h; (exfalso; omega)); (rcases rlX80 i hs with h | h; exact h; (exfalso; omega)))
  replace ho50 := ho50.keep hk98 (fun q hq hs => by rcases hs with hs | hs | hs; exact dis71 q hq hs; exact dis70 q hq hs; exact dis69 q hq hs)
  replace ho53 := ho53.keep hk98 (fun q hq hs => by rcases hs with hs | hs | hs; exact dis78 q hq hs; exact dis77 q hq hs; exact dis76 q hq hs)
  replace ho56 := ho56.keep hk98 (fun q hq hs => by rcases hs with hs | hs | hs; exact dis85 q hq hs; exact dis84 q hq hs; exact dis83 q hq hs)
  have own117 : ∀ q, F100 q → w.heap.size ≤ q ∧ q ≠ b8 := fun q hq => by rcases hfr102 q hq with h | h; (have h1 := owZ8 q h; have h2 := ltZ8 q h; omega); omega
  have lt116 := DRf.lt ho101
  have rel118 : ∀ q, F100 q → B9 q ∨ w6.heap.size ≤ q := fun q hq => by rcases hfr102 q hq with h | h; exact rlZ80 q h; exact .inr (by omega)
  have rel119 : ∀ q, F100 q → F15 q ∨ w19.heap.size ≤ q := fun q hq => by rcases hfr102 q hq with h | h; exact rbZ8 q h; exact .inr (by omega)
  have dis120 : ∀ q, F100 q → ¬ inA A48 q := fun q h1 h2 => by rcases hfr102 q h1 with h | h; exact dis88 q h2 h; (have h4 := ltA48 q h2; omega)
  have dis121 : ∀ q, F100 q → ¬ F49 q := fun q h1 h2 => by rcases hfr102 q h1 with h | h; exact dis71 q h2 h; (have h4 := lt65 q h2; omega)
  have dis122 : ∀ q, F100 q → ¬ F52 q := fun q h1 h2 => by rcases hfr102 q h1 with h | h; exact dis78 q h2 h; (have h4 := lt72 q h2; omega)
  have dis123 : ∀ q, F100 q → ¬ F55 q := fun q h1 h2 => by rcases hfr102 q h1 with h | h; exact dis85 q h2 h; (have h4 := lt79 q h2; omega)
  have own125 : ∀ q, F103 q → w.heap.size ≤ q ∧ q ≠ b8 := fun q hq => by rcases hfr105 q hq with h | h; (have h1 := owY8 q h; have h2 := ltY8 q h; omega); omega
  have lt124 := DVt.lt ho104
  have rel126 : ∀ q, F103 q → B9 q ∨ w6.heap.size ≤ q := fun q hq => by rcases hfr105 q hq with h | h; exact rlY80 q h; exact .inr (by omega)
  have rel127 : ∀ q, F103 q → F15 q ∨ w19.heap.size ≤ q := fun q hq => by rcases hfr105 q hq with h | h; exact rbY8 q h; exact .inr (by omega)
  have dis128 : ∀ q, F103 q → ¬ inA A48 q := fun q h1 h2 => by rcases hfr105 q h1 with h | h; exact dis87 q h2 h; (have h4 := ltA48 q h2; omega)
  have dis129 : ∀ q, F103 q → ¬ F49 q := fun q h1 h2 => by rcases hfr105 q h1 with h | h; exact dis70 q h2 h; (have h4 := lt65 q h2; omega)
  have dis130 : ∀ q, F103 q → ¬ F52 q := fun q h1 h2 => by rcases hfr105 q h1 with h | h; exact dis77 q h2 h; (have h4 := lt72 q h2; omega)
  have dis131 : ∀ q, F103 q → ¬ F55 q := fun q h1 h2 => by rcases hfr105 q h1 with h | h; exact dis84 q h2 h; (have h4 := lt79 q h2; omega)
  have own133 : ∀ q, F106 q → w.heap.size ≤ q ∧ q ≠ b8 := fun q hq => by rcases hfr108 q hq with h | h; (have h1 := owX8 q h; have h2 := ltX8 q h; omega); omega
  have lt132 := DLd.lt ho107
  have rel134 : ∀ q, F106 q → B9 q ∨ w6.heap.size ≤ q := fun q hq => by rcases hfr108 q hq with h | h; exact rlX80 q h; exact .inr (by omega)
  have rel135 : ∀ q, F106 q → F15 q ∨ w19.heap.size ≤ q := fun q hq => by rcases hfr108 q hq with h | h; exact rbX8 q h; exact .inr (by omega)
  have dis136 : ∀ q, F106 q → ¬ inA A48 q := fun q h1 h2 => by rcases hfr108 q h1 with h | h; exact dis86 q h2 h; (have h4 := ltA48 q h2; omega)
  have dis137 : ∀ q, F106 q → ¬ F49 q := fun q h1 h2 => by rcases hfr108 q h1 with h | h; exact dis69 q h2 h; (have h4 := lt65 q h2; omega)
  have dis138 : ∀ q, F106 q → ¬ F52 q := fun q h1 h2 => by rcases hfr108 q h1 with h | h; exact dis76 q h2 h; (have h4 := lt72 q h2; omega)
  have dis139 : ∀ q, F106 q → ¬ F55 q := fun q h1 h2 => by rcases hfr108 q h1 with h | h; exact dis83 q h2 h; (have h4 := lt79 q h2; omega)
  have ltA99 := SlT.lt hA99
  have dis140 : ∀ q, inA A99 q → ¬ F49 q := fun q h1 h2 => by have h3 := ow99 q h1; have h4 := lt65 q h2; omega
  have dis141 : ∀ q, inA A99 q → ¬ F52 q := fun q h1 h2 => by have h3 := ow99 q h1; have h4 := lt72 q h2; omega
  have dis142 : ∀ q, inA A99 q → ¬ F55 q := fun q h1 h2 => by have h3 := ow99 q h1; have h4 := lt79 q h2; omega
  replace ho107 : DLd F106 w97 x8 ((doD actTs x40 (i : Int) x26 q).2.2).xs ((doD actTs x40 (i : Int) x26 q).2.2).cs := ho107
  replace ho104 : DVt F103 w97 y8 (((doD actTs x40 (i : Int) x26 q).2.2).s) := ho104
  replace ho101 : DRf F100 w97 z8 actTs ((doD actTs x40 (i : Int) x26 q).2.2).rs := ho101
  refine Gn [] [2, 3, 9, 10, 11, 12, 13, 14] <| GI_end <| X_then <| V_seq <| Vr <| On 4 [2, 3, 9, 10, 11, 13, 101] <| Oq (u := .bool (!(decide ((doD actTs x40 (i : Int) x26 q).2.1 = (doD actTs x40 (i : Int) x26 q).2.1)))) (v := .bool false) 101 (by rw [decide_eq_true (rfl : (doD actTs x40 (i : Int) x26 q).2.1 = (doD actTs x40 (i : Int) x26 q).2.1)]; rfl) <| On 11 [2, 3, 9, 10, 11, 13, 102, 103, 104, 105, 106, 108] <| Oq (u := .bool (!(decide (((((doD actTs x40 (i : Int) x26 q).1).length : Nat) : Int) = ((((doD actTs x40 (i : Int) x26 q).1).length : Nat) : Int))))) (v := .bool false) 108 (by rw [decide_eq_true (rfl : ((((doD actTs x40 (i : Int) x26 q).1).length : Nat) : Int) = ((((doD actTs x40 (i : Int) x26 q).1).length : Nat) : Int))]; rfl) <| On 12 [2, 3, 9, 10, 11, 13, 102, 103, 104, 105, 106, 108, 109] ?_
  obtain ⟨B147, ho148, hfr149⟩ := PrX.pack (B := F15) (N := w19.heap.size) (ts := actTs) (q := ((doD actTs x40 (i : Int) x26 q).2.2)) hb8 ho50 ho53 ho56 ho107 ho104 ho101 hdis58 hdis59 (fun q h1 h2 => dis137 q h2 h1) (fun q h1 h2 => dis129 q h2 h1) (fun q h1 h2 => dis121 q h2 h1) hdis60 (fun q h1 h2 => dis138 q h2 h1) (fun q h1 h2 => dis130 q h2 h1) (fun q h1 h2 => dis122 q h2 h1) (fun q h1 h2 => dis139 q h2 h1) (fun q h1 h2 => dis131 q h2 h1) (fun q h1 h2 => dis123 q h2 h1) (fun q h1 h2 => hdis111 q h2 h1) (fun q h1 h2 => hdis110 q h2 h1) (fun q h1 h2 => hdis109 q h2 h1) (fun q h => by have h1 := own66 q h; omega) (fun q h => by have h1 := own73 q h; omega) (fun q h => by have h1 := own80 q h; omega) (fun q h => by have h1 := own133 q h; omega) (fun q h => by have h1 := own125 q h; omega) (fun q h => by have h1 := own117 q h; omega) hBb8 rel68 rel75 rel82 rel135 rel127 rel119
  have own151 : ∀ q, B147 q → w.heap.size ≤ q := fun q hq => by rcases hfr149 q hq with h | h; (have h1 := own17 q h; have h2 := lt23 q h; omega); omega
  have lt150 := Pr.lt ho148
  have rel152 : ∀ q, B147 q → B9 q ∨ w6.heap.size ≤ q := fun q hq => by rcases hfr149 q hq with h | h; exact rel18 q h; exact .inr (by omega)
  refine Kk (alike_ac B147 b8 ((doD actTs x40 (i : Int) x26 q).2.2) _ ho148) fun w145 hk146 _ => ?_
  replace hk21 := hk21.tn hk146
  replace ho148 := Pr.keep ho148 hk146 nk
  refine Oen [2, 3, 9, 10, 11, 13, 102, 103, 104, 105, 106, 109, 110, 111, 112] <| Vf <| Vsk <| Vn [2, 3, 9, 10, 11, 13, 15, 102, 103, 104, 105, 106, 109, 110, 111] <| V_block ?_
  have hevl : ((doD actTs x40 (i : Int) x26 q).1).length ≤ 300 := doD_len
  refine Vp [(2, sl_ b25 o25 ac.length cL),(3, sl_ b33 o33 tk.length cT),(9, pt b8),(10, nt (i : Int)),(11, .slice A48 (((doD actTs x40 (i : Int) x26 q).1).length) cap48),(13, .slice A99 (((doD actTs x40 (i : Int) x26 q).1).length) cap99),(15, nt 0),(102, .slice A48 (((doD actTs x40 (i : Int) x26 q).1).length) cap48),(103, nt ((((doD actTs x40 (i : Int) x26 q).1).length : Nat) : Int)),(104, .slice A99 (((doD actTs x40 (i : Int) x26 q).1).length) cap99),(105, nt ((((doD actTs x40 (i : Int) x26 q).1).length : Nat) : Int)),(106, .bool (!(decide (((((doD actTs x40 (i : Int) x26 q).1).length : Nat) : Int) = ((((doD actTs x40 (i : Int) x26 q).1).length : Nat) : Int))))),(109, pt b8),(110, .bool true),(111, .bool false)] <| V_loop (fun k wI e => ∃ j : Nat, (k + j = ((doD actTs x40 (i : Int) x26 q).1).length) ∧ Keep none_ w145 wI ∧ e = [(2, sl_ b25 o25 ac.length cL),(3, sl_ b33 o33 tk.length cT),(9, pt b8),(10, nt (i : Int)),(11, .slice A48 (((doD actTs x40 (i : Int) x26 q).1).length) cap48),(13, .slice A99 (((doD actTs x40 (i : Int) x26 q).1).length) cap99),(15, nt (j : Int)),(102, .slice A48 (((doD actTs x40 (i : Int) x26 q).1).length) cap48),(103, nt ((((doD actTs x40 (i : Int) x26 q).1).length : Nat) : Int)),(104, .slice A99 (((doD actTs x40 (i : Int) x26 q).1).length) cap99),(105, nt ((((doD actTs x40 (i : Int) x26 q).1).length : Nat) : Int)),(106, .bool (!(decide (((((doD actTs x40 (i : Int) x26 q).1).length : Nat) : Int) = ((((doD actTs x40 (i : Int) x26 q).1).length : Nat) : Int))))),(109, pt b8),(110, .bool true),(111, .bool false)]) (((doD actTs x40 (i : Int) x26 q).1).length) ⟨0, by omega, Keep.refl _ _, rfl⟩ ?_
  rintro k155 w154 _ ⟨j, hkj, hk156, rfl⟩
  have hsz157 := Keep.size hk156
  replace hA48 := hA48.keep0 (hk146.tr hk156)
  replace hA99 := hA99.keep0 (hk146.tr hk156)
  replace hk21 := hk21.tn hk156
  replace ho148 := Pr.keep ho148 hk156 nk
  have hzhk156 := Keep.size hk156
  refine V_seq <| Vn [2, 3, 9, 10, 11, 13, 15, 102, 103, 104, 105, 106, 109, 110, 111, 116] <| Vi ((j : Int) < ((((doD actTs x40 (i : Int) x26 q).1).length : Nat) : Int)) (fun hc158 => ?_) (fun hc158 => ?_)
  ·
   refine Vsk <| V_seq <| V_block <| V_seq <| V_draws (acts []) none_ [[0, 1, 2, 3, 4, 5, 6, 7, 8]] (by kernel_rfl) (by repeat first | exact (by first | exact (by first | exact sure_body (by rintro _ _ ⟨_, _, h, _⟩; exact ⟨_, h⟩) | exact sure_body (by rintro _ _ ⟨_, _, h, _⟩; exact ⟨_, h⟩) | exact sure_body (by rintro _ _ ⟨h, _⟩; exact ⟨_, h⟩)) | exact sure_body (by rintro _ _ ⟨_, _, _, h, _⟩; exact ⟨_, h⟩) | exact sure_body (by rintro _ _ ⟨_, h, _⟩; exact ⟨_, h⟩)) | refine sure_then ?_ | refine sure_block ?_ | refine sure_join ?_) (by kernel_rfl) ?_
   intro w160 hk159 he161 L hL162
   have hsz163 := Keep.size hk159
   replace hA48 := hA48.keep0 hk159
   replace hA99 := hA99.keep0 hk159
   replace hk156 := hk156.tn hk159
   have qhA48 := hA48
   have qhA99 := hA99
   have K164 : Keep none_ w160 w160 := Keep.refl _ _
   obtain rfl := List.mem_singleton.1 hL162
   refine Gn [2, 3, 4, 5, 6, 7, 8] [2, 3, 9, 10, 11, 13, 15, 102, 103, 104, 105, 106, 109, 110, 111, 119, 120] ?_
   obtain ⟨b165, o165, L165, T165, rfl, hat165⟩ := SlT.opn hA48
   have hb165lt := hat165.blk.lt
   have hob166 := ow48 b165 ⟨_, rfl, rfl⟩
   have hob167 := ltA48 b165 ⟨_, rfl, rfl⟩
   obtain ⟨qL165, qT165, qhat165⟩ := SlT.openA qhA48 (by first | omega | (simp; done) | (simp; omega))
   refine Gi (b := b165) (o := o165) (len := ((doD actTs x40 (i : Int) x26 q).1).length) (cap := cap48) (j := j) 52 3 24 .i64 ?_
   obtain ⟨x168, hx169⟩ := exAt (xs := (doD actTs x40 (i : Int) x26 q).1) (i := j)
   refine Ma (o165 + j * 3) (Evt.cells x168) 3 qhat165.blk id (At.elem' qhat165 (es_at hx169)) (At.len qhat165 (es_at hx169)) <| Gn [6, 7, 8] [2, 3, 9, 10, 11, 13, 15, 102, 103, 104, 105, 106, 109, 110, 111, 122, 123, 124] ?_
   obtain ⟨b170, o170, L170, T170, rfl, hat170⟩ := SlT.opn hA99
   have hb170lt := hat170.blk.lt
   have hob171 := ow99 b170 ⟨_, rfl, rfl⟩
   have hob172 := ltA99 b170 ⟨_, rfl, rfl⟩
   obtain ⟨qL170, qT170, qhat170⟩ := SlT.openA qhA99 (by first | omega | (simp; done) | (simp; omega))
   refine Gi (b := b170) (o := o170) (len := ((doD actTs x40 (i : Int) x26 q).1).length) (cap := cap99) (j := j) 52 3 24 .i64 <| Ma (o170 + j * 3) (Evt.cells x168) 3 qhat170.blk id (At.elem' qhat170 (es_at hx169)) (At.len qhat170 (es_at hx169)) <| GI_pure (some 127) ((Op.binOp BinOp.neq 52 (Operand.tmp 122) (Operand.tmp 126) 52)) (by kernel_rfl) (by kernel_rfl) (pure_neq_same (xs := Evt.cells x168) (by kernel_rfl) (by kernel_rfl) (by kernel_rfl) (by kernel_rfl)) <| GI_end <| X_then <| Vf <| V_skip <| X_block <| X_then <| V_region ?_
   have hw173 : i64.wrap ((j : Int) + 1) = ((j + 1 : Nat) : Int) := wrp
   refine On 2 [2, 3, 9, 10, 11, 13, 102, 103, 104, 105, 106, 109, 110, 111, 118] <| Oq (u := nt (i64.wrap ((j : Int) + 1))) (v := nt ((j + 1 : Nat) : Int)) 118 (by rw [hw173]) <| Os 3 [(2, sl_ b25 o25 ac.length cL),(3, sl_ b33 o33 tk.length cT),(9, pt b8),(10, nt (i : Int)),(11, sl_ b165 o165 (((doD actTs x40 (i : Int) x26 q).1).length) cap48),(13, sl_ b170 o170 (((doD actTs x40 (i : Int) x26 q).1).length) cap99),(15, nt ((j + 1 : Nat) : Int)),(102, sl_ b165 o165 (((doD actTs x40 (i : Int) x26 q).1).length) cap48),(103, nt ((((doD actTs x40 (i : Int) x26 q).1).length : Nat) : Int)),(104, sl_ b170 o170 (((doD actTs x40 (i : Int) x26 q).1).length) cap99),(105, nt ((((doD actTs x40 (i : Int) x26 q).1).length : Nat) : Int)),(106, .bool (!(decide (((((doD actTs x40 (i : Int) x26 q).1).length : Nat) : Int) = ((((doD actTs x40 (i : Int) x26 q).1).length : Nat) : Int))))),(109, pt b8),(110, .bool true),(111, .bool false)] <| OI_end rfl ?_
   exact V_again (k155 - 1) (by omega) [(2, sl_ b25 o25 ac.length cL),(3, sl_ b33 o33 tk.length cT),(9, pt b8),(10, nt (i : Int)),(11, sl_ b165 o165 (((doD actTs x40 (i : Int) x26 q).1).length) cap48),(13, sl_ b170 o170 (((doD actTs x40 (i : Int) x26 q).1).length) cap99),(15, nt ((j + 1 : Nat) : Int)),(102, sl_ b165 o165 (((doD actTs x40 (i : Int) x26 q).1).length) cap48),(103, nt ((((doD actTs x40 (i : Int) x26 q).1).length : Nat) : Int)),(104, sl_ b170 o170 (((doD actTs x40 (i : Int) x26 q).1).length) cap99),(105, nt ((((doD actTs x40 (i : Int) x26 q).1).length : Nat) : Int)),(106, .bool (!(decide (((((doD actTs x40 (i : Int) x26 q).1).length : Nat) : Int) = ((((doD actTs x40 (i : Int) x26 q).1).length : Nat) : Int))))),(109, pt b8),(110, .bool true),(111, .bool false)] rfl ⟨j + 1, by omega, hk156, rfl⟩
  refine V_exit <| X_exit_then <| X_exit_then <| X_exit_here <| X_block <| X_then <| V_region ?_
  have hw174 : i64.wrap ((i : Int) + 1) = ((i + 1 : Nat) : Int) := wrp
  refine On 2 [2, 3, 9, 41, 102, 103, 104, 105, 106, 109, 110, 111] <| Oq (u := nt (i64.wrap ((i : Int) + 1))) (v := nt ((i + 1 : Nat) : Int)) 41 (by rw [hw174]) <| Os 3 [(2, sl_ b25 o25 ac.length cL),(3, sl_ b33 o33 tk.length cT),(9, pt b8),(10, nt ((i + 1 : Nat) : Int)),(102, .slice A48 (((doD actTs x40 (i : Int) x26 q).1).length) cap48),(103, nt ((((doD actTs x40 (i : Int) x26 q).1).length : Nat) : Int)),(104, .slice A99 (((doD actTs x40 (i : Int) x26 q).1).length) cap99),(105, nt ((((doD actTs x40 (i : Int) x26 q).1).length : Nat) : Int)),(106, .bool (!(decide (((((doD actTs x40 (i : Int) x26 q).1).length : Nat) : Int) = ((((doD actTs x40 (i : Int) x26 q).1).length : Nat) : Int))))),(109, pt b8),(110, .bool true),(111, .bool false)] <| OI_end rfl ?_
  exact V_again (k20 - 1) (by omega) [(2, sl_ b25 o25 ac.length cL),(3, sl_ b33 o33 tk.length cT),(9, pt b8),(10, nt ((i + 1 : Nat) : Int))] rfl ⟨i + 1, ((doD actTs x40 (i : Int) x26 q).2.2), B147, by omega, by omega, ho148, (fun q hq => by have h1 := own151 q hq; have h2 := lt150 q hq; omega), rel152, hk21, rfl⟩
 refine V_exit <| X_exit_then <| X_exit_then <| X_exit_here <| X_then <| Vr <| Kk (known_spec _) fun w179 hk180 _ => ?_
 replace hK0 := hK0.tn hk180
 exact Oen [8] <| Rr (.bool true) ⟨rfl, hK0⟩
end Go.Al
namespace Go.Al
open Go Go.RowKit Go.Proofs
theorem lift_int (x : List Value) (h : Flat [.int .i64] x) : ∃ y : Int, intc y = x := by
  match x, h with
  | [], h => exact h.elim
  | [_], h => obtain ⟨⟨n, rfl, _⟩, _⟩ := h; exact ⟨n, rfl⟩
  | _ :: _ :: _, h => exact h.2.elim
theorem over_ActDoes {H : Type} {enc : TypeId × Value → H} {A L T : Option Addr} {len cap lenl capl lent capt : Nat} {d dl dt : DataW H} {ps pl pt9 : List MemPlace} {w : World} (h : DataW.Trod enc Tryz.prog w 0 (fun _ => true) true 49 (.slice A len cap) d ps) (refs : Int) (hl : DataW.Trod enc Tryz.prog w 0 (fun _ => true) true 24 (.slice L lenl capl) dl pl) (ht : DataW.Trod enc Tryz.prog w 0 (fun _ => true) true 49 (.slice T lent capt) dt pt9) : Calls Tryz.prog 7 #[.slice A len cap, nt refs, .slice L lenl capl, .slice T lent capt] w (rk_ w (.bool true)) := by
  obtain ⟨xs, rfl, hA, hl1, hc⟩ := read_elems (f := intc) (ks := [.int .i64]) (n := 1) (sz := 1) lift_int Tryz.underlying49 (by kernel_rfl) (by kernel_rfl) rfl (by decide) h
  obtain ⟨ys, rfl, hT, hl2, hc2⟩ := read_elems (f := intc) (ks := [.int .i64]) (n := 1) (sz := 1) lift_int Tryz.underlying49 (by kernel_rfl) (by kernel_rfl) rfl (by decide) ht
  obtain ⟨fuel, hf⟩ := hl
  obtain ⟨ks, hk1, hk2, hk3, hk4, hk5⟩ := read_sliceQ (sz := 4) (Q := fun cs => ∃ c : CA, c.cells = cs ∧ RepIn (Bel w) w c ∧ CAok c) Tryz.underlying24 (by kernel_rfl) (by decide) hf (fun n' cs' z' hn' hz' => by
    have hr := read_call n' cs' z' hz'
    exact ⟨by obtain ⟨c, hc, _⟩ := hr; rw [← hc]; exact CA.len c, hr⟩)
  obtain ⟨kl, hkl, hkr⟩ := lift_Q (f := CA.cells) ks hk2
  subst hkl
  have hk1' : kl.length = lenl := by simpa using hk1
  subst hk1'
  exact walk_ActDoes A L T cap capl capt xs refs kl ys w hA hk3.conv hT (fun x hx => (hkr x hx).2) (fun x hx => (hkr x hx).1) (by unfold maxLen at hc; omega) (by unfold maxLen at hk5; omega) (by unfold maxLen at hc2; omega)
end Go.Al
